/- The statement TwiceTrueSaid: the call returns true for every input, and its arguments read as before; no condition. -/
import Derived.Test.YtedihdnkalmoiaaB4
import Derived.Below
import Derived.ChangeArms
import Derived.DataReads
import Derived.WideShapes
import Derived.Carry
import Derived.OpenShut
import Derived.RowKit3
import Derived.ProofKit
import Derived.ChangeCalls
import Derived.Test.YtedihdnkalmoiaaRows
set_option linter.unusedVariables false
set_option linter.unusedSimpArgs false
/- From a contract over plain values to the call itself: what it hands back, and that nothing that was there has turned. -/
namespace Go.Gh
open Go.RowKit
variable {Pg : Program}

/-- Where no code waits for a yield. -/
def Env.base (Pg : Program) : Env Pg where
  α := Unit
  yv := .nilFunc
  one := rfl
  Res := fun _ S _ _ => ∀ b, ¬ S b
  Can := fun _ _ => False
  Y := fun _ _ _ _ => False
  stable := fun h _ _ _ _ _ => h
  ycall := fun h => h.elim
/-- What a world's cells hold. -/
def cellsP (w : World) : PM := fun b o => w.cell? ⟨b, o, none⟩
theorem base_rel (w : World) : Rel (Env.base Pg) (cellsP w) (fun _ => ⟨0, .nilFunc, 0⟩) (mkHp []) () (fun _ => False) w where
  know := fun _ _ _ h => h
  objs := fun id => by simp [ORel, mkHp_nil]
  apart := fun i j b hij h => by simp [live, mkHp_nil] at h
  sep := fun i b h => by simp [live, mkHp_nil] at h
  res := fun b h => h
  inb := fun b h => h.elim
theorem calls_of {f : FuncId} {ps : List P} {v : P} {vs : List Value} {w : World} (hs : PSpec Pg f ps (.ok v)) (hv : PRels (cellsP w) ps vs) :
    Calls Pg f ⟨vs⟩ w fun e w' => ∃ u π', e = .returned u ∧ PRel π' v u ∧ Below w.heap.size w w' := by
  have h := hs (Env.base Pg) () (cellsP w) (fun _ => ⟨0, .nilFunc, 0⟩) (fun _ => False) w vs (base_rel w) (VRels.of_PRels hv)
  refine (callsIn_wide.1 h).mono fun e w' k => ?_
  have key : ∀ {π' ρ' h' A' S'}, Behind (Env.base Pg) (cellsP w) (fun _ => ⟨0, .nilFunc, 0⟩) (mkHp []) (fun _ => False) w π' ρ' h' A' S' w' → Below w.heap.size w w' := fun b => by
    have t := b.trans
    refine ⟨t.os, t.tape, t.output, t.size, fun b hb => (t.keep b hb fun ho => ?_).1⟩
    rcases ho with ho | ⟨id, ho⟩
    · exact ho
    · simp [live, mkHp_nil] at ho
  cases e with
  | returned u =>
    obtain ⟨π', ρ', h', A', S', g, b, hvr, _, hR⟩ := k
    simp only [PRes.at, GRes.ok.injEq] at hR
    obtain ⟨rfl, _, _⟩ := hR
    exact ⟨u, π', rfl, by simpa only [VRel] using hvr, key b⟩
  | panicked chain =>
    obtain ⟨π', ρ', h', A', S', p, v', b, _, _, hR⟩ := k
    simp [PRes.at] at hR
  | outgrown => exact k.elim
end Go.Gh

/- What a call's arguments hold, read as data, are ghost values of the shape that their types have. -/
namespace Go.Gh
open Go.RowKit

/-- The shape of one cell. -/
inductive S where
  | bool | int (k : IntKind) | str
  | list (es : List S) (agg : Bool)

/-- The shape of a type's cells, as far as we read them: slices of slices are left out. -/
def shpF (sh : TypeId → Option (List S)) (P : Program) : List Field → Nat → Option (List S)
  | [], _ => some []
  | f :: fs, o => (sh f.type).bind fun a => if f.offset = o ∧ P.cellsOf f.type = a.length then (shpF sh P fs (o + a.length)).map (a ++ ·) else none
def shp (P : Program) : Nat → Bool → TypeId → Option (List S)
  | 0, _, _ => none
  | n + 1, deep, t => match P.underlying t with
    | some .bool => some [.bool]
    | some (.int k) => some [.int k]
    | some .string => some [.str]
    | some (.slice e) => if deep then none else (shp P n true e).bind fun es => if P.cellsOf e = es.length then (match P.underlying e with
      | some (.struct _) => some [.list es true]
      | some (.array _ _) => some [.list es true]
      | _ => if es.length = 1 then some [.list es false] else none) else none
    | some (.struct fs) => shpF (shp P n deep) P fs.toList 0
    | some (.array m e) => (shp P n deep e).bind fun es => if P.cellsOf e = es.length then some (List.replicate m es).flatten else none
    | _ => none

mutual
def Fits : S → P → Prop
  | .bool, x => ∃ b, x = .bool b
  | .int k, x => ∃ n, x = .int k n ∧ (Lit.int k n).wf = true
  | .str, x => ∃ s, x = .str s ∧ s.length ≤ maxLen
  | .list es agg, x => ∃ xs, x = .list xs ∧ xs.length ≤ maxLen ∧ ∀ y ∈ xs, ∃ cs, Fitss es cs ∧ (agg = true → y = .agg cs) ∧ (agg = false → cs = [y])
def Fitss : List S → List P → Prop
  | [], xs => xs = []
  | e :: es, xs => ∃ y ys, xs = y :: ys ∧ Fits e y ∧ Fitss es ys
end
theorem Fits.one {s : S} {x : P} (h : Fits s x) : x.one = true := by
  cases s <;> simp only [Fits] at h
  · obtain ⟨_, rfl⟩ := h; rfl
  · obtain ⟨_, rfl, _⟩ := h; rfl
  · obtain ⟨_, rfl, _⟩ := h; rfl
  · obtain ⟨_, rfl, _⟩ := h; rfl
theorem Fitss.length : ∀ {ss : List S} {xs : List P}, Fitss ss xs → xs.length = ss.length
  | [], xs, h => by simp only [Fitss] at h; subst h; rfl
  | s :: ss, xs, h => by
    simp only [Fitss] at h
    obtain ⟨y, ys, rfl, _, k⟩ := h
    simp [Fitss.length k]
theorem Fitss.one : ∀ {ss : List S} {xs : List P}, Fitss ss xs → ∀ x ∈ xs, x.one = true
  | [], xs, h, x, hx => by simp only [Fitss] at h; subst h; simp at hx
  | s :: ss, xs, h, x, hx => by
    simp only [Fitss] at h
    obtain ⟨y, ys, rfl, k1, k2⟩ := h
    rcases List.mem_cons.1 hx with rfl | hx
    · exact k1.one
    · exact Fitss.one k2 x hx
theorem Fitss.append : ∀ {ss ts : List S} {xs ys : List P}, Fitss ss xs → Fitss ts ys → Fitss (ss ++ ts) (xs ++ ys)
  | [], ts, xs, ys, h, k => by simp only [Fitss] at h; subst h; simpa using k
  | s :: ss, ts, xs, ys, h, k => by
    simp only [Fitss] at h
    obtain ⟨y, zs, rfl, k1, k2⟩ := h
    simp only [List.cons_append, Fitss]
    exact ⟨y, _, rfl, k1, Fitss.append k2 k⟩
theorem PRels.append' {π : PM} {xs ys : List P} {us vs : List Value} (h : PRels π xs us) (k : PRels π ys vs) : PRels π (xs ++ ys) (us ++ vs) := by
  induction xs generalizing us with
  | nil => simp only [PRels] at h; subst h; simpa using k
  | cons x xs ih =>
    simp only [PRels] at h
    obtain ⟨v, ws, rfl, h1, h2⟩ := h
    simp only [List.cons_append, PRels]
    exact ⟨v, _, rfl, h1, ih h2⟩
/-- No cell leads into a part of an interface value. -/
def Spots (cs : List Value) : Prop := ∀ a len cap, Value.slice (some a) len cap ∈ cs → a.spot = none

variable {H : Type} {enc : TypeId × Value → H} {Pg : Program} {w : World} {base : Nat} {spare : Nat → Bool} {held : Bool}
theorem mapM_get {α β : Type} {f : α → Option β} : ∀ {l : List α} {r : List β}, l.mapM f = some r → r.length = l.length ∧ ∀ (i : Nat) x, l[i]? = some x → f x = r[i]?
  | l, r, h => ⟨mapM_some_length h, fun i x hx => mapM_some_get h i x hx⟩
theorem add_none (b o j : Nat) : (⟨b, o, none⟩ : Addr).add j = ⟨b, o + j, none⟩ := by simp [Addr.add]
/-- A row of cells, relation by relation. -/
theorem row_of {a : Addr} {n : Nat} {cs : List Value} {ps : List P} (hs : a.spot = none) (h : w.cells? base a n = some cs) (hr : PRels (cellsP w) ps cs) (h1 : ∀ x ∈ ps, x.one = true) : PRow (cellsP w) a.block a.off ps := by
  obtain ⟨_, hl, hc⟩ := World.cells?_some h
  refine PRow.mk fun j c hj => ?_
  obtain ⟨u, hu, hk⟩ := hr.get j c hj
  refine ⟨u, ?_, hk, h1 c (List.mem_of_getElem? hj)⟩
  have hjn : j < n := by
    have := (List.getElem?_eq_some_iff.1 hu).1
    omega
  have := hc j hjn
  rw [hu] at this
  rw [← this]
  obtain ⟨b, o, s⟩ := a
  simp only at hs; subst hs
  simp only [cellsP, add_none]
theorem PElems.of_rows {π : PM} {b c : Nat} : ∀ {xs : List P} {o : Nat}, (∀ (i : Nat) x, xs[i]? = some x → x.cells.length = c ∧ PRow π b (o + i * c) x.cells) → PElems π b o xs := by
  intro xs
  induction xs with
  | nil => intro o _; simp only [PElems]
  | cons x xs ih =>
    intro o h
    have h0 := h 0 x (by simp)
    rw [PElems.row, List.flatMap_cons, PRow.append, ← PElems.row]
    refine ⟨by simpa using h0.2, ?_⟩
    rw [h0.1]
    refine ih fun i y hy => ?_
    have := h (i + 1) y (by simpa using hy)
    refine ⟨this.1, ?_⟩
    have e : o + c + i * c = o + (i + 1) * c := by rw [Nat.add_mul]; omega
    rw [e]; exact this.2
theorem exists_list {α : Type} {n : Nat} {R : Nat → α → Prop} (h : ∀ i, i < n → ∃ x, R i x) : ∃ xs : List α, xs.length = n ∧ ∀ (i : Nat) x, xs[i]? = some x → R i x := by
  induction n with
  | zero => exact ⟨[], rfl, fun i x hx => by simp at hx⟩
  | succ n ih =>
    obtain ⟨xs, hl, hx⟩ := ih fun i hi => h i (by omega)
    obtain ⟨x, hr⟩ := h n (by omega)
    refine ⟨xs ++ [x], by simp [hl], fun i y hy => ?_⟩
    by_cases hi : i < n
    · rw [List.getElem?_append_left (by omega)] at hy; exact hx i y hy
    · have hi' : i = n := by
        have := (List.getElem?_eq_some_iff.1 hy).1
        simp [hl] at this; omega
      subst hi'
      rw [List.getElem?_append_right (by omega), hl] at hy
      simp at hy; subst hy; exact hr

theorem Spots.sub {cs ds : List Value} (h : Spots cs) (hs : ∀ v ∈ ds, v ∈ cs) : Spots ds := fun a l c k => h a l c (hs _ k)

theorem shpF_sound {sh : TypeId → Option (List S)} {R : TypeId → List Value → Prop} {cs : List Value}
    (ih : ∀ t ss ds, sh t = some ss → Pg.cellsOf t = ss.length → R t ds → (∀ v ∈ ds, v ∈ cs) → ∃ ps, PRels (cellsP w) ps ds ∧ Fitss ss ps) :
    ∀ (fs : List Field) (o : Nat) (ss : List S), shpF sh Pg fs o = some ss → o + ss.length = cs.length → (∀ f ∈ fs, R f.type ((cs.drop f.offset).take (Pg.cellsOf f.type))) →
      ∃ ps, PRels (cellsP w) ps (cs.drop o) ∧ Fitss ss ps
  | [], o, ss, h, hl, _ => by
    simp only [shpF, Option.some.injEq] at h; subst h
    simp at hl; subst hl
    exact ⟨[], by simp [PRels], by simp [Fitss]⟩
  | f :: fs, o, ss, h, hl, hr => by
    simp only [shpF, Option.bind_eq_some_iff] at h
    obtain ⟨a, ha, h⟩ := h
    split at h
    · rename_i hc
      obtain ⟨rfl, hc⟩ := hc
      simp only [Option.map_eq_some_iff] at h
      obtain ⟨b, hb, rfl⟩ := h
      obtain ⟨p1, q1, g1⟩ := ih f.type a _ ha hc (hr f (by simp)) (fun v hv => List.mem_of_mem_drop (List.mem_of_mem_take hv))
      obtain ⟨p2, q2, g2⟩ := shpF_sound ih fs _ b hb (by simp at hl; omega) (fun g hg => hr g (by simp [hg]))
      refine ⟨p1 ++ p2, ?_, g1.append g2⟩
      have := q1.append' q2
      rw [hc] at this
      rw [← List.drop_drop] at this
      rwa [List.take_append_drop] at this
    · cases h

theorem flat_sound {es : List S} {cs : List Value} {c : Nat} (hc : c = es.length) :
    ∀ (m o : Nat), (∀ i, o ≤ i → i < o + m → ∃ ps, PRels (cellsP w) ps ((cs.drop (i * c)).take c) ∧ Fitss es ps) →
      ∃ ps, PRels (cellsP w) ps ((cs.drop (o * c)).take (m * c)) ∧ Fitss (List.replicate m es).flatten ps := by
  intro m
  induction m with
  | zero => intro o _; exact ⟨[], by simp [PRels], by simp [Fitss]⟩
  | succ m ih =>
    intro o h
    obtain ⟨p1, q1, g1⟩ := h o (by omega) (by omega)
    obtain ⟨p2, q2, g2⟩ := ih (o + 1) fun i h1 h2 => h i (by omega) (by omega)
    refine ⟨p1 ++ p2, ?_, ?_⟩
    · have := q1.append' q2
      have e : (cs.drop (o * c)).take ((m + 1) * c) = (cs.drop (o * c)).take c ++ (cs.drop ((o + 1) * c)).take (m * c) := by
        rw [Nat.add_mul, Nat.one_mul, Nat.add_comm (m * c), List.take_add, List.drop_drop, Nat.add_mul, Nat.one_mul]
      rw [e]; exact this
    · rw [List.replicate_succ, List.flatten_cons]; exact g1.append g2

theorem trod_arr {k : Nat} {t e : TypeId} {m : Nat} {cs : List Value} {x : DataW H × List MemPlace} (ht : Pg.underlying t = some (.array k e)) (h : DataW.trod enc Pg w base spare held m t cs = some x) :
    ∃ n, cs.length = Pg.cellsOf t ∧ ∀ i, i < k → ∃ y, DataW.trod enc Pg w base spare held n e ((cs.drop (i * Pg.cellsOf e)).take (Pg.cellsOf e)) = some y := by
  cases m with
  | zero => simp [DataW.trod] at h
  | succ n =>
    unfold DataW.trod at h
    rw [ht] at h
    split at h <;> simp_all
    obtain ⟨hl, xs, hxs, _⟩ := h
    refine ⟨n, fun i hi => ?_⟩
    obtain ⟨h1, h2⟩ := mapM_get hxs
    have := h2 i i (by simp [hi])
    simp at h1
    exact ⟨_, _, by rw [this]; exact List.getElem?_eq_getElem (by omega)⟩
theorem shp_sound : ∀ (n : Nat) (deep : Bool) (t : TypeId) (ss : List S), shp Pg n deep t = some ss →
    ∀ (m : Nat) (cs : List Value) (x : DataW H × List MemPlace), DataW.trod enc Pg w base spare held m t cs = some x → (deep = false → Spots cs) → Pg.cellsOf t = ss.length →
      ∃ ps, PRels (cellsP w) ps cs ∧ Fitss ss ps := by
  intro n
  induction n with
  | zero => intro _ _ _ h; simp [shp] at h
  | succ n ih =>
    intro deep t ss h m cs x hx hsp hct
    unfold shp at h
    split at h
    · rename_i ht
      simp only [Option.some.injEq] at h; subst h
      obtain ⟨b, rfl, _⟩ := DataW.trod_bool ht hx
      exact ⟨[.bool b], by simp [PRels, PRel], by simp [Fitss, Fits]⟩
    · rename_i k ht
      simp only [Option.some.injEq] at h; subst h
      obtain ⟨b, rfl, _, hw⟩ := DataW.trod_int ht hx
      exact ⟨[.int k b], by simp [PRels, PRel], by simp [Fitss, Fits, hw]⟩
    · rename_i ht
      simp only [Option.some.injEq] at h; subst h
      obtain ⟨s, rfl, _, hw⟩ := DataW.trod_string ht hx
      exact ⟨[.str s.data.toList], by simp [PRels, PRel], by simp [Fitss, Fits]; exact hw⟩
    · rename_i e ht
      split at h
      · cases h
      · rename_i hdeep
        simp only [Option.bind_eq_some_iff] at h
        obtain ⟨es, hes, h⟩ := h
        split at h
        · rename_i hce
          have agg : ∃ g : Bool, ss = [.list es g] ∧ (g = false → es.length = 1) := by
            split at h
            · simp only [Option.some.injEq] at h; subst h; exact ⟨true, rfl, fun k => by cases k⟩
            · simp only [Option.some.injEq] at h; subst h; exact ⟨true, rfl, fun k => by cases k⟩
            · split at h
              · rename_i h1
                simp only [Option.some.injEq] at h; subst h; exact ⟨false, rfl, fun _ => h1⟩
              · cases h
          obtain ⟨g, rfl, hg⟩ := agg
          clear h
          rcases DataW.trod_slice ht hx with ⟨rfl, _⟩ | ⟨a, len, cap, elems, rest, n', _, rfl, _, hb, hl, hm, hlen, hel, _, _⟩
          · refine ⟨[.list []], ?_, by simp [Fitss, Fits]⟩
            simp only [PRels, PRel]
            exact ⟨_, _, rfl, ⟨none, 0, 0, rfl, rfl, Nat.le_refl _, .inl ⟨rfl, rfl⟩⟩, rfl⟩
          · have hspot : a.spot = none := hsp (by simpa using hdeep) a len cap (by simp)
            have each : ∀ i, i < len → ∃ y : P, ∃ cs, PRow (cellsP w) a.block (a.off + i * es.length) cs ∧ cs.length = es.length ∧ y.cells = cs ∧ Fitss es cs ∧ (g = true → y = .agg cs) ∧ (g = false → cs = [y]) := by
              intro i hi
              have hh := hel i hi
              rw [List.getElem?_eq_getElem (by omega)] at hh
              simp only [Option.bind_eq_some_iff] at hh
              obtain ⟨ds, hds, hy⟩ := hh
              obtain ⟨ps, q1, q2⟩ := ih true e es hes _ _ _ hy (fun k => by cases k) hce
              have hrow' : PRow (cellsP w) a.block (a.off + i * es.length) ps := by
                obtain ⟨b, o, s⟩ := a
                simp only at hspot; subst hspot
                rw [add_none] at hds
                have := row_of rfl hds q1 q2.one
                rwa [hce] at this
              cases g with
              | true => exact ⟨.agg ps, ps, hrow', q2.length, rfl, q2, fun _ => rfl, (fun k => by cases k)⟩
              | false =>
                have := hg rfl
                have hl1 := q2.length
                rw [this] at hl1
                obtain ⟨y, rfl⟩ := List.length_eq_one_iff.1 hl1
                refine ⟨y, [y], hrow', by simp [this], ?_, q2, (fun k => by cases k), fun _ => rfl⟩
                have := q2.one y (by simp)
                cases y <;> first | rfl | simp [P.one] at this
            obtain ⟨xs, hxl, hxs⟩ := exists_list each
            refine ⟨[.list xs], ?_, ?_⟩
            · obtain ⟨b, o, s⟩ := a
              simp only at hspot; subst hspot
              simp only [PRels, PRel]
              refine ⟨_, _, rfl, ⟨_, len, cap, rfl, by omega, hl, .inr ⟨b, o, rfl, ?_⟩⟩, rfl⟩
              refine PElems.of_rows (c := es.length) fun i x hi => ?_
              obtain ⟨cs, k1, k2, k3, _⟩ := hxs i x hi
              rw [k3]; exact ⟨k2, k1⟩
            · simp only [Fitss, Fits]
              refine ⟨_, _, rfl, ⟨xs, rfl, by omega, fun y hy => ?_⟩, rfl⟩
              obtain ⟨i, hi⟩ := List.getElem?_of_mem hy
              obtain ⟨cs, _, _, _, k4, k5, k6⟩ := hxs i y hi
              exact ⟨cs, k4, k5, k6⟩
        · cases h
    · rename_i fs ht
      obtain ⟨xs, n', _, _, hl, hxl, hf⟩ := DataW.trod_struct ht hx
      have := shpF_sound (w := w) (Pg := Pg) (sh := shp Pg n deep) (R := fun t ds => ∃ y, DataW.trod enc Pg w base spare held n' t ds = some y) (cs := cs) ?_ fs.toList 0 ss h (by omega) ?_
      · simpa using this
      · rintro t' ss' ds' hs' hc' ⟨y, hy⟩ hsub
        exact ih deep t' ss' hs' _ _ _ hy (fun k => (hsp k).sub hsub) hc'
      · intro f hf'
        obtain ⟨i, hi⟩ := List.getElem?_of_mem hf'
        have hi' : fs[i]? = some f := by simpa using hi
        have := hf i f hi'
        have hlt : i < xs.length := by
          rw [hxl]
          exact (Array.getElem?_eq_some_iff.1 hi').1
        exact ⟨_, by rw [this]; exact List.getElem?_eq_getElem hlt⟩
    · rename_i k e ht
      simp only [Option.bind_eq_some_iff] at h
      obtain ⟨es, hes, h⟩ := h
      split at h
      · rename_i hce
        simp only [Option.some.injEq] at h; subst h
        obtain ⟨n', hl, hf⟩ := trod_arr ht hx
        have hlen : cs.length = k * es.length := by
          rw [hl, hct]; simp
        have := flat_sound (w := w) (cs := cs) (es := es) (c := Pg.cellsOf e) hce k 0 ?_
        · simp only [Nat.zero_mul, List.drop_zero] at this
          rwa [List.take_of_length_le (by rw [hce]; omega)] at this
        · intro i _ hi
          obtain ⟨y, hy⟩ := hf i (by omega)
          exact ih deep e es hes _ _ _ hy (fun q => (hsp q).sub fun v hv => List.mem_of_mem_drop (List.mem_of_mem_take hv)) hce
      · cases h
    · cases h
end Go.Gh

/- The join of a law: from a contract over plain values, for all values of the parameters' shapes, to what the row asks of the call. -/
namespace Go.Gh
open Go.RowKit Go.ChangeShapes Go.WideShapes Go.ChangeAt

def argS (P : Program) (n : Nat) (t : TypeId) : Option (Bool × List S) :=
  match P.underlying t with
  | some (.struct _) => (shp P n false t).bind fun ss => if P.cellsOf t = ss.length then some (true, ss) else none
  | some (.array _ _) => (shp P n false t).bind fun ss => if P.cellsOf t = ss.length then some (true, ss) else none
  | _ => (shp P n false t).bind fun ss => if P.cellsOf t = ss.length ∧ ss.length = 1 then some (false, ss) else none
def argSs (P : Program) (n : Nat) : List TypeId → Option (List (Bool × List S))
  | [] => some []
  | t :: ts => match argS P n t, argSs P n ts with
    | some s, some ss => some (s :: ss)
    | _, _ => none
def FitA : Bool × List S → P → Prop
  | (true, ss), x => ∃ cs, x = .agg cs ∧ Fitss ss cs
  | (false, ss), x => Fitss ss [x]
def FitAs : List (Bool × List S) → List P → Prop
  | [], xs => xs = []
  | s :: ss, xs => ∃ y ys, xs = y :: ys ∧ FitA s y ∧ FitAs ss ys

variable {H : Type} {enc : TypeId × Value → H} {Pg : Program} {W : World} {base : Nat} {spare : Nat → Bool} {held : Bool}
theorem cell_spot {u : TypeId} {a : Addr} {len cap : Nat} {r : Reach} (h : Cell.okWide Pg W r base u (.slice (some a) len cap)) : a.spot = none := by
  unfold Cell.okWide at h
  cases hu : Pg.underlying u with
  | none => simp [hu, Cell.ok] at h
  | some d =>
    rw [hu] at h
    cases d <;> simp [Cell.ok, hu] at h
    exact h.2.2.2.1
theorem agg_spots {t : TypeId} {cs : Array Value} {r : Reach} (h : Row.okWide Pg W r base t cs) : Spots cs.toList := fun a len cap hm => by
  obtain ⟨ts, _, _, h⟩ := h
  obtain ⟨i, hi⟩ := List.getElem?_of_mem hm
  obtain ⟨u, _, hk⟩ := h i _ (by simpa using hi)
  exact cell_spot hk
theorem arg_of {n : Nat} {t : TypeId} {v : Value} {d : DataW H} {p : List MemPlace} {s : Bool × List S} {r : Reach} {b0 : Nat} (h : DataW.Trod enc Pg W base spare held t v d p) (hv : Value.okWide Pg W r b0 t v) (hs : argS Pg n t = some s) :
    ∃ x, PRel (cellsP W) x v ∧ FitA s x := by
  obtain ⟨fuel, h⟩ := h
  have aggs : (∃ cs, v = .agg cs ∧ cs.size = Pg.cellsOf t ∧ Row.okWide Pg W r b0 t cs) → (((shp Pg n false t).bind fun ss => if Pg.cellsOf t = ss.length then some (true, ss) else none) = some s) → ∃ x, PRel (cellsP W) x v ∧ FitA s x := by
    rintro ⟨cs, rfl, hl, ho⟩ hs
    simp only [Option.bind_eq_some_iff] at hs
    obtain ⟨ss, hss, hs⟩ := hs
    split at hs
    · rename_i hc
      simp only [Option.some.injEq] at hs; subst hs
      obtain ⟨ps, q1, q2⟩ := shp_sound n false t ss hss _ _ _ h (fun _ => agg_spots ho) hc
      refine ⟨.agg ps, ?_, ps, rfl, q2⟩
      simp only [PRel]
      exact ⟨_, rfl, q1⟩
    · cases hs
  have ones : v.cells = #[v] → Cell.okWide Pg W r b0 t v → (((shp Pg n false t).bind fun ss => if Pg.cellsOf t = ss.length ∧ ss.length = 1 then some (false, ss) else none) = some s) → ∃ x, PRel (cellsP W) x v ∧ FitA s x := by
    intro hv1 ho hs
    simp only [Option.bind_eq_some_iff] at hs
    obtain ⟨ss, hss, hs⟩ := hs
    split at hs
    · rename_i hc
      simp only [Option.some.injEq] at hs; subst hs
      obtain ⟨ps, q1, q2⟩ := shp_sound n false t ss hss _ _ _ h (fun _ => by
        rw [hv1]
        intro a len cap hm
        simp at hm; subst hm
        exact cell_spot ho) hc.1
      have hl := q2.length
      rw [hc.2] at hl
      obtain ⟨x, rfl⟩ := List.length_eq_one_iff.1 hl
      rw [hv1] at q1
      simp only [PRels] at q1
      obtain ⟨v', vs, e, q, e'⟩ := q1
      subst e'
      simp at e; subst e
      exact ⟨x, q, q2⟩
    · cases hs
  unfold argS at hs
  unfold Value.okWide at hv
  split at hs
  · rename_i hu; rw [hu] at hv; exact aggs hv hs
  · rename_i hu; rw [hu] at hv; exact aggs hv hs
  · rename_i h1 h2
    have ho : Cell.okWide Pg W r b0 t v := by
      revert hv
      cases hu : Pg.underlying t with
      | none => exact id
      | some d => cases d <;> first | exact id | exact absurd hu (h1 _) | exact absurd hu (h2 _ _)
    refine ones ?_ ho hs
    revert ho
    unfold Cell.okWide
    cases v with
    | agg cs => cases hu : Pg.underlying t with
      | none => simp [Cell.ok, hu]
      | some d => cases d <;> simp [Cell.ok, hu]
    | _ => intro _; rfl
theorem args_of {n : Nat} : ∀ {ts : List TypeId} {vs : List Value} {ds : List (DataW H)} {p : List MemPlace} {ss : List (Bool × List S)} {r : Reach} {b0 : Nat}, DataW.TrodAll enc Pg W base spare held ts vs ds p →
    (∀ (j : Nat) t v, ts[j]? = some t → vs[j]? = some v → Value.okWide Pg W r b0 t v) → argSs Pg n ts = some ss → ∃ ps, PRels (cellsP W) ps vs ∧ FitAs ss ps
  | [], vs, ds, p, ss, r, b0, h, _, hs => by
    obtain ⟨rfl, _⟩ := trodAll_nil h
    simp only [argSs, Option.some.injEq] at hs; subst hs
    exact ⟨[], by simp [PRels], by simp [FitAs]⟩
  | t :: ts, vs, ds, p, ss, r, b0, h, hv, hs => by
    obtain ⟨v, vs', d, ds', p', q, rfl, rfl, rfl, h1, h2⟩ := trodAll_cons h
    unfold argSs at hs
    split at hs
    · rename_i s ss' e1 e2
      simp only [Option.some.injEq] at hs; subst hs
      obtain ⟨x, k1, k2⟩ := arg_of h1 (hv 0 t v rfl rfl) e1
      obtain ⟨xs, k3, k4⟩ := args_of h2 (fun j t v a b => hv (j + 1) t v (by simpa using a) (by simpa using b)) e2
      refine ⟨x :: xs, ?_, ?_⟩
      · simp only [PRels]; exact ⟨_, _, rfl, k1, k3⟩
      · simp only [FitAs]; exact ⟨_, _, rfl, k2, k4⟩
    · cases hs
/-- The arguments read as before. -/
theorem trodAll_stays (hl : laidOutB Pg = true) {W W' : World} (hb : Below W.heap.size W W') : ∀ {ts : List TypeId} {vs : List Value} {ds : List (DataW H)} {p : List MemPlace},
    (ts.all fun t => Pg.readableRec t && decide (t < Pg.types.size)) = true → DataW.TrodAll enc Pg W 0 (fun _ => true) true ts vs ds p →
    DataW.TrodAll enc Pg W' 0 (fun b => decide (b < W.heap.size)) true ts vs ds p
  | [], vs, ds, p, _, h => by
    obtain ⟨rfl, rfl, rfl⟩ := trodAll_nil h
    exact trodAll_mk0
  | t :: ts, vs, ds, p, ht, h => by
    obtain ⟨v, vs', d, ds', p', q, rfl, rfl, rfl, h1, h2⟩ := trodAll_cons h
    simp only [List.all_cons, Bool.and_eq_true, decide_eq_true_eq] at ht
    have lt : ∀ x ∈ p', x.block < W.heap.size := by obtain ⟨m, hm⟩ := h1; exact DataW.trod_lt m _ _ _ hm
    exact trodAll_cons_mk (Below.trod hl ht.1.1 ht.1.2 h1 hb lt) (trodAll_stays hl hb ht.2 h2)
/-- What a law's row asks of the call. -/
theorem law_post {sp : ChangeSpec} {fn : Func} {f : FuncId} {n : Nat} {ss : List (Bool × List S)} {b : TypeId}
    (hl : laidOutB Pg = true) (hrd : (fn.params.toList.all fun t => Pg.readableRec t && decide (t < Pg.types.size)) = true)
    (hss : argSs Pg n fn.params.toList = some ss) (hres : fn.resultTypes = #[b]) (hb : Pg.underlying b = some .bool) (hvars : sp.vars = [])
    (hsp : ∀ ds : List (DataW H), ds.length = fn.params.size → sp.fn H ds = { results := [.lit (.bool true)], args := ds })
    (hlaw : ∀ ps, FitAs ss ps → PSpec Pg f ps (.ok (.bool true)))
    {args : Array Value} {ds gs : List (DataW H)} {before : List MemPlace} {base : Nat}
    (hval : ∀ (j : Nat) t v, fn.params[j]? = some t → args[j]? = some v → Value.okWide Pg W .any base t v)
    (hW : DataW.Whole enc Pg fn.params.toList sp.vars false W args.toList ds gs before) :
    Calls Pg f args W fun e W' => ∃ v, e = .returned v ∧ sp.post enc Pg fn false true false false W args v W' := by
  have hW' := hW
  obtain ⟨p, q, hA, hV, rfl, hfz, hnd⟩ := hW
  rw [hvars] at hV
  obtain ⟨rfl, rfl⟩ := trodVars_none hV
  have hval' : ∀ (j : Nat) t v, fn.params.toList[j]? = some t → args.toList[j]? = some v → Value.okWide Pg W .any base t v := fun j t v h1 h2 =>
    hval j t v (by simpa using h1) (by simpa using h2)
  obtain ⟨ps, k1, k2⟩ := args_of hA hval' hss
  have hds : ds.length = fn.params.size := by
    have := (trodAll_length hA).2
    simpa using this
  have := calls_of (w := W) (hlaw ps k2) k1
  refine (Calls.mono this) fun e W' ⟨u, π', he, hu, hbel⟩ => ?_
  simp only [PRel] at hu; subst hu
  refine ⟨_, he, ds, [], _, [], p, [], hW', ?_, ?_, ?_, hbel.frame _, fun h => by cases h⟩
  · rw [List.append_nil, hsp ds hds, hres]
    exact trodAll_mk1 (shut_bool hb _)
  · rw [List.append_nil, hsp ds hds]
    exact trodAll_stays hl hbel hrd hA
  · rw [List.append_nil, hsp ds hds, hvars]
    rfl
end Go.Gh

/- What the parameters of this seat's statements read as. -/
namespace Go.Proofs.Ytedihdnkalmoiaa
open Go.Gh
theorem own : ownKnob Try.prog.godebug = none := by kernel_rfl
theorem laidOut : laidOutB Try.prog = true := by kernel_rfl
def intS : S := .int .i64
def shSS : List S := [.int .i64, .list [.int .i64] false, .int .i64, .int .i64, .list [.int .i64, .int .i64, .bool] true]
theorem list_of {α : Type} {f : α → P} {Q : α → Prop} : ∀ {xs : List P}, (∀ y ∈ xs, ∃ a, y = f a ∧ Q a) → ∃ l : List α, xs = l.map f ∧ ∀ a ∈ l, Q a
  | [], _ => ⟨[], rfl, fun a h => by simp at h⟩
  | x :: xs, h => by
    obtain ⟨l, rfl, hl⟩ := list_of (xs := xs) fun y hy => h y (List.mem_cons_of_mem _ hy)
    obtain ⟨a, rfl, ha⟩ := h x (by simp)
    exact ⟨a :: l, rfl, fun b hb => by
      rcases List.mem_cons.1 hb with rfl | hb
      · exact ha
      · exact hl b hb⟩
theorem wf_i64 {n : Int} (h : (Lit.int .i64 n).wf = true) : inI n := by
  simpa [Lit.wf, IntKind.min, IntKind.max, IntKind.signed, IntKind.bits, inI] using h
theorem sh_of {x : P} (h : FitA (true, shSS) x) : ∃ s : Sh, x = .agg [.int .i64 s.num, .list (s.sizes.map (.int .i64)), .int .i64 s.lo, .int .i64 s.hi, .list (s.notes.map pn)] ∧
    inI s.num ∧ inI s.lo ∧ inI s.hi ∧ (∀ n ∈ s.sizes, inI n) ∧ ∀ n ∈ s.notes, inI n.a ∧ inI n.b := by
  simp only [FitA, shSS, Fitss, Fits] at h
  obtain ⟨cs, rfl, _, _, rfl, ⟨num, rfl, h1⟩, _, _, rfl, ⟨xs, rfl, _, hxs⟩, _, _, rfl, ⟨lo, rfl, h2⟩, _, _, rfl, ⟨hi, rfl, h3⟩, _, _, rfl, ⟨ys, rfl, _, hys⟩, rfl⟩ := h
  obtain ⟨l, rfl, hl⟩ := list_of (f := fun n : Int => P.int .i64 n) (Q := inI) (xs := xs) fun y hy => by
    obtain ⟨cs, ⟨_, _, rfl, ⟨n, rfl, hn⟩, rfl⟩, _, h⟩ := hxs y hy
    have := h trivial
    simp at this
    exact ⟨n, this.symm, wf_i64 hn⟩
  obtain ⟨m, rfl, hm⟩ := list_of (f := pn) (Q := fun n => inI n.a ∧ inI n.b) (xs := ys) fun y hy => by
    obtain ⟨cs, ⟨_, _, rfl, ⟨a, rfl, ha⟩, _, _, rfl, ⟨b, rfl, hb⟩, _, _, rfl, ⟨c, rfl⟩, rfl⟩, h, _⟩ := hys y hy
    exact ⟨⟨a, b, c⟩, h trivial, wf_i64 ha, wf_i64 hb⟩
  exact ⟨⟨num, l, lo, hi, m⟩, rfl, wf_i64 h1, wf_i64 h2, wf_i64 h3, hl, hm⟩
theorem int_of {x : P} (h : FitA (false, [.int .i64]) x) : ∃ n, x = .int .i64 n ∧ inI n := by
  simp only [FitA, Fitss, Fits] at h
  obtain ⟨_, _, e, ⟨n, rfl, h1⟩, rfl⟩ := h
  simp at e; subst e
  exact ⟨n, rfl, wf_i64 h1⟩
end Go.Proofs.Ytedihdnkalmoiaa

/- What the parameters of this seat's statements read as: small numbers, lists of them, a note. -/
namespace Go.Proofs.Ytedihdnkalmoiaa
open Go.Gh
theorem wf_u8 {n : Int} (h : (Lit.int .u8 n).wf = true) : 0 ≤ n ∧ n ≤ 255 := by
  simpa [Lit.wf, IntKind.min, IntKind.max, IntKind.signed, IntKind.bits] using h
theorem wf_u16 {n : Int} (h : (Lit.int .u16 n).wf = true) : 0 ≤ n ∧ n ≤ 65535 := by
  simpa [Lit.wf, IntKind.min, IntKind.max, IntKind.signed, IntKind.bits] using h
theorem u8_of {x : P} (h : FitA (false, [.int .u8]) x) : ∃ n : Nat, x = .int .u8 (n : Nat) ∧ n ≤ 255 := by
  simp only [FitA, Fitss, Fits] at h
  obtain ⟨_, _, e, ⟨n, rfl, h1⟩, rfl⟩ := h
  simp at e; subst e
  have := wf_u8 h1
  exact ⟨n.toNat, by rw [Int.toNat_of_nonneg this.1], by omega⟩
theorem u16_of {x : P} (h : FitA (false, [.int .u16]) x) : ∃ n : Nat, x = .int .u16 (n : Nat) ∧ n ≤ 65535 := by
  simp only [FitA, Fitss, Fits] at h
  obtain ⟨_, _, e, ⟨n, rfl, h1⟩, rfl⟩ := h
  simp at e; subst e
  have := wf_u16 h1
  exact ⟨n.toNat, by rw [Int.toNat_of_nonneg this.1], by omega⟩
theorem bytes_of {x : P} (h : FitA (false, [.list [.int .u8] false]) x) : ∃ bs : List Int, x = .list (bs.map (.int .u8)) ∧ bs.length ≤ maxLen ∧ ∀ b ∈ bs, 0 ≤ b ∧ b ≤ 255 := by
  simp only [FitA, Fitss, Fits] at h
  obtain ⟨_, _, e, ⟨xs, rfl, hl, hxs⟩, rfl⟩ := h
  simp at e; subst e
  obtain ⟨l, rfl, hl'⟩ := list_of (f := fun n : Int => P.int .u8 n) (Q := fun n => 0 ≤ n ∧ n ≤ 255) (xs := xs) fun y hy => by
    obtain ⟨cs, ⟨_, _, rfl, ⟨n, rfl, hn⟩, rfl⟩, _, h⟩ := hxs y hy
    have := h trivial
    simp at this
    exact ⟨n, this.symm, wf_u8 hn⟩
  exact ⟨l, rfl, by simpa using hl, hl'⟩
theorem u16s_of {x : P} (h : FitA (false, [.list [.int .u16] false]) x) : ∃ bs : List Int, x = .list (bs.map (.int .u16)) ∧ bs.length ≤ maxLen ∧ ∀ b ∈ bs, 0 ≤ b ∧ b ≤ 65535 := by
  simp only [FitA, Fitss, Fits] at h
  obtain ⟨_, _, e, ⟨xs, rfl, hl, hxs⟩, rfl⟩ := h
  simp at e; subst e
  obtain ⟨l, rfl, hl'⟩ := list_of (f := fun n : Int => P.int .u16 n) (Q := fun n => 0 ≤ n ∧ n ≤ 65535) (xs := xs) fun y hy => by
    obtain ⟨cs, ⟨_, _, rfl, ⟨n, rfl, hn⟩, rfl⟩, _, h⟩ := hxs y hy
    have := h trivial
    simp at this
    exact ⟨n, this.symm, wf_u16 hn⟩
  exact ⟨l, rfl, by simpa using hl, hl'⟩
theorem note_of {x : P} (h : FitA (true, [.int .i64, .int .i64, .bool]) x) : ∃ n : Nt, x = pn n ∧ inI n.a ∧ inI n.b := by
  simp only [FitA, Fitss, Fits] at h
  obtain ⟨_, rfl, _, _, rfl, ⟨a, rfl, ha⟩, _, _, rfl, ⟨b, rfl, hb⟩, _, _, rfl, ⟨c, rfl⟩, rfl⟩ := h
  exact ⟨⟨a, b, c⟩, rfl, wf_i64 ha, wf_i64 hb⟩
end Go.Proofs.Ytedihdnkalmoiaa

/- The document's ways: what they are, and that they come in order. -/
namespace Go.Proofs.Ytedihdnkalmoiaa
open Go.Gh
/-- A list that has for each number the least number that is the same plate. -/
def canon (w : List Int) : Prop := ∀ (i : Nat) v, w[i]? = some v → 0 ≤ v ∧ v ≤ (i : Int) ∧ w[v.toNat]? = some v
def cands : Nat → List Int → List (List Int)
  | 0, b => [b]
  | d + 1, b => (List.range (b.length + 1)).flatMap fun i => if least b i then cands d (b ++ [(i : Int)]) else []
theorem waysM_cands (s : Sh) (set : Nat) : ∀ (d : Nat) (b : List Int) (out : List (List Int)), waysM s set d b out = out ++ (cands d b).filter (wayM s set)
  | 0, b, out => by
    simp only [waysM, cands]
    cases h : wayM s set b <;> simp [h]
  | d + 1, b, out => by
    simp only [waysM, cands]
    rw [foldl_flat _ (fun i => (if least b i then cands d (b ++ [(i : Int)]) else []).filter (wayM s set)), List.filter_flatMap]
    intro i _ out
    cases h : least b i
    · simp
    · simp only [if_true]; exact waysM_cands s set d _ out
theorem allM_cands (s : Sh) (set : Nat) : allM s set = (cands s.sizes.length []).filter (wayM s set) := by
  rw [allM, waysM_cands, List.nil_append]
theorem canon_nil : canon [] := fun i v h => by simp at h
theorem canon_snoc {b : List Int} {i : Nat} (hb : canon b) (h : least b i = true) (hi : i ≤ b.length) : canon (b ++ [(i : Int)]) := fun j v hj => by
  by_cases hl : j < b.length
  · rw [List.getElem?_append_left hl] at hj
    obtain ⟨h1, h2, h3⟩ := hb j v hj
    refine ⟨h1, h2, ?_⟩
    rw [List.getElem?_append_left (by omega)]; exact h3
  · have hjl : j = b.length := by
      have := (List.getElem?_eq_some_iff.1 hj).1
      simp at this; omega
    subst hjl
    rw [List.getElem?_append_right (Nat.le_refl _)] at hj
    simp at hj; subst hj
    refine ⟨by omega, by omega, ?_⟩
    simp only [Int.toNat_natCast]
    simp only [least, Bool.or_eq_true, decide_eq_true_eq] at h
    rcases h with h | h
    · subst h; simp
    · have hlt := (List.getElem?_eq_some_iff.1 h).1
      rw [List.getElem?_append_left hlt]; exact h
theorem canon_take {w : List Int} (h : canon w) (n : Nat) : canon (w.take n) := fun i v hi => by
  rw [List.getElem?_take] at hi
  split at hi
  · rename_i hn
    obtain ⟨h1, h2, h3⟩ := h i v hi
    refine ⟨h1, h2, ?_⟩
    rw [List.getElem?_take, if_pos (by omega)]; exact h3
  · cases hi
theorem mem_cands : ∀ (d : Nat) (b : List Int), canon b → ∀ w, w ∈ cands d b ↔ (w.length = b.length + d ∧ b <+: w ∧ canon w)
  | 0, b, hb, w => by
    simp only [cands, List.mem_singleton]
    constructor
    · rintro rfl; exact ⟨rfl, List.prefix_refl _, hb⟩
    · rintro ⟨h1, h2, _⟩
      exact (List.IsPrefix.eq_of_length h2 (by omega)).symm
  | d + 1, b, hb, w => by
    simp only [cands, List.mem_flatMap, List.mem_range]
    constructor
    · rintro ⟨i, hi, hw⟩
      cases hl : least b i
      · rw [hl] at hw; simp at hw
      · rw [hl, if_pos rfl, mem_cands d _ (canon_snoc hb hl (by omega))] at hw
        obtain ⟨h1, h2, h3⟩ := hw
        refine ⟨by simp at h1; omega, List.IsPrefix.trans (List.prefix_append _ _) h2, h3⟩
    · rintro ⟨h1, h2, h3⟩
      obtain ⟨t, rfl⟩ := h2
      cases t with
      | nil => simp at h1
      | cons v t =>
        have hv : (b ++ v :: t)[b.length]? = some v := by rw [List.getElem?_append_right (Nat.le_refl _)]; simp
        obtain ⟨k1, k2, k3⟩ := h3 _ _ hv
        have hl : least b v.toNat = true := by
          simp only [least, Bool.or_eq_true, decide_eq_true_eq]
          by_cases e : v.toNat = b.length
          · exact .inl e
          · right
            rw [List.getElem?_append_left (by omega)] at k3
            rw [k3]; congr 1; omega
        have e : ((v.toNat : Nat) : Int) = v := by omega
        refine ⟨v.toNat, by omega, ?_⟩
        rw [hl, if_pos rfl, mem_cands d _ (canon_snoc hb hl (by omega)), e]
        refine ⟨by simp at h1 ⊢; omega, ⟨t, by simp⟩, h3⟩
theorem mem_allM {s : Sh} {set : Nat} {w : List Int} : w ∈ allM s set ↔ w.length = s.sizes.length ∧ canon w ∧ wayM s set w = true := by
  rw [allM_cands, List.mem_filter, mem_cands _ _ canon_nil]
  simp only [List.length_nil, Nat.zero_add, List.nil_prefix, true_and, and_assoc]

/-- One list comes before another one. -/
def lexL (u v : List Int) : Prop := ∃ k x y, u.take k = v.take k ∧ u[k]? = some x ∧ v[k]? = some y ∧ x < y
theorem cands_prefix {d : Nat} {b w : List Int} (h : w ∈ cands d b) : b <+: w := by
  induction d generalizing b with
  | zero => simp only [cands, List.mem_singleton] at h; subst h; exact List.prefix_refl _
  | succ d ih =>
    simp only [cands, List.mem_flatMap, List.mem_range] at h
    obtain ⟨i, _, hw⟩ := h
    cases hl : least b i
    · rw [hl] at hw; simp at hw
    · rw [hl, if_pos rfl] at hw
      exact List.IsPrefix.trans (List.prefix_append _ _) (ih hw)
theorem pairwise_flatMap_range {β : Type} {R : β → β → Prop} {f : Nat → List β} : ∀ n, (∀ i, i < n → (f i).Pairwise R) → (∀ i j, i < j → j < n → ∀ x ∈ f i, ∀ y ∈ f j, R x y) → ((List.range n).flatMap f).Pairwise R
  | 0, _, _ => by simp
  | n + 1, h1, h2 => by
    rw [List.range_succ, List.flatMap_append, List.pairwise_append]
    refine ⟨pairwise_flatMap_range n (fun i hi => h1 i (by omega)) (fun i j a b => h2 i j a (by omega)), by simpa using h1 n (by omega), ?_⟩
    intro x hx y hy
    simp only [List.mem_flatMap, List.mem_range] at hx
    obtain ⟨i, hi, hx⟩ := hx
    simp at hy
    exact h2 i n hi (by omega) x hx y hy
theorem cands_sorted : ∀ (d : Nat) (b : List Int), (cands d b).Pairwise lexL
  | 0, b => by simp [cands]
  | d + 1, b => by
    simp only [cands]
    refine pairwise_flatMap_range _ ?_ ?_
    · intro i _
      split
      · exact cands_sorted d _
      · exact List.Pairwise.nil
    · intro i j hij _ x hx y hy
      split at hx
      · split at hy
        · obtain ⟨t, rfl⟩ := cands_prefix hx
          obtain ⟨u, rfl⟩ := cands_prefix hy
          refine ⟨b.length, i, j, by simp, by simp, by simp, by omega⟩
        · simp at hy
      · simp at hx
theorem allM_sorted (s : Sh) (set : Nat) : (allM s set).Pairwise lexL := by
  rw [allM_cands]; exact (cands_sorted _ _).sublist List.filter_sublist
theorem lexL_ne {u v : List Int} (h : lexL u v) : u ≠ v := by
  rintro rfl
  obtain ⟨k, x, y, _, h1, h2, h3⟩ := h
  rw [h1] at h2; simp at h2; omega
theorem allM_nodup (s : Sh) (set : Nat) : (allM s set).Nodup := (allM_sorted s set).imp fun h => lexL_ne h
/-- The first way is not behind another one. -/
theorem first_le {s : Sh} {set : Nat} {l w : List Int} (hl : (allM s set)[0]? = some l) (hw : w ∈ allM s set) : w = l ∨ lexL l w := by
  have hp := allM_sorted s set
  cases h : allM s set with
  | nil => rw [h] at hl; simp at hl
  | cons a t =>
    rw [h] at hl hw hp
    simp at hl; subst hl
    rcases List.mem_cons.1 hw with rfl | hw
    · exact .inl rfl
    · exact .inr (List.rel_of_pairwise_cons hp hw)
end Go.Proofs.Ytedihdnkalmoiaa

/- What the program says of a valid shelf, in the words of its ways. -/
namespace Go.Proofs.Ytedihdnkalmoiaa
open Go.Gh
set_option maxRecDepth 100000
set_option maxHeartbeats 4000000
theorem heavy_len {s : Sh} {n m : Int} (h : heavyB s n m = false) : s.sizes.length ≤ 1048576 ∧ s.notes.length ≤ 1048576 := by
  simp only [heavyB, Bool.or_eq_false_iff, decide_eq_false_iff_not] at h
  omega
/-- All ways, with all notes. -/
def wA (s : Sh) : List (List Int) := allM s (everyN s)
def errA (s : Sh) : Int := if wA s = [] then 10 else 0
def sameA (s : Sh) (a b : Int) : Int := if wA s = [] then 0 else sameR a b (wA s)
def firstA (s : Sh) : List Int := (wA s).headD []
def loA (s : Sh) : Int := if wA s = [] then 0 else (spanR (wA s)).1
def hiA (s : Sh) : Int := if wA s = [] then 0 else (spanR (wA s)).2
def idleA (s : Sh) : Nat := if wA s = [] then 0 else idleR s s.notes.length
theorem c_same (s : Sh) (hv : s.valid = true) {a b : Int} (ha : 0 ≤ a ∧ a < s.num) (hb : 0 ≤ b ∧ b < s.num) : PSpec Try.prog 14 [.agg [.int .i64 s.num, .list (s.sizes.map (.int .i64)), .int .i64 s.lo, .int .i64 s.hi, .list (s.notes.map pn)], .int .i64 a, .int .i64 b] (.ok (.tuple [.int .i64 (sameA s a b), .int .i64 (errA s)])) := by
  have ha' : 0 ≤ a ∧ a ≤ s.num - 1 := by omega
  have hb' : 0 ≤ b ∧ b ≤ s.num - 1 := by omega
  cases hcb : canB s (onN s) (everyN s) with
  | true =>
    rw [sameA, errA, if_neg (show ¬ wA s = [] from can_ne hv hcb), if_neg (show ¬ wA s = [] from can_ne hv hcb), wA, ← same_eq hv hcb ha' hb']
    exact fun E A => p_same_t s hv hcb a b ha' hb'
  | false =>
    rw [sameA, errA, if_pos (show wA s = [] from can_nil hv hcb), if_pos (show wA s = [] from can_nil hv hcb)]
    exact fun E A => p_same_c s hv hcb a b ha' hb'
theorem c_first (s : Sh) (hv : s.valid = true) : PSpec Try.prog 18 [.agg [.int .i64 s.num, .list (s.sizes.map (.int .i64)), .int .i64 s.lo, .int .i64 s.hi, .list (s.notes.map pn)]] (.ok (.tuple [.list ((firstA s).map (.int .i64)), .int .i64 (errA s)])) := by
  cases hcb : canB s (onN s) (everyN s) with
  | true =>
    have hpos : 0 < ((onN s).filter (rightW s (everyN s))).length := by
      obtain ⟨w, hw, hr⟩ := List.any_eq_true.1 hcb
      exact List.length_pos_of_mem (List.mem_filter.2 ⟨hw, hr⟩)
    obtain ⟨w0, hw0⟩ : ∃ w, ((onN s).filter (rightW s (everyN s)))[0]? = some w := ⟨_, List.getElem?_eq_getElem hpos⟩
    have h1 := first_eq hv hw0
    rw [errA, if_neg (show ¬ wA s = [] from can_ne hv hcb), firstA, wA, headD_of h1]
    exact fun E A => p_first_t s hv hcb w0 hw0
  | false =>
    have h0 : wA s = [] := can_nil hv hcb
    rw [errA, if_pos h0, firstA, h0]
    exact fun E A => p_first_c s hv hcb
theorem c_count (s : Sh) (hv : s.valid = true) : PSpec Try.prog 16 [.agg [.int .i64 s.num, .list (s.sizes.map (.int .i64)), .int .i64 s.lo, .int .i64 s.hi, .list (s.notes.map pn)]] (.ok (.tuple [.int .i64 (wA s).length, .int .i64 0])) := by
  rw [wA, ← count_eq hv]
  exact fun E A => p_count s hv
theorem c_plates (s : Sh) (hv : s.valid = true) : PSpec Try.prog 20 [.agg [.int .i64 s.num, .list (s.sizes.map (.int .i64)), .int .i64 s.lo, .int .i64 s.hi, .list (s.notes.map pn)]] (.ok (.tuple [.agg [.int .i64 (loA s), .int .i64 (hiA s)], .int .i64 (errA s)])) := by
  cases hcb : canB s (onN s) (everyN s) with
  | true =>
    obtain ⟨e1, e2⟩ := plates_eq hv hcb
    have hne : ¬ wA s = [] := can_ne hv hcb
    rw [errA, loA, hiA, if_neg hne, if_neg hne, if_neg hne, wA, ← e1, ← e2]
    exact fun E A => p_plates_t s hv hcb
  | false =>
    have h0 : wA s = [] := can_nil hv hcb
    rw [errA, loA, hiA, if_pos h0, if_pos h0, if_pos h0]
    exact fun E A => p_plates_c s hv hcb
theorem c_clash (s : Sh) (hv : s.valid = true) : PSpec Try.prog 25 [.agg [.int .i64 s.num, .list (s.sizes.map (.int .i64)), .int .i64 s.lo, .int .i64 s.hi, .list (s.notes.map pn)]] (.ok (.tuple [.int .i64 (clashR s), .int .i64 0])) := by
  rw [← clash_eq hv]
  exact fun E A => p_clash s hv
theorem c_drop (s : Sh) (hv : s.valid = true) : PSpec Try.prog 27 [.agg [.int .i64 s.num, .list (s.sizes.map (.int .i64)), .int .i64 s.lo, .int .i64 s.hi, .list (s.notes.map pn)]] (.ok (.tuple [.int .i64 (dropR s), .int .i64 0])) := by
  rw [← drop_eq hv]
  exact fun E A => p_drop s hv
theorem c_idle (s : Sh) (hv : s.valid = true) : PSpec Try.prog 22 [.agg [.int .i64 s.num, .list (s.sizes.map (.int .i64)), .int .i64 s.lo, .int .i64 s.hi, .list (s.notes.map pn)]] (.ok (.tuple [.int .i64 (idleA s), .int .i64 (errA s)])) := by
  cases hcb : canB s (onN s) (everyN s) with
  | true =>
    have hne : ¬ wA s = [] := can_ne hv hcb
    rw [errA, idleA, if_neg hne, if_neg hne, ← idle_eq hv _ (Nat.le_refl _)]
    exact fun E A => p_idle_t s hv hcb
  | false =>
    have h0 : wA s = [] := can_nil hv hcb
    rw [errA, idleA, if_pos h0, if_pos h0]
    exact fun E A => p_idle_c s hv hcb
theorem c_count_f (s : Sh) (h1 : s.sizes.length ≤ 1048576) (h2 : s.notes.length ≤ 1048576) (hv : s.valid = false) : PSpec Try.prog 16 [.agg [.int .i64 s.num, .list (s.sizes.map (.int .i64)), .int .i64 s.lo, .int .i64 s.hi, .list (s.notes.map pn)]] (.ok (.tuple [.int .i64 0, .int .i64 1])) := fun E A => p_count_f s h1 h2 hv
theorem c_idle_f (s : Sh) (h1 : s.sizes.length ≤ 1048576) (h2 : s.notes.length ≤ 1048576) (hv : s.valid = false) : PSpec Try.prog 22 [.agg [.int .i64 s.num, .list (s.sizes.map (.int .i64)), .int .i64 s.lo, .int .i64 s.hi, .list (s.notes.map pn)]] (.ok (.tuple [.int .i64 0, .int .i64 1])) := fun E A => p_idle_f s h1 h2 hv
theorem c_clash_f (s : Sh) (h1 : s.sizes.length ≤ 1048576) (h2 : s.notes.length ≤ 1048576) (hv : s.valid = false) : PSpec Try.prog 25 [.agg [.int .i64 s.num, .list (s.sizes.map (.int .i64)), .int .i64 s.lo, .int .i64 s.hi, .list (s.notes.map pn)]] (.ok (.tuple [.int .i64 0, .int .i64 1])) := fun E A => p_clash_f s h1 h2 hv
theorem c_drop_f (s : Sh) (h1 : s.sizes.length ≤ 1048576) (h2 : s.notes.length ≤ 1048576) (hv : s.valid = false) : PSpec Try.prog 27 [.agg [.int .i64 s.num, .list (s.sizes.map (.int .i64)), .int .i64 s.lo, .int .i64 s.hi, .list (s.notes.map pn)]] (.ok (.tuple [.int .i64 0, .int .i64 1])) := fun E A => p_drop_f s h1 h2 hv
theorem c_first_f (s : Sh) (h1 : s.sizes.length ≤ 1048576) (h2 : s.notes.length ≤ 1048576) (hv : s.valid = false) : PSpec Try.prog 18 [.agg [.int .i64 s.num, .list (s.sizes.map (.int .i64)), .int .i64 s.lo, .int .i64 s.hi, .list (s.notes.map pn)]] (.ok (.tuple [.list [], .int .i64 1])) := fun E A => p_first_f s h1 h2 hv
theorem c_plates_f (s : Sh) (h1 : s.sizes.length ≤ 1048576) (h2 : s.notes.length ≤ 1048576) (hv : s.valid = false) : PSpec Try.prog 20 [.agg [.int .i64 s.num, .list (s.sizes.map (.int .i64)), .int .i64 s.lo, .int .i64 s.hi, .list (s.notes.map pn)]] (.ok (.tuple [.agg [.int .i64 0, .int .i64 0], .int .i64 1])) := fun E A => p_plates_f s h1 h2 hv
theorem mem_wA {s : Sh} {w : List Int} : w ∈ wA s ↔ w.length = s.sizes.length ∧ canon w ∧ wayM s (everyN s) w = true := mem_allM
theorem wayM_iff {s : Sh} {set : Nat} {w : List Int} : wayM s set w = true ↔ (∀ i, i < w.length → ∀ k, k < i → sizeOk s w i k = true) ∧ (∀ i, i < s.notes.length → noteOk s set w i = true) ∧ s.lo ≤ (cntP w w.length : Int) ∧ (cntP w w.length : Int) ≤ s.hi := by
  simp only [wayM, Bool.and_eq_true, List.all_eq_true, List.mem_range, decide_eq_true_eq, and_assoc]
theorem every_bit {s : Sh} {i : Nat} (h : i < s.notes.length) : (everyN s).testBit i = true := by
  simp only [everyN, Nat.testBit_two_pow_sub_one, h, decide_true]
end Go.Proofs.Ytedihdnkalmoiaa

/- What is told of two numbers, in plain Lean. -/
namespace Go.Proofs.Ytedihdnkalmoiaa
open Go.Gh
theorem nd_t {p : Prop} [Decidable p] (h : ¬ p) : (!decide p) = true := by simp [h]
theorem nd_f {p : Prop} [Decidable p] (h : p) : (!decide p) = false := by simp [h]
theorem sameR_one {a b : Int} {ls : List (List Int)} : sameR a b ls = 1 ↔ ∀ w ∈ ls, eqAt a b w = true := by
  have hl := List.length_filter_eq_length_iff (p := eqAt a b) (l := ls)
  unfold sameR
  constructor
  · intro h
    split at h
    · rename_i h1; exact hl.1 h1
    · split at h <;> simp at h
  · intro h; rw [if_pos (hl.2 h)]
theorem sameR_zero {a b : Int} {ls : List (List Int)} (hne : ls ≠ []) : sameR a b ls = 0 ↔ ∀ w ∈ ls, eqAt a b w = false := by
  have hp : 0 < ls.length := List.length_pos_iff.2 hne
  have h0 : (ls.filter (eqAt a b)).length = 0 ↔ ∀ w ∈ ls, eqAt a b w = false := by
    rw [List.length_eq_zero_iff, List.filter_eq_nil_iff]
    simp
  unfold sameR
  constructor
  · intro h
    split at h
    · simp at h
    · split at h
      · rename_i h1; exact h0.1 h1
      · simp at h
  · intro h
    have := h0.2 h
    rw [if_neg (by omega), if_pos this]
theorem sameR_range (a b : Int) (ls : List (List Int)) : sameR a b ls = 0 ∨ sameR a b ls = 1 ∨ sameR a b ls = 2 := by
  unfold sameR
  split
  · exact .inr (.inl rfl)
  · split
    · exact .inl rfl
    · exact .inr (.inr rfl)
theorem eqAt_comm (a b : Int) : eqAt a b = eqAt b a := by
  funext w; simp only [eqAt, eq_comm]
theorem sameR_comm (a b : Int) (ls : List (List Int)) : sameR a b ls = sameR b a ls := by
  unfold sameR; rw [eqAt_comm]
theorem sameR_self (a : Int) (ls : List (List Int)) : sameR a a ls = 1 := sameR_one.2 fun w _ => by simp [eqAt]
theorem sameR_trans {a b c : Int} {ls : List (List Int)} (h : sameR a b ls = 1) : sameR b c ls = sameR a c ls := by
  have h1 := sameR_one.1 h
  have e : ls.filter (eqAt b c) = ls.filter (eqAt a c) := List.filter_congr fun w hw => by
    have := h1 w hw
    simp only [eqAt, decide_eq_true_eq] at this ⊢
    rw [this]
  unfold sameR; rw [e]
theorem sizes_not {s : Sh} (hv : s.valid = true) {set a b : Nat} {p q : Int} {w : List Int} (hw : wayM s set w = true) (hl : w.length = s.sizes.length) (ha : s.sizes[a]? = some p) (hb : s.sizes[b]? = some q) (hp : p ≠ 0) (hq : q ≠ 0) (hpq : p ≠ q) : w[a]? ≠ w[b]? := by
  have key : ∀ {i k : Nat} {p q : Int}, k < i → s.sizes[i]? = some p → s.sizes[k]? = some q → p ≠ 0 → q ≠ 0 → p ≠ q → w[i]? ≠ w[k]? := by
    intro i k p q hk hi hq' h1 h2 h3 he
    have hil := (List.getElem?_eq_some_iff.1 hi).1
    have hkl := (List.getElem?_eq_some_iff.1 hq').1
    have hz := (wayM_iff.1 hw).1 i (by omega) k hk
    obtain ⟨x, hx⟩ : ∃ x, w[i]? = some x := ⟨_, List.getElem?_eq_getElem (by omega)⟩
    have hp0 := okS_of hv hi
    have hq0 := okS_of hv hq'
    rw [sizeOk, ← he, hx, hi, hq'] at hz
    have e1 : decide (p = q) = false := decide_eq_false h3
    have e2 : decide (0 < p) = true := decide_eq_true (by omega)
    have e3 : decide (0 < q) = true := decide_eq_true (by omega)
    simp [e1, e2, e3] at hz
  rcases Nat.lt_trichotomy a b with h | h | h
  · exact fun e => key h hb ha hq hp (Ne.symm hpq) e.symm
  · subst h; rw [ha] at hb; exact absurd (Option.some.inj hb) hpq
  · exact key h ha hb hp hq hpq
theorem note_eq {s : Sh} {k : Nat} {x : Nt} {w : List Int} (hw : wayM s (everyN s) w = true) (hx : s.notes[k]? = some x) : eqAt x.a x.b w = x.s := by
  have hk := (List.getElem?_eq_some_iff.1 hx).1
  have hn := (wayM_iff.1 hw).2.1 k hk
  simp only [noteOk, hx, every_bit hk, Bool.not_true, Bool.false_or, beq_iff_eq] at hn
  exact hn
/-! In the words of the shelf. -/
theorem sameA_range (s : Sh) (a b : Int) : sameA s a b = 0 ∨ sameA s a b = 1 ∨ sameA s a b = 2 := by
  unfold sameA
  split
  · exact .inl rfl
  · exact sameR_range _ _ _
theorem errA_ok {s : Sh} (h : wA s ≠ []) : errA s = 0 := if_neg h
theorem errA_no {s : Sh} (h : wA s = []) : errA s = 10 := if_pos h
theorem sameA_no {s : Sh} (h : wA s = []) (a b : Int) : sameA s a b = 0 := if_pos h
theorem sameA_eq {s : Sh} (h : wA s ≠ []) (a b : Int) : sameA s a b = sameR a b (wA s) := if_neg h
theorem sameA_comm (s : Sh) (a b : Int) : sameA s a b = sameA s b a := by
  unfold sameA; rw [sameR_comm]
theorem sameA_self {s : Sh} (h : wA s ≠ []) (a : Int) : sameA s a a = 1 := by rw [sameA_eq h]; exact sameR_self _ _
theorem sameA_trans {s : Sh} (h : wA s ≠ []) {a b : Int} (c : Int) (hab : sameA s a b = 1) : sameA s b c = sameA s a c := by
  rw [sameA_eq h] at hab ⊢
  rw [sameA_eq h]; exact sameR_trans hab
theorem sameA_sizes {s : Sh} (hv : s.valid = true) (h : wA s ≠ []) {a b : Nat} {p q : Int} (ha : s.sizes[a]? = some p) (hb : s.sizes[b]? = some q) (hp : p ≠ 0) (hq : q ≠ 0) (hpq : p ≠ q) : sameA s a b = 0 := by
  rw [sameA_eq h]
  refine (sameR_zero h).2 fun w hw => ?_
  obtain ⟨h1, _, h3⟩ := mem_wA.1 hw
  have := sizes_not hv h3 h1 ha hb hp hq hpq
  simp only [eqAt, Int.toNat_natCast, decide_eq_false_iff_not]
  exact this
theorem sameA_note {s : Sh} (h : wA s ≠ []) {k : Nat} {x : Nt} (hx : s.notes[k]? = some x) : sameA s x.a x.b = if x.s then 1 else 0 := by
  rw [sameA_eq h]
  cases hs : x.s with
  | true => exact sameR_one.2 fun w hw => by rw [note_eq (mem_wA.1 hw).2.2 hx, hs]
  | false =>
    have := (sameR_zero h).2 fun w hw => by rw [note_eq (mem_wA.1 hw).2.2 hx, hs]
    simpa using this
end Go.Proofs.Ytedihdnkalmoiaa

/- Sets of notes, by bits; a shelf with a part of its notes, in plain Lean. -/
namespace Go.Proofs.Ytedihdnkalmoiaa
open Go.Gh
theorem bitop_and_i64 (x y : Nat) (hx : x < 2 ^ 62) (hy : y < 2 ^ 62) : bitop .and .i64 (x : Int) (y : Int) = ((x &&& y : Nat) : Int) := by
  have e1 : (BitVec.ofInt 64 (x : Int)).toNat = x := by rw [BitVec.toNat_ofInt]; omega
  have e2 : (BitVec.ofInt 64 (y : Int)).toNat = y := by rw [BitVec.toNat_ofInt]; omega
  have h : (x &&& y) < 2 ^ 62 := Nat.lt_of_le_of_lt Nat.and_le_left hx
  show IntKind.i64.wrap ((BitVec.ofInt 64 (x : Int) &&& BitVec.ofInt 64 (y : Int)).toNat : Int) = _
  rw [BitVec.toNat_and, e1, e2]
  exact IntWalk.i64_in ((x &&& y : Nat) : Int) (by omega)
/-- One set without another one. -/
def lessS (x y : Nat) : Nat := x &&& (2 ^ 64 - 1 - y)
theorem bitop_andNot_i64 (x y : Nat) (hx : x < 2 ^ 62) (hy : y < 2 ^ 62) : bitop .andNot .i64 (x : Int) (y : Int) = ((lessS x y : Nat) : Int) := by
  have e1 : (BitVec.ofInt 64 (x : Int)).toNat = x := by rw [BitVec.toNat_ofInt]; omega
  have e2 : (BitVec.ofInt 64 (y : Int)).toNat = y := by rw [BitVec.toNat_ofInt]; omega
  have h : (x &&& (2 ^ 64 - 1 - y)) < 2 ^ 62 := Nat.lt_of_le_of_lt Nat.and_le_left hx
  show IntKind.i64.wrap ((BitVec.ofInt 64 (x : Int) &&& ~~~BitVec.ofInt 64 (y : Int)).toNat : Int) = _
  rw [BitVec.toNat_and, BitVec.toNat_not, e1, e2]
  exact IntWalk.i64_in ((x &&& (2 ^ 64 - 1 - y) : Nat) : Int) (by omega)
theorem lessS_le (x y : Nat) : lessS x y ≤ x := Nat.and_le_left
theorem lessS_bit {x y : Nat} (hy : y < 2 ^ 62) (hx : x < 2 ^ 62) (i : Nat) : (lessS x y).testBit i = (x.testBit i && !y.testBit i) := by
  have e : 2 ^ 64 - 1 - y = 2 ^ 64 - (y + 1) := by omega
  rw [lessS, Nat.testBit_and, e, Nat.testBit_two_pow_sub_succ (by omega)]
  by_cases h : i < 64
  · simp [h]
  · have : x.testBit i = false := Nat.testBit_lt_two_pow (Nat.lt_of_lt_of_le hx (Nat.pow_le_pow_right (by omega) (by omega)))
    simp [this]
theorem fdiv_pow (x n : Nat) (h : n < 64) : (x : Int).fdiv (2 ^ min n 64) = ((x / 2 ^ n : Nat) : Int) := by
  rw [Nat.min_eq_left (by omega)]
  have : ((2 : Int) ^ n) = ((2 ^ n : Nat) : Int) := by simp
  rw [this, Int.ofNat_fdiv]
/-- What the program asks of a bit. -/
theorem bit_i64 (x n : Nat) (hx : x < 2 ^ 62) (hn : n < 64) : bitop .and .i64 ((x : Int).fdiv (2 ^ min n IntKind.i64.bits)) 1 = (((x.testBit n).toNat : Nat) : Int) := by
  show bitop .and .i64 ((x : Int).fdiv (2 ^ min n 64)) 1 = _
  have h2 : x / 2 ^ n < 2 ^ 62 := Nat.lt_of_le_of_lt (Nat.div_le_self _ _) hx
  rw [fdiv_pow x n hn, show (1 : Int) = ((1 : Nat) : Int) from rfl, bitop_and_i64 _ 1 h2 (by omega), Nat.and_one_is_mod, Nat.toNat_testBit]
theorem bit_toNat (b : Bool) : decide (((b.toNat : Nat) : Int) = 1) = b := by cases b <;> rfl
/-! How many are in a set. -/
def cntB (f n : Nat) : Nat := ((List.range f).filter fun j => n.testBit j).length
theorem cntB_succ (f n : Nat) : cntB (f + 1) n = n % 2 + cntB f (n / 2) := by
  have e : (List.range f).filter (fun j => (n / 2).testBit j) = (List.range f).filter ((fun j => n.testBit j) ∘ Nat.succ) := by
    apply List.filter_congr
    intro j _
    simp [Nat.testBit_succ]
  rw [cntB, cntB, List.range_succ_eq_map, List.filter_cons, e, List.filter_map]
  have h0 : n.testBit 0 = decide (n % 2 = 1) := Nat.testBit_zero n
  by_cases h : n % 2 = 1
  · rw [if_pos (by simp [h])]; simp [h]; omega
  · rw [if_neg (by simp [h])]
    have : n % 2 = 0 := by omega
    simp [this]
theorem popF_cnt : ∀ (f n : Nat), popF f n = cntB f n
  | 0, n => by simp [popF, cntB]
  | f + 1, n => by rw [popF, cntB_succ, popF_cnt f]
theorem pop_cnt (n : Nat) : pop n = cntB 64 n := popF_cnt 64 n
theorem filter_lt {α : Type} {p q : α → Bool} : ∀ {l : List α}, (∀ x ∈ l, p x = true → q x = true) → (∃ x ∈ l, q x = true ∧ p x = false) → (l.filter p).length < (l.filter q).length
  | [], _, h => by obtain ⟨x, hx, _⟩ := h; cases hx
  | a :: l, h1, h2 => by
    have hle : ∀ {l : List α}, (∀ x ∈ l, p x = true → q x = true) → (l.filter p).length ≤ (l.filter q).length := fun {l} h => by
      induction l with
      | nil => simp
      | cons a l ih =>
        have := ih fun x hx => h x (by simp [hx])
        have ha := h a (by simp)
        rw [List.filter_cons, List.filter_cons]
        cases hp : p a <;> cases hq : q a <;> simp_all <;> omega
    rw [List.filter_cons, List.filter_cons]
    obtain ⟨x, hx, hxq, hxp⟩ := h2
    have ha := h1 a (by simp)
    have hl := hle fun x hx => h1 x (List.mem_cons_of_mem _ hx)
    rcases List.mem_cons.1 hx with rfl | hx
    · rw [if_neg (by simp [hxp]), if_pos hxq]; simp; omega
    · have := filter_lt (fun x hx => h1 x (List.mem_cons_of_mem _ hx)) ⟨x, hx, hxq, hxp⟩
      cases hp : p a <;> cases hq : q a <;> simp_all <;> omega
theorem pop_less {x i : Nat} (hx : x < 2 ^ 40) (hi : i < 40) (h : x.testBit i = true) : pop (lessS x (2 ^ i)) < pop x := by
  have h2 : 2 ^ i < 2 ^ 40 := Nat.pow_lt_pow_right (by omega) hi
  rw [pop_cnt, pop_cnt, cntB, cntB]
  refine filter_lt (fun j _ hj => ?_) ⟨i, List.mem_range.2 (by omega), h, ?_⟩
  · rw [lessS_bit (by omega) (by omega)] at hj
    simp only [Bool.and_eq_true] at hj; exact hj.1
  · rw [lessS_bit (by omega) (by omega)]
    simp [Nat.testBit_two_pow_self]
/-! A part of the notes. -/
def partT (l : List Nt) (set : Nat) : Nat → List Nt
  | 0 => []
  | k + 1 => partT l set k ++ match l[k]? with
    | some n => if set.testBit k then [n] else []
    | none => []
theorem partT_t {l : List Nt} {set k : Nat} {n : Nt} (h : l[k]? = some n) (hb : set.testBit k = true) : partT l set (k + 1) = partT l set k ++ [n] := by simp [partT, h, hb]
theorem partT_f {l : List Nt} {set k : Nat} {n : Nt} (h : l[k]? = some n) (hb : set.testBit k = false) : partT l set (k + 1) = partT l set k := by simp [partT, h, hb]
theorem partT_len (l : List Nt) (set : Nat) : ∀ k, (partT l set k).length ≤ k
  | 0 => Nat.le_refl _
  | k + 1 => by
    have := partT_len l set k
    simp only [partT, List.length_append]
    split
    · split <;> simp <;> omega
    · simp; omega
theorem partT_mem {l : List Nt} {set : Nat} {n : Nt} : ∀ {k : Nat}, n ∈ partT l set k ↔ ∃ i, i < k ∧ l[i]? = some n ∧ set.testBit i = true
  | 0 => by simp [partT]
  | k + 1 => by
    have ih := partT_mem (l := l) (set := set) (n := n) (k := k)
    cases hk : l[k]? with
    | none =>
      rw [show partT l set (k + 1) = partT l set k by simp [partT, hk], ih]
      constructor
      · rintro ⟨i, h1, h2⟩; exact ⟨i, by omega, h2⟩
      · rintro ⟨i, h1, h2, h3⟩
        by_cases e : i = k
        · subst e; rw [hk] at h2; cases h2
        · exact ⟨i, by omega, h2, h3⟩
    | some m =>
      cases hb : set.testBit k with
      | false =>
        rw [partT_f hk hb, ih]
        constructor
        · rintro ⟨i, h1, h2⟩; exact ⟨i, by omega, h2⟩
        · rintro ⟨i, h1, h2, h3⟩
          by_cases e : i = k
          · subst e; rw [hb] at h3; cases h3
          · exact ⟨i, by omega, h2, h3⟩
      | true =>
        rw [partT_t hk hb, List.mem_append, ih, List.mem_singleton]
        constructor
        · rintro (⟨i, h1, h2⟩ | rfl)
          · exact ⟨i, by omega, h2⟩
          · exact ⟨k, by omega, hk, hb⟩
        · rintro ⟨i, h1, h2, h3⟩
          by_cases e : i = k
          · subst e; rw [hk] at h2; exact .inr (Option.some.inj h2).symm
          · exact .inl ⟨i, by omega, h2, h3⟩
def partS (s : Sh) (set : Nat) : Sh := { s with notes := partT s.notes set s.notes.length }
def okNote (w : List Int) (n : Nt) : Bool := decide (w[n.a.toNat]? = w[n.b.toNat]?) == n.s
/-- A way: sizes agree, the notes of the set are right, there are as many plates as can be. -/
def sizesOk (s : Sh) (w : List Int) : Prop := ∀ i, i < w.length → ∀ k, k < i → sizeOk s w i k = true
theorem wayM_set {s : Sh} {set : Nat} {w : List Int} : wayM s set w = true ↔ sizesOk s w ∧ (∀ i n, s.notes[i]? = some n → set.testBit i = true → okNote w n = true) ∧ s.lo ≤ (cntP w w.length : Int) ∧ (cntP w w.length : Int) ≤ s.hi := by
  rw [wayM_iff]
  refine and_congr Iff.rfl (and_congr ?_ Iff.rfl)
  constructor
  · intro h i n hn hb
    have := h i (List.getElem?_eq_some_iff.1 hn).1
    simp only [noteOk, hn, hb, Bool.not_true, Bool.false_or] at this
    exact this
  · intro h i hi
    obtain ⟨n, hn⟩ : ∃ n, s.notes[i]? = some n := ⟨_, List.getElem?_eq_getElem hi⟩
    simp only [noteOk, hn]
    cases hb : set.testBit i with
    | false => rfl
    | true => have := h i n hn hb; simp only [Bool.not_true, Bool.false_or]; exact this
theorem wayM_full {s : Sh} {w : List Int} : wayM s (everyN s) w = true ↔ sizesOk s w ∧ (∀ n ∈ s.notes, okNote w n = true) ∧ s.lo ≤ (cntP w w.length : Int) ∧ (cntP w w.length : Int) ≤ s.hi := by
  rw [wayM_set]
  refine and_congr Iff.rfl (and_congr ?_ Iff.rfl)
  constructor
  · intro h n hn
    obtain ⟨i, hi⟩ := List.getElem?_of_mem hn
    exact h i n hi (every_bit (List.getElem?_eq_some_iff.1 hi).1)
  · intro h i n hn _
    exact h n (List.mem_of_getElem? hn)
theorem sizesOk_part {s : Sh} {set : Nat} {w : List Int} : sizesOk (partS s set) w ↔ sizesOk s w := Iff.rfl
theorem wayM_part {s : Sh} {set : Nat} {w : List Int} : wayM (partS s set) (everyN (partS s set)) w = wayM s set w := by
  rw [Bool.eq_iff_iff, wayM_full, wayM_set, sizesOk_part]
  refine and_congr Iff.rfl (and_congr ?_ Iff.rfl)
  constructor
  · intro h i n hn hb
    exact h n (partT_mem.2 ⟨i, (List.getElem?_eq_some_iff.1 hn).1, hn, hb⟩)
  · intro h n hn
    obtain ⟨i, _, h2, h3⟩ := partT_mem.1 hn
    exact h i n h2 h3
theorem wA_part (s : Sh) (set : Nat) : wA (partS s set) = allM s set := by
  rw [wA, allM_cands, allM_cands]
  exact List.filter_congr fun w _ => wayM_part
theorem valid_part {s : Sh} (hv : s.valid = true) (set : Nat) : (partS s set).valid = true := by
  have hl := partT_len s.notes set s.notes.length
  have hn := valid_num hv
  simp only [Sh.valid, Sh.head, Bool.and_eq_true, decide_eq_true_eq, Bool.not_eq_eq_eq_not, Bool.not_true, decide_eq_false_iff_not] at hv ⊢
  refine ⟨⟨?_, hv.1.2⟩, ?_⟩
  · simp only [partS]; omega
  · have hh := List.all_eq_true.1 hv.2
    refine List.all_eq_true.2 fun n hm => ?_
    obtain ⟨i, _, h2, _⟩ := partT_mem.1 hm
    exact hh n (List.mem_of_getElem? h2)
theorem allM_mono {s : Sh} {a b : Nat} (h : ∀ i, i < s.notes.length → a.testBit i = true → b.testBit i = true) {w : List Int} (hw : w ∈ allM s b) : w ∈ allM s a := by
  rw [mem_allM] at hw ⊢
  refine ⟨hw.1, hw.2.1, ?_⟩
  have := wayM_set.1 hw.2.2
  exact wayM_set.2 ⟨this.1, fun i n hn hb => this.2.1 i n hn (h i (List.getElem?_eq_some_iff.1 hn).1 hb), this.2.2⟩
theorem canR_iff {s : Sh} {a : Nat} : canR s a = true ↔ allM s a ≠ [] := by
  rw [canR, decide_eq_true_eq]
  constructor
  · intro h e; rw [e] at h; simp at h
  · intro h; have := List.length_pos_iff.2 h; omega
theorem canR_no {s : Sh} {a : Nat} : canR s a = false ↔ allM s a = [] := by
  have := canR_iff (s := s) (a := a)
  cases h : canR s a
  · simp [h] at this; simp [this]
  · simp [h] at this; simp [this]
theorem canR_mono {s : Sh} {a b : Nat} (h : ∀ i, i < s.notes.length → a.testBit i = true → b.testBit i = true) (hb : canR s b = true) : canR s a = true := by
  rw [canR_iff] at hb ⊢
  intro e
  obtain ⟨w, hw⟩ := List.exists_mem_of_ne_nil _ hb
  have := allM_mono h hw
  rw [e] at this; cases this
end Go.Proofs.Ytedihdnkalmoiaa

/- What clashes, and what must be wrong, in plain Lean. -/
namespace Go.Proofs.Ytedihdnkalmoiaa
open Go.Gh
theorem zero_bit (i : Nat) : (0 : Nat).testBit i = false := Nat.zero_testBit i
theorem can_zero {s : Sh} {a : Nat} (h : canR s a = true) : canR s 0 = true := canR_mono (fun i _ hb => by rw [zero_bit] at hb; cases hb) h
theorem can_every {s : Sh} {a : Nat} (h : canR s (everyN s) = true) : canR s a = true := canR_mono (fun i hi _ => every_bit hi) h
theorem wA_can {s : Sh} : wA s ≠ [] ↔ canR s (everyN s) = true := canR_iff.symm
theorem every_lt2 {s : Sh} (h : s.notes.length ≤ 12) : everyN s < 2 ^ 12 := everyN_lt h
theorem less_every {s : Sh} {t : Nat} (hl : s.notes.length ≤ 12) (ht : t ≤ everyN s) : lessS (everyN s) t = everyN s - t := by
  have := every2 (s := s)
  exact and_sub hl (by omega)
theorem clash_le {s : Sh} : clashR s ≤ everyN s := by
  unfold clashR
  split
  · omega
  · rcases clR_spec s (everyN s + 1) with ⟨_, h, _⟩ | ⟨_, h, _⟩ <;> omega
theorem drop_le {s : Sh} : dropR s ≤ everyN s := by
  unfold dropR
  split
  · omega
  · exact drR_le s _ (Nat.le_refl _)
theorem clash_none {s : Sh} (h : canR s 0 = false) : clashR s = 0 ∧ dropR s = 0 ∧ wA s = [] := by
  refine ⟨if_pos h, if_pos h, canR_no.1 ?_⟩
  cases h' : canR s (everyN s) with
  | false => rfl
  | true => rw [can_zero h'] at h; cases h
theorem clash_zero {s : Sh} (h0 : canR s 0 = true) : clashR s = 0 ↔ wA s ≠ [] := by
  rw [wA_can, clashR_2 h0]
  rcases clR_spec s (everyN s + 1) with ⟨_, h, h1⟩ | ⟨_, h, h1, h2⟩
  · exact ⟨fun _ => h1 _ (by omega), fun _ => h⟩
  · constructor
    · intro e; rw [e, h0] at h1; cases h1
    · intro e; rw [can_every e] at h1; cases h1
theorem clash_not {s : Sh} (h0 : canR s 0 = true) (h : clashR s ≠ 0) : canR s (clashR s) = false := by
  rw [clashR_2 h0] at h ⊢
  rcases clR_spec s (everyN s + 1) with ⟨_, h1, _⟩ | ⟨_, _, h1, _⟩
  · exact absurd h1 h
  · exact h1
theorem clash_min {s : Sh} (h0 : canR s 0 = true) (h : clashR s ≠ 0) {t : Nat} (ht : t ≤ everyN s) (hc : canR s t = false) : pop (clashR s) < pop t ∨ (pop (clashR s) = pop t ∧ clashR s ≤ t) := by
  rw [clashR_2 h0] at h ⊢
  rcases clR_spec s (everyN s + 1) with ⟨_, h1, _⟩ | ⟨_, _, _, h1⟩
  · exact absurd h1 h
  · exact h1 t (by omega) hc
theorem clash_each {s : Sh} (hl : s.notes.length ≤ 12) (h0 : canR s 0 = true) {i : Nat} (hi : i < s.notes.length) (hb : (clashR s).testBit i = true) : canR s (lessS (clashR s) (2 ^ i)) = true := by
  have hne : clashR s ≠ 0 := fun e => by rw [e, zero_bit] at hb; cases hb
  have hle := clash_le (s := s)
  have hev := every_lt2 hl
  have hp := pop_less (x := clashR s) (by omega) (by omega) hb
  cases hc : canR s (lessS (clashR s) (2 ^ i)) with
  | true => rfl
  | false =>
    have hle2 := lessS_le (clashR s) (2 ^ i)
    have := clash_min h0 hne (by omega) hc
    omega
theorem drop_can {s : Sh} (hl : s.notes.length ≤ 12) (h0 : canR s 0 = true) : canR s (lessS (everyN s) (dropR s)) = true := by
  rw [less_every hl drop_le, dropR_2 h0]
  rcases (drR_spec s _ (Nat.le_refl _)).1 with h | h
  · rw [h, Nat.sub_self]; exact h0
  · exact h.2
theorem pop_every (s : Sh) (hl : s.notes.length ≤ 12) : pop (everyN s) = s.notes.length := popF_ones _ _ (by omega)
theorem drop_min {s : Sh} (hl : s.notes.length ≤ 12) (h0 : canR s 0 = true) {t : Nat} (ht : t ≤ everyN s) (hc : canR s (lessS (everyN s) t) = true) : pop (dropR s) < pop t ∨ (pop (dropR s) = pop t ∧ dropR s ≤ t) := by
  rw [less_every hl ht] at hc
  rw [dropR_2 h0]
  have h := (drR_spec s _ (Nat.le_refl _)).2 t (by omega) hc
  rcases h with h | ⟨h1, h2 | h2⟩
  · exact .inl h
  · exact .inr ⟨h1, h2⟩
  · right
    refine ⟨h1, ?_⟩
    have e2 := every2 (s := s)
    rw [h2, pop_every s hl] at h1
    have hf : t = 2 ^ s.notes.length - 1 := popF_full 64 _ _ (by omega) (by unfold pop at h1; omega)
    rw [h2]; omega
theorem drop_zero {s : Sh} (hl : s.notes.length ≤ 12) (h0 : canR s 0 = true) : dropR s = 0 ↔ wA s ≠ [] := by
  rw [wA_can]
  constructor
  · intro e
    have := drop_can hl h0
    rw [e, less_every hl (Nat.zero_le _)] at this
    simpa using this
  · intro h
    have := drop_min hl h0 (Nat.zero_le _) (by rw [less_every hl (Nat.zero_le _)]; simpa using h)
    have p0 : pop 0 = 0 := by decide
    omega
end Go.Proofs.Ytedihdnkalmoiaa

/- The first way, and other lists, in plain Lean. -/
namespace Go.Proofs.Ytedihdnkalmoiaa
open Go.Gh
theorem sizeOk_iff {s : Sh} {w : List Int} {i k : Nat} {x y p q : Int} (hx : w[i]? = some x) (hy : w[k]? = some y) (hp : s.sizes[i]? = some p) (hq : s.sizes[k]? = some q) : sizeOk s w i k = true ↔ (x = y → p = q ∨ p ≤ 0 ∨ q ≤ 0) := by
  rw [sizeOk, hx, hy, hp, hq]
  by_cases h1 : x = y <;> by_cases h2 : p = q <;> by_cases h3 : 0 < p <;> by_cases h4 : 0 < q <;> simp [h1, h2, h3, h4] <;> omega
theorem foldmm (ls : List (List Int)) : ∀ (a b : Int), let r := ls.foldl (fun e w => (min e.1 (manyI w), max e.2 (manyI w))) (a, b)
    (r.1 ≤ a ∧ b ≤ r.2 ∧ ∀ w ∈ ls, r.1 ≤ manyI w ∧ manyI w ≤ r.2) ∧ (r.1 = a ∨ ∃ w ∈ ls, r.1 = manyI w) ∧ (r.2 = b ∨ ∃ w ∈ ls, r.2 = manyI w) := by
  induction ls with
  | nil => intro a b; simp
  | cons w ls ih =>
    intro a b
    simp only [List.foldl_cons]
    obtain ⟨⟨h1, h2, h3⟩, h4, h5⟩ := ih (min a (manyI w)) (max b (manyI w))
    refine ⟨⟨by clear h4 h5; omega, by clear h4 h5; omega, fun v hv => ?_⟩, ?_, ?_⟩
    · clear h4 h5
      rcases List.mem_cons.1 hv with rfl | hv
      · omega
      · exact h3 v hv
    · clear h5
      rcases h4 with h4 | ⟨v, hv, h4⟩
      · by_cases h : a ≤ manyI w
        · left; omega
        · exact .inr ⟨w, by simp, by omega⟩
      · exact .inr ⟨v, by simp [hv], h4⟩
    · clear h4
      rcases h5 with h5 | ⟨v, hv, h5⟩
      · by_cases h : manyI w ≤ b
        · left; omega
        · exact .inr ⟨w, by simp, by omega⟩
      · exact .inr ⟨v, by simp [hv], h5⟩
theorem headD_mem {ls : List (List Int)} (h : ls ≠ []) : ls.headD [] ∈ ls := by
  cases ls with
  | nil => exact absurd rfl h
  | cons a t => simp
theorem spanR_in {ls : List (List Int)} {w : List Int} (hw : w ∈ ls) : (spanR ls).1 ≤ manyI w ∧ manyI w ≤ (spanR ls).2 := (foldmm ls _ _).1.2.2 w hw
theorem spanR_lo {ls : List (List Int)} (h : ls ≠ []) : ∃ w ∈ ls, (spanR ls).1 = manyI w := by
  rcases (foldmm ls (manyI (ls.headD [])) (manyI (ls.headD []))).2.1 with e | e
  · exact ⟨_, headD_mem h, e⟩
  · exact e
theorem spanR_hi {ls : List (List Int)} (h : ls ≠ []) : ∃ w ∈ ls, (spanR ls).2 = manyI w := by
  rcases (foldmm ls (manyI (ls.headD [])) (manyI (ls.headD []))).2.2 with e | e
  · exact ⟨_, headD_mem h, e⟩
  · exact e
theorem span_in {s : Sh} {w : List Int} (hw : w ∈ wA s) : loA s ≤ (cntP w w.length : Int) ∧ (cntP w w.length : Int) ≤ hiA s := by
  have hne : wA s ≠ [] := fun e => by rw [e] at hw; simp at hw
  rw [loA, hiA, if_neg hne, if_neg hne]; exact spanR_in hw
theorem span_out {s : Sh} (hne : wA s ≠ []) : s.lo ≤ loA s ∧ hiA s ≤ s.hi := by
  rw [loA, hiA, if_neg hne, if_neg hne]
  obtain ⟨w, hw, e⟩ := spanR_lo hne
  obtain ⟨v, hv, e'⟩ := spanR_hi hne
  rw [e, e']
  exact ⟨(wayM_iff.1 (mem_wA.1 hw).2.2).2.2.1, (wayM_iff.1 (mem_wA.1 hv).2.2).2.2.2⟩
theorem firstA_mem {s : Sh} (hne : wA s ≠ []) : firstA s ∈ wA s := headD_mem hne
theorem firstA_no {s : Sh} (h : wA s = []) : firstA s = [] := by rw [firstA, h]; rfl
theorem first_lex {s : Sh} {w : List Int} (hw : w ∈ wA s) : w = firstA s ∨ lexL (firstA s) w := by
  have hne : wA s ≠ [] := fun e => by rw [e] at hw; simp at hw
  refine first_le (s := s) (set := everyN s) ?_ hw
  show (wA s)[0]? = some (firstA s)
  cases h : wA s with
  | nil => exact absurd h hne
  | cons a t => rw [firstA, h]; rfl
/-- Where two lists part first, the one that comes before has the lesser number. -/
theorem lex_at {u v : List Int} {k : Nat} {x y : Int} (h : v = u ∨ lexL u v) (he : u.take k = v.take k) (hx : u[k]? = some x) (hy : v[k]? = some y) (hne : ¬ x = y) : x < y := by
  rcases h with rfl | ⟨j, a, b, h1, h2, h3, h4⟩
  · rw [hx] at hy; exact absurd (Option.some.inj hy) hne
  · have at_ : ∀ {n m : Nat}, u.take m = v.take m → n < m → u[n]? = v[n]? := fun {n m} e hn => by
      have := congrArg (fun l => l[n]?) e
      simpa [List.getElem?_take, hn] using this
    rcases Nat.lt_trichotomy j k with h | h | h
    · have := at_ he h
      rw [h2, h3] at this
      have := Option.some.inj this; omega
    · subst h
      rw [hx] at h2; rw [hy] at h3
      cases h2; cases h3; exact h4
    · have := at_ h1 h
      rw [hx, hy] at this
      exact absurd (Option.some.inj this) hne
theorem take_next {u v : List Int} {k : Nat} {x y : Int} (he : u.take k = v.take k) (hx : u[k]? = some x) (hy : v[k]? = some y) (h : x = y) : u.take (k + 1) = v.take (k + 1) := by
  rw [List.take_add_one, List.take_add_one, he, hx, hy, h]
/-! The other list, by remainders. -/
def ownF (bs : List Int) (i : Nat) (own : List Int) : Int :=
  let k := if bs.length = 0 then i else (bs.getD (i % bs.length) 0).toNat % (i + 1)
  if k < i then own.getD k 0 else k
def ownL (bs : List Int) : Nat → List Int
  | 0 => []
  | i + 1 => ownL bs i ++ [ownF bs i (ownL bs i)]
@[simp] theorem ownL_len (bs : List Int) : ∀ i, (ownL bs i).length = i
  | 0 => rfl
  | i + 1 => by simp [ownL, ownL_len bs i]
theorem ownL_a {bs : List Int} {i : Nat} (h : bs.length = 0) : ownL bs (i + 1) = ownL bs i ++ [(i : Int)] := by
  simp [ownL, ownF, h]
theorem ownL_b {bs : List Int} {i u j k : Nat} {x : Int} (hn : 0 < bs.length) (hj : i % bs.length = j) (hu : bs[j]? = some (u : Int)) (hkk : u % (i + 1) = k) (hk : k < i) (hx : (ownL bs i)[k]? = some x) : ownL bs (i + 1) = ownL bs i ++ [x] := by
  subst hj hkk
  have h0 : ¬ bs.length = 0 := by omega
  simp only [ownL, ownF, if_neg h0, List.getD_eq_getElem?_getD, hu, Option.getD_some, Int.toNat_natCast, if_pos hk, hx]
theorem ownL_c {bs : List Int} {i u j k : Nat} (hn : 0 < bs.length) (hj : i % bs.length = j) (hu : bs[j]? = some (u : Int)) (hkk : u % (i + 1) = k) (hk : i ≤ k) : ownL bs (i + 1) = ownL bs i ++ [(k : Int)] := by
  subst hj hkk
  have h0 : ¬ bs.length = 0 := by omega
  simp only [ownL, ownF, if_neg h0, List.getD_eq_getElem?_getD, hu, Option.getD_some, Int.toNat_natCast, if_neg (Nat.not_lt.2 hk)]
theorem canon_app {b : List Int} {v : Int} (hb : canon b) (h0 : 0 ≤ v) (h1 : v ≤ (b.length : Int)) (h2 : v < (b.length : Int) → b[v.toNat]? = some v) : canon (b ++ [v]) := by
  have := canon_snoc (i := v.toNat) hb (by
    simp only [least, Bool.or_eq_true, decide_eq_true_eq]
    by_cases h : v.toNat = b.length
    · exact .inl h
    · right; rw [h2 (by omega)]; congr 1; omega) (by omega)
  rwa [Int.toNat_of_nonneg h0] at this
theorem ownL_canon (bs : List Int) : ∀ i, canon (ownL bs i)
  | 0 => canon_nil
  | i + 1 => by
    have ih := ownL_canon bs i
    have hl := ownL_len bs i
    have key : ∀ k, k ≤ i → canon (ownL bs i ++ [if k < i then (ownL bs i).getD k 0 else (k : Int)]) := fun k hk => by
      by_cases h : k < i
      · rw [if_pos h]
        obtain ⟨x, hx⟩ : ∃ x, (ownL bs i)[k]? = some x := ⟨_, List.getElem?_eq_getElem (by omega)⟩
        rw [List.getD_eq_getElem?_getD, hx, Option.getD_some]
        obtain ⟨a, b, c⟩ := ih k x hx
        exact canon_app ih a (by omega) fun _ => c
      · rw [if_neg h]
        exact canon_app ih (by omega) (by omega) fun h' => by omega
    exact key _ (by
      split
      · exact Nat.le_refl _
      · have : (bs.getD (i % bs.length) 0).toNat % (i + 1) < i + 1 := Nat.mod_lt _ (Nat.succ_pos i)
        omega)
theorem own_mem {s : Sh} (hv : s.valid = true) (bs : List Int) : ownL bs s.num.toNat ∈ wA s ↔ wayM s (everyN s) (ownL bs s.num.toNat) = true := by
  have hn := valid_num hv
  rw [mem_wA]
  exact ⟨fun h => h.2.2, fun h => ⟨by rw [ownL_len]; omega, ownL_canon _ _, h⟩⟩
theorem tm1 (a b : Nat) : (a : Int).tmod (b : Int) = ((a % b : Nat) : Int) := (Int.ofNat_tmod a b).symm
theorem tm2 (a b : Nat) : (a : Int).tmod ((b : Int) + 1) = ((a % (b + 1) : Nat) : Int) := by
  have := (Int.ofNat_tmod a (b + 1)).symm
  simpa using this
end Go.Proofs.Ytedihdnkalmoiaa

/- Shelves that are made of true plates, in plain Lean. -/
namespace Go.Proofs.Ytedihdnkalmoiaa
open Go.Gh
def drawN (bs : List Int) (t n : Nat) : Nat := ((bs.getD (t % bs.length) 0).toNat + 43 * t) % n
theorem drawN_lt (bs : List Int) (t : Nat) {n : Nat} (h : 0 < n) : drawN bs t n < n := Nat.mod_lt _ h
theorem drawN_at {bs : List Int} {t n u : Nat} (h : bs[t % bs.length]? = some (u : Int)) : ((u : Int) + 43 * (t : Int)).tmod (n : Int) = ((drawN bs t n : Nat) : Int) := by
  rw [drawN, List.getD_eq_getElem?_getD, h, Option.getD_some, Int.toNat_natCast]
  have := tm1 (u + 43 * t) n
  rw [← this]; congr 1
/-- What is known while the true plates are made: the ways of the first numbers, the sizes of plates, what is known of sizes. -/
structure MI (num i : Nat) (w zs ss : List Int) : Prop where
  wl : w.length = i
  wc : canon w
  zl : zs.length = num
  zr : ∀ z ∈ zs, 0 ≤ z ∧ z ≤ 3
  sl : ss.length = i
  sr : ∀ (j : Nat) s, ss[j]? = some s → 0 ≤ s ∧ s ≤ 3 ∧ (s = 0 ∨ ∃ q : Nat, w[j]? = some (q : Int) ∧ zs[q]? = some s)
theorem MI.zero (num : Nat) : MI num 0 [] (List.replicate num 0) [] :=
  ⟨rfl, canon_nil, by simp, fun z hz => by have := List.eq_of_mem_replicate hz; omega, rfl, fun j s h => by simp at h⟩
theorem MI.step {num i q : Nat} {w zs zs' ss : List Int} {n z : Int} (h : MI num i w zs ss) (hi : i < num) (hq : q ≤ i) (hw : q < i → w[q]? = some (q : Int)) (hl : zs'.length = num) (hr : ∀ z ∈ zs', 0 ≤ z ∧ z ≤ 3)
    (hs : ∀ j, j < i → zs'[j]? = zs[j]?) (hz : zs'[q]? = some z) (hn : n = 0 ∨ n = z) : MI num (i + 1) (w ++ [(q : Int)]) zs' (ss ++ [n]) where
  wl := by simp [h.wl]
  wc := canon_app h.wc (by omega) (by rw [h.wl]; omega) fun hlt => by rw [Int.toNat_natCast]; exact hw (by rw [h.wl] at hlt; omega)
  zl := hl
  zr := hr
  sl := by simp [h.sl]
  sr := fun j s hj => by
    by_cases hji : j < i
    · rw [List.getElem?_append_left (by rw [h.sl]; omega)] at hj
      obtain ⟨h1, h2, h3⟩ := h.sr j s hj
      refine ⟨h1, h2, h3.imp id ?_⟩
      rintro ⟨p, hp1, hp2⟩
      have hpj := (h.wc j p hp1).2.1
      refine ⟨p, by rw [List.getElem?_append_left (by rw [h.wl]; omega)]; exact hp1, ?_⟩
      rw [hs p (by omega)]; exact hp2
    · have hje : j = i := by
        have := (List.getElem?_eq_some_iff.1 hj).1
        simp [h.sl] at this; omega
      subst hje
      rw [List.getElem?_append_right (by rw [h.sl]; omega), h.sl] at hj
      simp at hj; subst hj
      have hzr := hr z (List.mem_of_getElem? hz)
      rcases hn with rfl | rfl
      · exact ⟨by omega, by omega, .inl rfl⟩
      · refine ⟨hzr.1, hzr.2, .inr ⟨q, ?_, hz⟩⟩
        rw [List.getElem?_append_right (by rw [h.wl]; omega), h.wl]; simp
/-- Notes that are right of the true plates. -/
def NI (num : Nat) (w : List Int) (ns : List Nt) : Prop := ∀ n ∈ ns, 0 ≤ n.a ∧ n.a < num ∧ 0 ≤ n.b ∧ n.b < num ∧ n.a ≠ n.b ∧ okNote w n = true
theorem NI.step {num a b : Nat} {w : List Int} {ns : List Nt} {x y : Int} (h : NI num w ns) (ha : a < num) (hb : b < num) (hab : a ≠ b) (hx : w[a]? = some x) (hy : w[b]? = some y) : NI num w (ns ++ [⟨a, b, decide (x = y)⟩]) := fun n hn => by
  rcases List.mem_append.1 hn with hn | hn
  · exact h n hn
  · rw [List.mem_singleton] at hn; subst hn
    refine ⟨by simp, by simp; omega, by simp, by simp; omega, by simp; omega, ?_⟩
    simp [okNote, hx, hy]
theorem other_num {num a d : Nat} (ha : a < num) (hd : d < num - 1) : (a + 1 + d) % num ≠ a ∧ (a + 1 + d) % num < num := by
  refine ⟨fun e => ?_, Nat.mod_lt _ (by omega)⟩
  by_cases h : a + 1 + d < num
  · rw [Nat.mod_eq_of_lt h] at e; omega
  · rw [Nat.mod_eq_sub_mod (by omega), Nat.mod_eq_of_lt (by omega)] at e; omega
/-- What is made: a shelf, and a way of it. -/
def Made (s : Sh) (w : List Int) : Prop := s.valid = true ∧ w ∈ wA s ∧ (w.length : Int) = s.num
theorem made_of {num : Nat} {w zs ss : List Int} {ns : List Nt} {lo hi : Int} (h : MI num num w zs ss) (hn : num < 8) (hns : NI num w ns) (hnl : ns.length ≤ 12) (hlo : 0 ≤ lo ∧ lo ≤ (cntP w w.length : Int)) (hhi : (cntP w w.length : Int) ≤ hi ∧ hi ≤ 8) :
    Made ⟨(num : Int), ss, lo, hi, ns⟩ w := by
  have hwl := h.wl
  refine ⟨?_, mem_wA.2 ⟨by rw [h.wl, h.sl], h.wc, wayM_full.2 ⟨?_, fun n hm => (hns n hm).2.2.2.2.2, hlo.2, hhi.1⟩⟩, by rw [h.wl]⟩
  · have hsl := h.sl
    simp only [Sh.valid, Sh.head, Bool.and_eq_true, decide_eq_true_eq, Bool.not_eq_eq_eq_not, Bool.not_true, decide_eq_false_iff_not]
    refine ⟨⟨by omega, List.all_eq_true.2 fun z hz => ?_⟩, List.all_eq_true.2 fun n hm => ?_⟩
    · obtain ⟨j, hj⟩ := List.getElem?_of_mem hz
      have := h.sr j z hj
      simp only [okS, Bool.and_eq_true, decide_eq_true_eq]; omega
    · obtain ⟨h1, h2, h3, h4, h5, _⟩ := hns n hm
      simp only [okN, Bool.and_eq_true, decide_eq_true_eq]
      exact ⟨⟨⟨h1, by omega⟩, ⟨h3, by omega⟩⟩, nd_t h5⟩
  · intro i hi' k hk
    obtain ⟨x, hx⟩ : ∃ x, w[i]? = some x := ⟨_, List.getElem?_eq_getElem hi'⟩
    obtain ⟨y, hy⟩ : ∃ y, w[k]? = some y := ⟨_, List.getElem?_eq_getElem (by omega)⟩
    obtain ⟨p, hp⟩ : ∃ p, ss[i]? = some p := ⟨_, List.getElem?_eq_getElem (by rw [h.sl]; omega)⟩
    obtain ⟨q, hq⟩ : ∃ q, ss[k]? = some q := ⟨_, List.getElem?_eq_getElem (by rw [h.sl]; omega)⟩
    rw [sizeOk_iff hx hy hp hq]
    rintro rfl
    obtain ⟨_, _, h1⟩ := h.sr i p hp
    obtain ⟨_, _, h2⟩ := h.sr k q hq
    rcases h1 with rfl | ⟨a, ha1, ha2⟩
    · exact .inr (.inl (Int.le_refl _))
    · rcases h2 with rfl | ⟨b, hb1, hb2⟩
      · exact .inr (.inr (Int.le_refl _))
      · rw [hx] at ha1; rw [hy] at hb1
        have e1 := Option.some.inj ha1
        have e2 := Option.some.inj hb1
        have : a = b := by omega
        subst this
        rw [ha2] at hb2
        exact .inl (Option.some.inj hb2)
theorem true_facts {s : Sh} {w : List Int} (h : Made s w) : wA s ≠ [] ∧ clashR s = 0 ∧ dropR s = 0 ∧ loA s ≤ (cntP w w.length : Int) ∧ (cntP w w.length : Int) ≤ hiA s ∧ (firstA s).length = w.length ∧ (w = firstA s ∨ lexL (firstA s) w) := by
  obtain ⟨hv, hw, hl⟩ := h
  have hne : wA s ≠ [] := fun e => by rw [e] at hw; simp at hw
  have hn := valid_num hv
  have h0 : canR s 0 = true := can_zero (wA_can.1 hne)
  refine ⟨hne, (clash_zero h0).2 hne, (drop_zero (by omega) h0).2 hne, (span_in hw).1, (span_in hw).2, ?_, first_lex hw⟩
  rw [(mem_wA.1 (firstA_mem hne)).1, (mem_wA.1 hw).1]
theorem true_same {s : Sh} {w : List Int} (h : Made s w) (a b : Int) : (eqAt a b w = true → sameA s a b ≠ 0) ∧ (eqAt a b w = false → sameA s a b ≠ 1) := by
  obtain ⟨hv, hw, hl⟩ := h
  have hne : wA s ≠ [] := fun e => by rw [e] at hw; simp at hw
  rw [sameA_eq hne]
  constructor
  · intro he e
    have := (sameR_zero hne).1 e w hw
    rw [he] at this; cases this
  · intro he e
    have := sameR_one.1 e w hw
    rw [he] at this; cases this
end Go.Proofs.Ytedihdnkalmoiaa

/- One cell of an object read otherwise; an element of a slice that nobody turns, as an object. -/
namespace Go.Gh
open Go.RowKit
variable {Pg : Program} {E : Env Pg} {C : Cx E} {r : Option Nat} {ops : Array Oper} {Q : GE → Sg E → Prop} {l l' : List (Nat × G)} {m m' : List (Nat × Ob)} {A : E.α} {df : List GD} {σ σ0 : Sg E} {c : Code} {rest : List Oper} {cp : Prop}

theorem Le.convCell {id off fz : Nat} {cs : List G} {g g' : G} {s : Sp} {q : Prop} (ho : σ.h id = .cells cs fz) (hc : cs[off]? = some g) (hcv : cvS σ.h s g = some (q, g')) (hq : q) (h1 : g'.one = true) :
    Le C σ { σ with h := upd σ.h id (.cells (cs.set off g') fz) } := fun a w ⟨π, ρ, S, H⟩ => by
  have hob := H.rel.objs id
  simp only [ho] at hob
  obtain ⟨vs, et, hw, hv, hone, hf, hn⟩ := hob
  have hnew := VRels_setcell (g' := g') hv hc fun v hr => cvS_ok H.rel hcv hq hr
  have hrefl : upd ρ id (ρ id) = ρ := by funext j; unfold upd; split <;> simp_all
  have T := H.rel.turn (w' := w) (π' := π) id (ρ id) (.cells (cs.set off g') fz) (Nat.le_refl _) rfl rfl rfl (fun b _ _ => ⟨rfl, rfl⟩) (PM.le_refl _) H.rel.know (fun _ _ _ => .inl rfl) ?_ (fun b hb => ?_)
  · rw [hrefl] at T
    have hne : ∀ i, σ.h i ≠ .none → upd σ.h id (Ob.cells (cs.set off g') fz) i ≠ .none := fun i hi => by
      simp only [upd]; split
      · simp
      · exact hi
    refine ⟨π, ρ, S, H.putObj T.1 T.2 (fun _ _ => .inl rfl) (fun _ _ => .inl rfl) hne fun j i hm => ?_⟩
    simp only [upd] at hm
    split at hm
    · refine hne i ?_
      simp only [Ob.men] at hm
      obtain ⟨x, hx, hxm⟩ := mens_true.1 hm
      rcases List.mem_or_eq_of_mem_set hx with hx | hx
      · exact H.wfh id i (by rw [ho]; exact mens_true.2 ⟨x, hx, hxm⟩)
      · subst hx
        exact cvS_men H.wfh hcv (fun i hi => H.wfh id i (by rw [ho]; exact mens_true.2 ⟨g, List.mem_of_getElem? hc, hi⟩)) i hxm
    · exact hne i (H.wfh j i hm)
  · rw [hrefl]
    refine ⟨vs, et, hw, hnew, fun c hc' => ?_, hf, hn⟩
    rcases List.mem_or_eq_of_mem_set hc' with h | h
    · exact hone c h
    · subst h; exact h1
  · rw [hrefl] at hb
    exact .inl (by rw [ho]; exact hb)
theorem gc_cell (id off : Nat) (s : Sp) {cs cs2 : List G} {g g' : G} {fz : Nat} (ho : mkHp m id = .cells cs fz) (hc : cs[off]? = some g) (hcv : cvS (mkHp m) s g = some (cp, g')) (hq : cp) (h1 : g'.one = true) (he : cs.set off g' = cs2)
    (k : gwp C r c Q (sg l ((id, .cells cs2 fz) :: m) A df)) : gwp C r c Q (sg l m A df) :=
  gwp_le (Le.convCell (σ := sg l m A df) ho hc hcv hq h1) (by subst he; exact k)
theorem go_cell {lst : List Oper} (id off : Nat) (s : Sp) {cs cs2 : List G} {g g' : G} {fz : Nat} (ho : mkHp m id = .cells cs fz) (hc : cs[off]? = some g) (hcv : cvS (mkHp m) s g = some (cp, g')) (hq : cp) (h1 : g'.one = true) (he : cs.set off g' = cs2)
    (k : gops C r ops Q lst (sg l ((id, .cells cs2 fz) :: m) A df)) : gops C r ops Q lst (sg l m A df) :=
  gops_le (Le.convCell (σ := sg l m A df) ho hc hcv hq h1) (by subst he; exact k)
/-- A nil slice in a register read as an object of no elements. -/
theorem Le.adoptReg {t d : Nat} (e : TypeId) (sz : Nat) (fl : Bool) (hr : σ.fr t = .nils) (hd : σ.h d = .none) (hd2 : C.lim ≤ d) :
    Le C σ { σ with h := upd σ.h d (.arr e sz [] fl), fr := upd σ.fr t (.own d 0) } := fun a w ⟨π, ρ, S, H⟩ => by
  have hdm : ∀ j, (σ.h j).men d = false := fun j => by
    cases hm : (σ.h j).men d with
    | false => rfl
    | true => exact absurd hd (H.wfh j d hm)
  obtain ⟨U1, U2⟩ := H.rel.newNil d hd hdm e sz fl
  have hne : ∀ i, σ.h i ≠ .none → upd σ.h d (Ob.arr e sz [] fl) i ≠ .none := fun i hi => by
    simp only [upd]; split
    · simp
    · exact hi
  have H1 : St C { σ with h := upd σ.h d (.arr e sz [] fl) } a w π (upd ρ d ⟨0, .slice none 0 0, 0⟩) S := by
    refine H.putObj U1 U2 (fun j hj => ?_) (fun j hj => ?_) hne (fun j i hm => ?_)
    · have : j ≠ d := fun e => hj (e ▸ hd)
      rw [upd_other _ _ this]; exact .inl rfl
    · rw [upd_other _ _ (by omega)]; exact .inl rfl
    · simp only [upd] at hm
      split at hm
      · simp [Ob.men] at hm
      · exact hne i (H.wfh j i hm)
  refine ⟨π, _, S, H1.size, fun k => ?_, H1.defs, H1.rel, H1.trans, H1.step, fun k i hm => ?_, H1.wfh, H1.wfd⟩
  · have hv := H1.vals k
    show VRel π _ E.yv (upd σ.fr t (.own d 0) k) _
    simp only [upd]
    split
    · rename_i e; subst e
      replace hv : VRel π _ E.yv (σ.fr k) _ := hv
      rw [hr] at hv
      simp only [VRel] at hv ⊢
      rw [hv, upd_same]
      exact ⟨Nat.le_refl _, fun _ => rfl⟩
    · exact hv
  · replace hm : (upd σ.fr t (.own d 0) k).men i = true := hm
    simp only [upd] at hm
    split at hm
    · simp only [G.men, beq_iff_eq] at hm
      subst hm
      show upd σ.h d (Ob.arr e sz [] fl) d ≠ .none
      rw [upd_same]; simp
    · exact H1.wfr k i hm
theorem gc_adoptR (t d : Nat) (e : TypeId) (sz : Nat) (fl : Bool) (hr : mkFr l t = .nils) (hd : mkHp m d = .none) (hd2 : C.lim ≤ d)
    (k : gwp C r c Q (sg ((t, .own d 0) :: l) ((d, .arr e sz [] fl) :: m) A df)) : gwp C r c Q (sg l m A df) :=
  gwp_le (Le.adoptReg (σ := sg l m A df) e sz fl hr hd hd2) k
/-- A region's ways brought together. -/
theorem gwp_cut {l1 : List (Nat × G)} {m1 : List (Nat × Ob)} {x y : Code} {Q2 : GE → Sg E → Prop} (h1 : gwp C r x (gthen (fun σ' => Le C σ' (sg l1 m1 A df)) Q) (sg l m A df)) (h2 : gwp C r y Q2 (sg l1 m1 A df)) : gwp C r x (gthen (gwp C r y Q2) Q) (sg l m A df) :=
  gwp_mono h1 fun e σ' k => by
    cases e with
    | normal => exact gwp_le k h2
    | _ => exact k
/-! A slice of slices that is filled one by one: what is done, what is being filled, what is to come. -/
def toldC (done : List P) (x : List G) (m : Nat) : List G := done.map .p ++ (x ++ List.replicate m .nils)
theorem idls_app : ∀ (a b : List G), G.idls (a ++ b) = G.idls a ++ G.idls b
  | [], b => by simp [G.idls]
  | g :: a, b => by simp [G.idls, idls_app a b]
theorem idls_rep : ∀ m, G.idls (List.replicate m .nils) = []
  | 0 => rfl
  | m + 1 => by rw [List.replicate_succ]; simp [G.idls, G.idl, idls_rep m]
theorem idls_told (done : List P) (x : List G) (m : Nat) : G.idls (toldC done x m) = G.idls x := by
  rw [toldC, idls_app, idls_app, idls_rep, idls_p]; simp
theorem idls_nil1 : G.idls ([] : List G) = [] := rfl
theorem told_len (done : List P) (x : List G) (m : Nat) : (toldC done x m).length = done.length + (x.length + m) := by simp [toldC]
theorem told_get {done : List P} {x : G} {m a : Nat} (h : done.length = a) : (toldC done [x] m)[a]? = some x := by
  subst h
  rw [toldC, List.getElem?_append_right (by simp)]; simp
theorem told_set {done : List P} {x : G} {m a : Nat} (h : done.length = a) (y : G) : (toldC done [x] m).set a y = toldC done [y] m := by
  subst h
  rw [toldC, List.set_append_right _ _ (by simp)]; simp [toldC]
theorem told_next (done : List P) (m : Nat) : toldC done [] (m + 1) = toldC done [.nils] m := by simp [toldC, List.replicate_succ]
theorem told_done (done : List P) (v : P) (m : Nat) : toldC done [.p v] m = toldC (done ++ [v]) [] m := by simp [toldC]
theorem told_end (done : List P) : toldC done [] 0 = done.map .p := by simp [toldC]
theorem told_make (n : Nat) : ((List.range (n * 1)).map fun i => [G.nils].getD (i % 1) .undef) = toldC [] [] n := by
  rw [toldC, List.map_nil, List.nil_append, List.nil_append, List.eq_replicate_iff]
  refine ⟨by simp, fun g hg => ?_⟩
  simp only [List.mem_map, List.mem_range] at hg
  obtain ⟨i, _, rfl⟩ := hg
  have : i % 1 = 0 := Nat.mod_one i
  rw [this]; rfl
end Go.Gh

/- A slice of the call's own that nobody turns from now on; ways brought together under a name. -/
namespace Go.Gh
open Go.RowKit
variable {Pg : Program} {E : Env Pg} {C : Cx E} {r : Option Nat} {ops : Array Oper} {Q : GE → Sg E → Prop} {l l' : List (Nat × G)} {m m' : List (Nat × Ob)} {A : E.α} {df : List GD} {σ σ0 : Sg E} {c : Code} {rest : List Oper} {cp : Prop}

theorem ownsRow_cell {w : World} {base : Nat} {e : TypeId} {size n : Nat} {v : Value} {xs : List Value} {b : Nat} (h : w.ownsRow base e size v n xs) (hb : capBlock v = some b) {j : Nat} {u : Value} (hj : xs[j]? = some u) : w.cell? ⟨b, j, none⟩ = some u := by
  obtain ⟨h1, h2⟩ := h
  rcases h2 with ⟨h2, _⟩ | ⟨g, cap, cur, hv, _, hh, _, _, _, ht⟩
  · rw [h2] at hb; simp [capBlock] at hb
  · have := capBlock_own hb
    rw [hv] at this
    simp only [Value.ownBlock, Option.some.injEq] at this
    subst this
    obtain ⟨curl⟩ := cur
    rw [cell_of_block hh]
    rw [← ht, List.getElem?_take] at hj
    split at hj
    · exact hj
    · cases hj
theorem Le.freezeArr {id : Nat} {e : TypeId} {sz : Nat} {xs : List P} (ho : σ.h id = .arr e sz xs false) : Le C σ { σ with h := upd σ.h id (.arr e sz xs true) } := fun a w ⟨π, ρ, S, H⟩ => by
  have hob := H.rel.objs id
  rw [ho] at hob
  obtain ⟨cs, hrow, hlen, hps, hsz, hone, hcap⟩ := hob
  have hrefl : upd ρ id (ρ id) = ρ := by funext j; unfold upd; split <;> simp_all
  have hne : ∀ i, σ.h i ≠ .none → upd σ.h id (Ob.arr e sz xs true) i ≠ .none := fun i hi => by
    simp only [upd]; split
    · simp
    · exact hi
  have fin : ∀ π', Rel E π' ρ (upd σ.h id (.arr e sz xs true)) σ.A S w → Trans (Own ρ σ.h S) w π (Own ρ (upd σ.h id (.arr e sz xs true)) S) w π' → Holds C { σ with h := upd σ.h id (.arr e sz xs true) } a w := fun π' R' T' => by
    refine ⟨π', ρ, S, H.putObj R' T' (fun _ _ => .inl rfl) (fun _ _ => .inl rfl) hne fun j i hm => ?_⟩
    simp only [upd] at hm
    split at hm
    · simp [Ob.men] at hm
    · exact hne i (H.wfh j i hm)
  cases hb : capBlock (ρ id).v with
  | none =>
    have T := H.rel.turn (w' := w) (π' := π) id (ρ id) (.arr e sz xs true) (Nat.le_refl _) rfl rfl rfl (fun b _ _ => ⟨rfl, rfl⟩) (PM.le_refl _) H.rel.know (fun _ _ _ => .inl rfl) ?_ (fun b hb' => ?_)
    · rw [hrefl] at T
      exact fin π T.1 T.2
    · rw [hrefl]
      exact ⟨cs, hrow, hlen, hps, hsz, hone, fun b hb' => by rw [hb] at hb'; cases hb'⟩
    · rw [hrefl] at hb'
      simp only [live] at hb'
      rw [hb] at hb'; cases hb'
  | some b =>
    have hown : w.ownsRow 0 e sz (ρ id).v xs.length cs := by
      rcases hrow with ⟨_, _, a, _, hv⟩ | ⟨h, _⟩
      · rw [hv] at hb; cases a <;> simp [capBlock] at hb
      · exact h
    have hnone := (hcap b hb).2
    let π' : PM := fun b' o => if b' = b then cs[o]? else π b' o
    have hle : PM.le π π' := fun b' o v hk => by
      simp only [π']
      split
      · rename_i e; subst e
        rw [hnone o (.inl rfl)] at hk; cases hk
      · exact hk
    have T := H.rel.turn (w' := w) (π' := π') id (ρ id) (.arr e sz xs true) (Nat.le_refl _) rfl rfl rfl (fun b' _ hne' => ⟨rfl, ?_⟩) hle (fun b' o v hk => ?_) (fun _ _ _ => .inl rfl) ?_ (fun b' hb' => ?_)
    · rw [hrefl] at T
      exact fin π' T.1 T.2
    · funext o
      simp only [π']
      rw [if_neg]
      intro e'
      exact hne' (by rw [ho]; simp [live, hb, e'])
    · simp only [π'] at hk
      split at hk
      · rename_i e'; subst e'
        exact ownsRow_cell hown hb hk
      · exact H.rel.know _ _ _ hk
    · rw [hrefl]
      refine ⟨cs, .inr ⟨hown, b, hb⟩, hlen, hps.mono hle, hsz, hone, fun b' hb' => ?_⟩
      rw [hb] at hb'; cases hb'
      refine ⟨fun _ j u hu => by simp only [π', if_true]; exact hu, fun j hj => ?_⟩
      simp only [π', if_true]
      rcases hj with hj | hj
      · cases hj
      · rw [List.getElem?_eq_none_iff]; exact hj
    · rw [hrefl] at hb'
      rw [ho]; exact .inl hb'
theorem gc_arr (id : Nat) {e : TypeId} {sz : Nat} {xs : List P} (ho : mkHp m id = .arr e sz xs false) (k : gwp C r c Q (sg l ((id, .arr e sz xs true) :: m) A df)) : gwp C r c Q (sg l m A df) :=
  gwp_le (Le.freezeArr (σ := sg l m A df) ho) k
theorem go_arr {lst : List Oper} (id : Nat) {e : TypeId} {sz : Nat} {xs : List P} (ho : mkHp m id = .arr e sz xs false) (k : gops C r ops Q lst (sg l ((id, .arr e sz xs true) :: m) A df)) : gops C r ops Q lst (sg l m A df) :=
  gops_le (Le.freezeArr (σ := sg l m A df) ho) k
/-- A part of an array that nobody turns, in a cell, as a list. -/
theorem Le.fslCell {i1 o1 f1 id off len fz : Nat} {ds cs : List G} {ps : List P} (hi : σ.h i1 = .cells ds f1) (hc : ds[o1]? = some (.fsl id off len)) (ho : σ.h id = .cells cs fz) (h1 : off + len ≤ fz) (hps : (cs.drop off).take len = ps.map .p) (h2 : ps.length = len) (h3 : ∀ p ∈ ps, p.one = true) :
    Le C σ { σ with h := upd σ.h i1 (.cells (ds.set o1 (.p (.list ps))) f1) } := fun a w ⟨π, ρ, S, H⟩ => by
  have hob := H.rel.objs i1
  simp only [hi] at hob
  obtain ⟨vs, et, hw, hv, hone, hf, hn⟩ := hob
  have hnew := VRels_setcell (g' := .p (.list ps)) hv hc fun v hr => by
    simp only [VRel] at hr
    obtain ⟨cap, hv, hcap⟩ := hr
    have hr := ref_row H.rel ho h1
    rw [hps] at hr
    simp only [VRel, PRel]
    refine ⟨_, _, _, hv, h2.symm, hcap, .inr ⟨_, _, rfl, PElems.row.2 ?_⟩⟩
    rw [flat_one h3]
    refine PRow.mk fun j c hc => ?_
    obtain ⟨u, h1, h2, h3⟩ := hr.get j (.p c) (by rw [List.getElem?_map, hc]; rfl)
    exact ⟨u, h1, by simpa only [VRel] using h2, h3⟩
  have hrefl : upd ρ i1 (ρ i1) = ρ := by funext j; unfold upd; split <;> simp_all
  have T := H.rel.turn (w' := w) (π' := π) i1 (ρ i1) (.cells (ds.set o1 (.p (.list ps))) f1) (Nat.le_refl _) rfl rfl rfl (fun b _ _ => ⟨rfl, rfl⟩) (PM.le_refl _) H.rel.know (fun _ _ _ => .inl rfl) ?_ (fun b hb => ?_)
  · rw [hrefl] at T
    have hne : ∀ i, σ.h i ≠ .none → upd σ.h i1 (Ob.cells (ds.set o1 (.p (.list ps))) f1) i ≠ .none := fun i hi => by
      simp only [upd]; split
      · simp
      · exact hi
    refine ⟨π, ρ, S, H.putObj T.1 T.2 (fun _ _ => .inl rfl) (fun _ _ => .inl rfl) hne fun j i hm => ?_⟩
    simp only [upd] at hm
    split at hm
    · refine hne i ?_
      simp only [Ob.men] at hm
      obtain ⟨x, hx, hxm⟩ := mens_true.1 hm
      rcases List.mem_or_eq_of_mem_set hx with hx | hx
      · exact H.wfh i1 i (by rw [hi]; exact mens_true.2 ⟨x, hx, hxm⟩)
      · subst hx; simp [G.men] at hxm
    · exact hne i (H.wfh j i hm)
  · rw [hrefl]
    refine ⟨vs, et, hw, hnew, fun c hc' => ?_, hf, hn⟩
    rcases List.mem_or_eq_of_mem_set hc' with h | h
    · exact hone c h
    · subst h; rfl
  · rw [hrefl] at hb
    exact .inl (by rw [hi]; exact hb)
theorem go_fslC {lst : List Oper} {i1 o1 f1 off len fz id : Nat} {ds ds2 cs : List G} {ps : List P} (hi : mkHp m i1 = .cells ds f1) (hc : ds[o1]? = some (.fsl id off len)) (ho : mkHp m id = .cells cs fz) (h1 : off + len ≤ fz) (hps : (cs.drop off).take len = ps.map .p) (h2 : ps.length = len) (h3 : ∀ p ∈ ps, p.one = true) (he : ds.set o1 (.p (.list ps)) = ds2)
    (k : gops C r ops Q lst (sg l ((i1, .cells ds2 f1) :: m) A df)) : gops C r ops Q lst (sg l m A df) := gops_le (Le.fslCell (σ := sg l m A df) hi hc ho h1 hps h2 h3) (by subst he; exact k)
theorem gc_fslC {i1 o1 f1 off len fz id : Nat} {ds ds2 cs : List G} {ps : List P} (hi : mkHp m i1 = .cells ds f1) (hc : ds[o1]? = some (.fsl id off len)) (ho : mkHp m id = .cells cs fz) (h1 : off + len ≤ fz) (hps : (cs.drop off).take len = ps.map .p) (h2 : ps.length = len) (h3 : ∀ p ∈ ps, p.one = true) (he : ds.set o1 (.p (.list ps)) = ds2)
    (k : gwp C r c Q (sg l ((i1, .cells ds2 f1) :: m) A df)) : gwp C r c Q (sg l m A df) := gwp_le (Le.fslCell (σ := sg l m A df) hi hc ho h1 hps h2 h3) (by subst he; exact k)
theorem gc_freezeK (id n : Nat) {cs : List G} {fz : Nat} (ho : mkHp m id = .cells cs fz) (hn : fz ≤ n) (hn2 : n ≤ cs.length) (h1 : allOne (cs.take n) = true) (k : gwp C r c Q (sg l ((id, .cells cs n) :: m) A df)) : gwp C r c Q (sg l m A df) := gwp_le (Le.freezeK (σ := sg l m A df) ho hn hn2 h1) k
/-- A piece of code's ways brought together, under a name for what they differ in. -/
theorem gwp_cutE {Z : Type} (F : Z → Prop) (l1 : Z → List (Nat × G)) (m1 : Z → List (Nat × Ob)) {x y : Code} {Q2 : GE → Sg E → Prop} (h1 : gwp C r x (gthen (fun σ' => ∃ z, F z ∧ Le C σ' (sg (l1 z) (m1 z) A df)) Q) (sg l m A df)) (h2 : ∀ z, F z → gwp C r y Q2 (sg (l1 z) (m1 z) A df)) : gwp C r x (gthen (gwp C r y Q2) Q) (sg l m A df) :=
  gwp_mono h1 fun e σ' k => by
    cases e with
    | normal => obtain ⟨z, hz, hle⟩ := k; exact gwp_le hle (h2 z hz)
    | _ => exact k
end Go.Gh

/- The end of a function that hands back a value that nobody turns, and objects. -/
namespace Go.Gh
variable {Pg : Program} {E : Env Pg} {l : List (Nat × G)} {m m' : List (Nat × Ob)} {A : E.α}
theorem fin_pk {fn : Func} {R : GRes E → Prop} {d d' : Prop} {g : G} {v : P} {I : List Nat} (hg : gresult Pg (mkHp m) (mkFr l) fn.results.toList = some (d, g)) (hd : d) (hp : toP (mkHp m) g = some (d', v)) (hd' : d') (hm : restrictL I m = m') (h3 : subB (hpIds m I) I = true)
    (hne : ∀ i ∈ I, mkHp m i ≠ .none) (hR : R (.ok (.p v) (mkHp m') A)) : Fin Pg fn R (sg l m A []) := by
  simp only [subB, List.all_eq_true, decide_eq_true_eq] at h3
  subst hm
  refine ⟨rfl, d, g, hg, hd, .p v, _, .inr ⟨d', v, hp, hd', rfl⟩, ⟨fun id => ?_, fun j id hx => ?_⟩, fun id hx => by simp [G.men] at hx, hR⟩
  · rw [restrict_at]; split
    · exact .inl rfl
    · exact .inr rfl
  · rw [restrict_at] at hx ⊢
    split at hx
    · rename_i hj
      have := h3 id (hp_ids hj hx)
      rw [if_pos this]; exact hne id this
    · simp [Ob.men] at hx
end Go.Gh

/- More rules of written-out states: a region's ways brought together; objects that hold slices of the call's own. -/
namespace Go.Proofs.Ytedihdnkalmoiaa
open Go.Gh
set_option maxRecDepth 100000
variable {E : Env Try.prog} {C : Cx E} {r : Option Nat} {ops : Array Oper} {Q : GE → Sg E → Prop} {rest lst : List Oper} {l l' : List (Nat × G)} {m : List (Nat × Ob)} {A : E.α} {df : List GD} {c : Prop} {g : G} {cd : Code}
theorem lcut (vs : List Nat) {m' : List (Nat × Ob)} {I : List Nat} (hl : (vs.map fun v => (v, mkFr l v)) = l' := by (simp only [List.map_cons, List.map_nil, mkFr_cons, mkFr_nil, Nat.reduceEqDiff, reduceIte] <;> rfl)) (hI : reach l' m df = I := by (simp only [reach, frIds, dfIds, gdIdl, obIdl, hpIds, restrictL, dedupL, pickL, subB, G.idl, G.idls, idls_p, List.nil_append, List.append_nil, List.cons_append, mkHp_cons, mkHp_nil, Nat.reduceEqDiff, reduceIte, List.mem_cons, List.not_mem_nil, or_false, or_true, true_or, false_or, List.filter_cons, List.filter_nil, ne_eq, not_true_eq_false, not_false_eq_true, decide_true, decide_false, Bool.false_eq_true, List.all_cons, List.all_nil, Bool.and_true, idls_told, idls_nil1] <;> rfl)) (hm : restrictL I m = m' := by (simp only [frIds, dfIds, gdIdl, obIdl, hpIds, restrictL, dedupL, pickL, subB, G.idl, G.idls, idls_p, List.nil_append, List.append_nil, List.cons_append, mkHp_cons, mkHp_nil, Nat.reduceEqDiff, reduceIte, List.mem_cons, List.not_mem_nil, or_false, or_true, true_or, false_or, List.filter_cons, List.filter_nil, ne_eq, not_true_eq_false, not_false_eq_true, decide_true, decide_false, Bool.false_eq_true, List.all_cons, List.all_nil, Bool.and_true, idls_told, idls_nil1] <;> rfl)) (h1 : subB (frIds l') I = true := by (simp only [frIds, dfIds, gdIdl, obIdl, hpIds, restrictL, dedupL, pickL, subB, G.idl, G.idls, idls_p, List.nil_append, List.append_nil, List.cons_append, mkHp_cons, mkHp_nil, Nat.reduceEqDiff, reduceIte, List.mem_cons, List.not_mem_nil, or_false, or_true, true_or, false_or, List.filter_cons, List.filter_nil, ne_eq, not_true_eq_false, not_false_eq_true, decide_true, decide_false, Bool.false_eq_true, List.all_cons, List.all_nil, Bool.and_true, idls_told, idls_nil1] <;> rfl)) (h2 : subB (dfIds df) I = true := by (simp only [frIds, dfIds, gdIdl, obIdl, hpIds, restrictL, dedupL, pickL, subB, G.idl, G.idls, idls_p, List.nil_append, List.append_nil, List.cons_append, mkHp_cons, mkHp_nil, Nat.reduceEqDiff, reduceIte, List.mem_cons, List.not_mem_nil, or_false, or_true, true_or, false_or, List.filter_cons, List.filter_nil, ne_eq, not_true_eq_false, not_false_eq_true, decide_true, decide_false, Bool.false_eq_true, List.all_cons, List.all_nil, Bool.and_true, idls_told, idls_nil1] <;> rfl)) (h3 : subB (hpIds m I) I = true := by (simp only [frIds, dfIds, gdIdl, obIdl, hpIds, restrictL, dedupL, pickL, subB, G.idl, G.idls, idls_p, List.nil_append, List.append_nil, List.cons_append, mkHp_cons, mkHp_nil, Nat.reduceEqDiff, reduceIte, List.mem_cons, List.not_mem_nil, or_false, or_true, true_or, false_or, List.filter_cons, List.filter_nil, ne_eq, not_true_eq_false, not_false_eq_true, decide_true, decide_false, Bool.false_eq_true, List.all_cons, List.all_nil, Bool.and_true, idls_told, idls_nil1] <;> rfl)) : gthen (fun σ' => Le C σ' (sg l' m' A df)) Q .normal (sg l m A df : Sg E) := le_clean2 vs hl hm h1 h2 h3
theorem lce (vs : List Nat) {m' : List (Nat × Ob)} {I : List Nat} (hl : (vs.map fun v => (v, mkFr l v)) = l' := by (simp only [List.map_cons, List.map_nil, mkFr_cons, mkFr_nil, Nat.reduceEqDiff, reduceIte] <;> rfl)) (hI : reach l' m df = I := by (simp only [reach, frIds, dfIds, gdIdl, obIdl, hpIds, restrictL, dedupL, pickL, subB, G.idl, G.idls, idls_p, List.nil_append, List.append_nil, List.cons_append, mkHp_cons, mkHp_nil, Nat.reduceEqDiff, reduceIte, List.mem_cons, List.not_mem_nil, or_false, or_true, true_or, false_or, List.filter_cons, List.filter_nil, ne_eq, not_true_eq_false, not_false_eq_true, decide_true, decide_false, Bool.false_eq_true, List.all_cons, List.all_nil, Bool.and_true, idls_told, idls_nil1] <;> rfl)) (hm : restrictL I m = m' := by (simp only [frIds, dfIds, gdIdl, obIdl, hpIds, restrictL, dedupL, pickL, subB, G.idl, G.idls, idls_p, List.nil_append, List.append_nil, List.cons_append, mkHp_cons, mkHp_nil, Nat.reduceEqDiff, reduceIte, List.mem_cons, List.not_mem_nil, or_false, or_true, true_or, false_or, List.filter_cons, List.filter_nil, ne_eq, not_true_eq_false, not_false_eq_true, decide_true, decide_false, Bool.false_eq_true, List.all_cons, List.all_nil, Bool.and_true, idls_told, idls_nil1] <;> rfl)) (h1 : subB (frIds l') I = true := by (simp only [frIds, dfIds, gdIdl, obIdl, hpIds, restrictL, dedupL, pickL, subB, G.idl, G.idls, idls_p, List.nil_append, List.append_nil, List.cons_append, mkHp_cons, mkHp_nil, Nat.reduceEqDiff, reduceIte, List.mem_cons, List.not_mem_nil, or_false, or_true, true_or, false_or, List.filter_cons, List.filter_nil, ne_eq, not_true_eq_false, not_false_eq_true, decide_true, decide_false, Bool.false_eq_true, List.all_cons, List.all_nil, Bool.and_true, idls_told, idls_nil1] <;> rfl)) (h2 : subB (dfIds df) I = true := by (simp only [frIds, dfIds, gdIdl, obIdl, hpIds, restrictL, dedupL, pickL, subB, G.idl, G.idls, idls_p, List.nil_append, List.append_nil, List.cons_append, mkHp_cons, mkHp_nil, Nat.reduceEqDiff, reduceIte, List.mem_cons, List.not_mem_nil, or_false, or_true, true_or, false_or, List.filter_cons, List.filter_nil, ne_eq, not_true_eq_false, not_false_eq_true, decide_true, decide_false, Bool.false_eq_true, List.all_cons, List.all_nil, Bool.and_true, idls_told, idls_nil1] <;> rfl)) (h3 : subB (hpIds m I) I = true := by (simp only [frIds, dfIds, gdIdl, obIdl, hpIds, restrictL, dedupL, pickL, subB, G.idl, G.idls, idls_p, List.nil_append, List.append_nil, List.cons_append, mkHp_cons, mkHp_nil, Nat.reduceEqDiff, reduceIte, List.mem_cons, List.not_mem_nil, or_false, or_true, true_or, false_or, List.filter_cons, List.filter_nil, ne_eq, not_true_eq_false, not_false_eq_true, decide_true, decide_false, Bool.false_eq_true, List.all_cons, List.all_nil, Bool.and_true, idls_told, idls_nil1] <;> rfl)) : Le C (sg l m A df : Sg E) (sg l' m' A df) := le_clean2 vs hl hm h1 h2 h3
theorem clx (vs : List Nat) {m' : List (Nat × Ob)} {I : List Nat} (hl : (vs.map fun v => (v, mkFr l v)) = l' := by (simp only [List.map_cons, List.map_nil, mkFr_cons, mkFr_nil, Nat.reduceEqDiff, reduceIte] <;> rfl)) (hI : reach l' m df = I := by (simp only [reach, frIds, dfIds, gdIdl, obIdl, hpIds, restrictL, dedupL, pickL, subB, G.idl, G.idls, idls_p, List.nil_append, List.append_nil, List.cons_append, mkHp_cons, mkHp_nil, Nat.reduceEqDiff, reduceIte, List.mem_cons, List.not_mem_nil, or_false, or_true, true_or, false_or, List.filter_cons, List.filter_nil, ne_eq, not_true_eq_false, not_false_eq_true, decide_true, decide_false, Bool.false_eq_true, List.all_cons, List.all_nil, Bool.and_true, idls_told, idls_nil1] <;> rfl)) (hm : restrictL I m = m' := by (simp only [frIds, dfIds, gdIdl, obIdl, hpIds, restrictL, dedupL, pickL, subB, G.idl, G.idls, idls_p, List.nil_append, List.append_nil, List.cons_append, mkHp_cons, mkHp_nil, Nat.reduceEqDiff, reduceIte, List.mem_cons, List.not_mem_nil, or_false, or_true, true_or, false_or, List.filter_cons, List.filter_nil, ne_eq, not_true_eq_false, not_false_eq_true, decide_true, decide_false, Bool.false_eq_true, List.all_cons, List.all_nil, Bool.and_true, idls_told, idls_nil1] <;> rfl)) (h1 : subB (frIds l') I = true := by (simp only [frIds, dfIds, gdIdl, obIdl, hpIds, restrictL, dedupL, pickL, subB, G.idl, G.idls, idls_p, List.nil_append, List.append_nil, List.cons_append, mkHp_cons, mkHp_nil, Nat.reduceEqDiff, reduceIte, List.mem_cons, List.not_mem_nil, or_false, or_true, true_or, false_or, List.filter_cons, List.filter_nil, ne_eq, not_true_eq_false, not_false_eq_true, decide_true, decide_false, Bool.false_eq_true, List.all_cons, List.all_nil, Bool.and_true, idls_told, idls_nil1] <;> rfl)) (h2 : subB (dfIds df) I = true := by (simp only [frIds, dfIds, gdIdl, obIdl, hpIds, restrictL, dedupL, pickL, subB, G.idl, G.idls, idls_p, List.nil_append, List.append_nil, List.cons_append, mkHp_cons, mkHp_nil, Nat.reduceEqDiff, reduceIte, List.mem_cons, List.not_mem_nil, or_false, or_true, true_or, false_or, List.filter_cons, List.filter_nil, ne_eq, not_true_eq_false, not_false_eq_true, decide_true, decide_false, Bool.false_eq_true, List.all_cons, List.all_nil, Bool.and_true, idls_told, idls_nil1] <;> rfl)) (h3 : subB (hpIds m I) I = true := by (simp only [frIds, dfIds, gdIdl, obIdl, hpIds, restrictL, dedupL, pickL, subB, G.idl, G.idls, idls_p, List.nil_append, List.append_nil, List.cons_append, mkHp_cons, mkHp_nil, Nat.reduceEqDiff, reduceIte, List.mem_cons, List.not_mem_nil, or_false, or_true, true_or, false_or, List.filter_cons, List.filter_nil, ne_eq, not_true_eq_false, not_false_eq_true, decide_true, decide_false, Bool.false_eq_true, List.all_cons, List.all_nil, Bool.and_true, idls_told, idls_nil1] <;> rfl)) (k : gwp C r cd Q (sg l' m' A df)) : gwp C r cd Q (sg l m A df) := gc_clean2 vs hl hm h1 h2 h3 k
theorem lendx (vs : List Nat) {m' : List (Nat × Ob)} {n n' : Nat} {IV : Nat → Sg E → Prop} {I : List Nat} (hl : (vs.map fun v => (v, mkFr l v)) = l' := by (simp only [List.map_cons, List.map_nil, mkFr_cons, mkFr_nil, Nat.reduceEqDiff, reduceIte] <;> rfl)) (hI : reach l' m df = I := by (simp only [reach, frIds, dfIds, gdIdl, obIdl, hpIds, restrictL, dedupL, pickL, subB, G.idl, G.idls, idls_p, List.nil_append, List.append_nil, List.cons_append, mkHp_cons, mkHp_nil, Nat.reduceEqDiff, reduceIte, List.mem_cons, List.not_mem_nil, or_false, or_true, true_or, false_or, List.filter_cons, List.filter_nil, ne_eq, not_true_eq_false, not_false_eq_true, decide_true, decide_false, Bool.false_eq_true, List.all_cons, List.all_nil, Bool.and_true, idls_told, idls_nil1] <;> rfl)) (hm : restrictL I m = m' := by (simp only [frIds, dfIds, gdIdl, obIdl, hpIds, restrictL, dedupL, pickL, subB, G.idl, G.idls, idls_p, List.nil_append, List.append_nil, List.cons_append, mkHp_cons, mkHp_nil, Nat.reduceEqDiff, reduceIte, List.mem_cons, List.not_mem_nil, or_false, or_true, true_or, false_or, List.filter_cons, List.filter_nil, ne_eq, not_true_eq_false, not_false_eq_true, decide_true, decide_false, Bool.false_eq_true, List.all_cons, List.all_nil, Bool.and_true, idls_told, idls_nil1] <;> rfl)) (h1 : subB (frIds l') I = true := by (simp only [frIds, dfIds, gdIdl, obIdl, hpIds, restrictL, dedupL, pickL, subB, G.idl, G.idls, idls_p, List.nil_append, List.append_nil, List.cons_append, mkHp_cons, mkHp_nil, Nat.reduceEqDiff, reduceIte, List.mem_cons, List.not_mem_nil, or_false, or_true, true_or, false_or, List.filter_cons, List.filter_nil, ne_eq, not_true_eq_false, not_false_eq_true, decide_true, decide_false, Bool.false_eq_true, List.all_cons, List.all_nil, Bool.and_true, idls_told, idls_nil1] <;> rfl)) (h2 : subB (dfIds df) I = true := by (simp only [frIds, dfIds, gdIdl, obIdl, hpIds, restrictL, dedupL, pickL, subB, G.idl, G.idls, idls_p, List.nil_append, List.append_nil, List.cons_append, mkHp_cons, mkHp_nil, Nat.reduceEqDiff, reduceIte, List.mem_cons, List.not_mem_nil, or_false, or_true, true_or, false_or, List.filter_cons, List.filter_nil, ne_eq, not_true_eq_false, not_false_eq_true, decide_true, decide_false, Bool.false_eq_true, List.all_cons, List.all_nil, Bool.and_true, idls_told, idls_nil1] <;> rfl)) (h3 : subB (hpIds m I) I = true := by (simp only [frIds, dfIds, gdIdl, obIdl, hpIds, restrictL, dedupL, pickL, subB, G.idl, G.idls, idls_p, List.nil_append, List.append_nil, List.cons_append, mkHp_cons, mkHp_nil, Nat.reduceEqDiff, reduceIte, List.mem_cons, List.not_mem_nil, or_false, or_true, true_or, false_or, List.filter_cons, List.filter_nil, ne_eq, not_true_eq_false, not_false_eq_true, decide_true, decide_false, Bool.false_eq_true, List.all_cons, List.all_nil, Bool.and_true, idls_told, idls_nil1] <;> rfl)) (h : n' < n) (hV : IV n' (sg l' m' A df)) :
    gthen (fun σ' => ∃ n' σ'', n' < n ∧ Le C σ' σ'' ∧ IV n' σ'') Q .normal (sg l m A df : Sg E) := ⟨n', _, h, le_clean2 vs hl hm h1 h2 h3, hV⟩
theorem lbegx (vs : List Nat) {m' : List (Nat × Ob)} {IV : Nat → Sg E → Prop} {I : List Nat} (hl : (vs.map fun v => (v, mkFr l v)) = l' := by (simp only [List.map_cons, List.map_nil, mkFr_cons, mkFr_nil, Nat.reduceEqDiff, reduceIte] <;> rfl)) (hI : reach l' m df = I := by (simp only [reach, frIds, dfIds, gdIdl, obIdl, hpIds, restrictL, dedupL, pickL, subB, G.idl, G.idls, idls_p, List.nil_append, List.append_nil, List.cons_append, mkHp_cons, mkHp_nil, Nat.reduceEqDiff, reduceIte, List.mem_cons, List.not_mem_nil, or_false, or_true, true_or, false_or, List.filter_cons, List.filter_nil, ne_eq, not_true_eq_false, not_false_eq_true, decide_true, decide_false, Bool.false_eq_true, List.all_cons, List.all_nil, Bool.and_true, idls_told, idls_nil1] <;> rfl)) (hm : restrictL I m = m' := by (simp only [frIds, dfIds, gdIdl, obIdl, hpIds, restrictL, dedupL, pickL, subB, G.idl, G.idls, idls_p, List.nil_append, List.append_nil, List.cons_append, mkHp_cons, mkHp_nil, Nat.reduceEqDiff, reduceIte, List.mem_cons, List.not_mem_nil, or_false, or_true, true_or, false_or, List.filter_cons, List.filter_nil, ne_eq, not_true_eq_false, not_false_eq_true, decide_true, decide_false, Bool.false_eq_true, List.all_cons, List.all_nil, Bool.and_true, idls_told, idls_nil1] <;> rfl)) (h1 : subB (frIds l') I = true := by (simp only [frIds, dfIds, gdIdl, obIdl, hpIds, restrictL, dedupL, pickL, subB, G.idl, G.idls, idls_p, List.nil_append, List.append_nil, List.cons_append, mkHp_cons, mkHp_nil, Nat.reduceEqDiff, reduceIte, List.mem_cons, List.not_mem_nil, or_false, or_true, true_or, false_or, List.filter_cons, List.filter_nil, ne_eq, not_true_eq_false, not_false_eq_true, decide_true, decide_false, Bool.false_eq_true, List.all_cons, List.all_nil, Bool.and_true, idls_told, idls_nil1] <;> rfl)) (h2 : subB (dfIds df) I = true := by (simp only [frIds, dfIds, gdIdl, obIdl, hpIds, restrictL, dedupL, pickL, subB, G.idl, G.idls, idls_p, List.nil_append, List.append_nil, List.cons_append, mkHp_cons, mkHp_nil, Nat.reduceEqDiff, reduceIte, List.mem_cons, List.not_mem_nil, or_false, or_true, true_or, false_or, List.filter_cons, List.filter_nil, ne_eq, not_true_eq_false, not_false_eq_true, decide_true, decide_false, Bool.false_eq_true, List.all_cons, List.all_nil, Bool.and_true, idls_told, idls_nil1] <;> rfl)) (h3 : subB (hpIds m I) I = true := by (simp only [frIds, dfIds, gdIdl, obIdl, hpIds, restrictL, dedupL, pickL, subB, G.idl, G.idls, idls_p, List.nil_append, List.append_nil, List.cons_append, mkHp_cons, mkHp_nil, Nat.reduceEqDiff, reduceIte, List.mem_cons, List.not_mem_nil, or_false, or_true, true_or, false_or, List.filter_cons, List.filter_nil, ne_eq, not_true_eq_false, not_false_eq_true, decide_true, decide_false, Bool.false_eq_true, List.all_cons, List.all_nil, Bool.and_true, idls_told, idls_nil1] <;> rfl)) (hV : ∃ n, IV n (sg l' m' A df)) :
    ∃ n σ'', Le C (sg l m A df : Sg E) σ'' ∧ IV n σ'' := by
  obtain ⟨n, hV⟩ := hV
  exact ⟨n, _, le_clean2 vs hl hm h1 h2 h3, hV⟩
end Go.Proofs.Ytedihdnkalmoiaa

/- A rule of written-out states: leaving with a value that nobody turns, and objects. -/
namespace Go.Proofs.Ytedihdnkalmoiaa
open Go.Gh
set_option maxRecDepth 100000
variable {E : Env Try.prog} {l : List (Nat × G)} {m : List (Nat × Ob)} {A : E.α} {g : G}
theorem fk2 (I : List Nat) {fn : Func} {R : GRes E → Prop} {d d' : Prop} {v : P} {m' : List (Nat × Ob)} {x1 x2 : ResultVar} (hrs : fn.results.toList = [x1, x2] := by rfl) (hg : gresult Try.prog (mkHp m) (mkFr l) [x1, x2] = some (d, g) := by (simp only [gresult, gresL, gres1, tup_nil, tup_one, tup_two, gsem, gev, ofV, mkFr_cons, mkFr_nil, mkHp_cons, mkHp_nil, upd, yes, lift, gbinAt, gnilEq, gbin, gint, gshift, arith, gpick, gload, gstore, splice, gbox, gfill, placesL, gbuildSlice, gfieldAddr, gfield, gelem, gindexAddr, gindex, gbound, gslice, glen, gsource, gappend, gmin, gminL, gmax, gmaxL, mapGet, mapPut, zeroG, orZero, glookup, gmapUpdate, gconvert, gtypeAssert, gextract, isConst, gnilCheck, gunOp, gmakeSlice, intOf, mkAgg, mkFn, mkIface, mkTuple, allP, G.cells, good, goods, allOne, G.one, P.one, allP_p, allOne_p, goods_p, toPs_p, all_int, take_all, isAggD, isIfaceD, toP, toPs, P.size, P.cells, List.map_cons, List.map_nil, List.take_succ_cons, List.take_zero, List.drop_succ_cons, List.drop_zero, List.take_nil, List.drop_nil, List.cons_append, List.nil_append, List.append_nil, List.length_cons, List.length_nil, List.getElem?_cons_zero, List.getElem?_cons_succ, List.getElem?_nil, List.set_cons_zero, List.set_cons_succ, List.flatMap_cons, List.flatMap_nil, List.getElem?_toArray, List.getElem?_map, List.length_map, Option.map_some, Option.map_none, Nat.mul_one, List.length_set, set_map_p, set_map_int, Nat.reduceEqDiff, Nat.reduceAdd, Nat.reduceMul, Nat.reduceSub, Nat.reduceLeDiff, Nat.add_zero, Nat.zero_add, Int.toNat_natCast, Int.reduceToNat, reduceIte, reduceCtorEq, eq_self, if_true, if_false, and_true, true_and, true_or, or_true, or_false, false_or, Bool.false_eq_true, ne_eq, not_true_eq_false, not_false_eq_true, cond_true, cond_false, Bool.and_true, Bool.true_and, Bool.and_false, Bool.false_and, Bool.or_true, Bool.true_or, Bool.or_false, Bool.false_or, Bool.not_true, Bool.not_false, ti_3, ti_4, ti_5, ti_9, ti_20, ti_22, ti_24, ti_25, ti_27, ti_30, ti_40, ti_43, ti_48, ti_50, ti_51, ti_55, ti_57, ti_61, ti_66, ti_67, ti_71, ti_72, ti_74, ti_75, ti_76, ti_77, ti_78, ti_80, ti_81, ti_84, ti_91, ti_92, ti_93, ti_95, ti_97, ti_99, ti_105, ti_109, ti_111, ti_115, ti_118, ti_120] <;> rfl))
    (hp : toP (mkHp m) g = some (d', v) := by (simp only [toP, toPs, mkHp_cons, mkHp_nil, Nat.reduceEqDiff, reduceIte, and_true, true_and] <;> rfl)) (hm : restrictL I m = m' := by (simp only [frIds, dfIds, gdIdl, obIdl, hpIds, restrictL, dedupL, pickL, subB, G.idl, G.idls, idls_p, List.nil_append, List.append_nil, List.cons_append, mkHp_cons, mkHp_nil, Nat.reduceEqDiff, reduceIte, List.mem_cons, List.not_mem_nil, or_false, or_true, true_or, false_or, List.filter_cons, List.filter_nil, ne_eq, not_true_eq_false, not_false_eq_true, decide_true, decide_false, Bool.false_eq_true, List.all_cons, List.all_nil, Bool.and_true] <;> rfl)) (h3 : subB (hpIds m I) I = true := by (simp only [frIds, dfIds, gdIdl, obIdl, hpIds, restrictL, dedupL, pickL, subB, G.idl, G.idls, idls_p, List.nil_append, List.append_nil, List.cons_append, mkHp_cons, mkHp_nil, Nat.reduceEqDiff, reduceIte, List.mem_cons, List.not_mem_nil, or_false, or_true, true_or, false_or, List.filter_cons, List.filter_nil, ne_eq, not_true_eq_false, not_false_eq_true, decide_true, decide_false, Bool.false_eq_true, List.all_cons, List.all_nil, Bool.and_true] <;> rfl)) (hne : ∀ i ∈ I, mkHp m i ≠ .none := by simp [mkHp_cons, mkHp_nil])
    (hR : R (.ok (.p v) (mkHp m') A)) (hd : d := by simp) (hd' : d' := by simp) : Fin Try.prog fn R (sg l m A []) := fin_pk (by rw [hrs]; exact hg) hd hp hd' hm h3 hne hR
end Go.Proofs.Ytedihdnkalmoiaa
