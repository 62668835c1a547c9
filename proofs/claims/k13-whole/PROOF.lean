import PyProof.Rows.All
import Wide.All
import OpenK.AllK
import Wide.FinOn
import PyProof.NeKinds
import PyProof.StrOps2
import KE.KDictDisplayH
import KE.GoesEnum
import HandS.ForMost
import HandS.Walk
import HandS.Evl
import HandS.IsInst
import HandS.Strs
import HandS.SortKw
import HandS.TupAny
import HandS.More
import HandS.Conv
import HandS.Style
import HandS.Defaults
import HandS.ListItems
import HandS.EndBits
import KE.SortKeyHeap
import HandS.Small
import KE.KRevSl
import PySem.Challenge.RW_oneuseheads_k13_whole_known_programs
set_option Elab.async false
set_option linter.all false
set_option maxRecDepth 100000
set_option maxHeartbeats 4000000
/-! Oh, part 1: data in the heap -/
namespace Oh
open PySem PySem.Spec PyProof.Rows L2
open Evl (Ex)

/-! ### the heap grows -/
theorem NT_of {o : Option HO} : True := trivial
/-- neither a tuple nor a locked one -/
def NT : Option HO → Prop
  | some (.tup _) => False
  | some (.frz _ (.tup _)) => False
  | _ => True
/-- the tuples stay -/
def Tk (K : PySem.W.Frag) (H H' : Hp) : Prop := ∀ a xs, SqT K H a xs → SqT K H' a xs
theorem Tk.refl {K : PySem.W.Frag} {H : Hp} : Tk K H H := fun _ _ h => h
theorem Tk.trans {K : PySem.W.Frag} {H H1 H2 : Hp} (a : Tk K H H1) (b : Tk K H1 H2) : Tk K H H2 := fun x o h => b x o (a x o h)
theorem tk {K : PySem.W.Frag} {H H' : Hp} (e : Ex H H') : Tk K H H' := fun _ _ h => Evl.ex_t e h
theorem Tk.upd {K : PySem.W.Frag} {H : Hp} {l : Addr} {o : HO} (h : NT (H l)) : Tk K H (upd H l o) := fun a xs q => by
  rcases q with (q | ⟨u, q⟩) | q
  · refine .inl (.inl ?_)
    rw [upd_ne (fun z => by subst z; rw [q] at h; exact h)]
    exact q
  · refine .inl (.inr ⟨u, ?_⟩)
    rw [upd_ne (fun z => by subst z; rw [q] at h; exact h)]
    exact q
  · exact .inr q
theorem nt_lst {H : Hp} {l : Addr} {xs : List V} (h : H l = some (.lst xs)) : NT (H l) := by rw [h]; exact True.intro
theorem nt_dK {H : Hp} {l : Addr} {xs : List (Key × V)} (h : H l = some (.dK xs)) : NT (H l) := by rw [h]; exact True.intro
theorem nt_dT {H : Hp} {l : Addr} {xs : List (List Key × V)} (h : H l = some (.dT xs)) : NT (H l) := by rw [h]; exact True.intro
theorem nt_none {H : Hp} {l : Addr} (h : H l = none) : NT (H l) := by rw [h]; exact True.intro
theorem nt_ins {H : Hp} {l C dx : Addr} {fs : List (Str × V)} (h : H l = some (.ins C dx fs)) : NT (H l) := by rw [h]; exact True.intro
theorem nt_frzK {H : Hp} {l : Addr} {o : Obj} {xs : List (Key × V)} (h : H l = some (.frz o (.dK xs))) : NT (H l) := by rw [h]; exact True.intro
theorem nt_frzT {H : Hp} {l : Addr} {o : Obj} {xs : List (List Key × V)} (h : H l = some (.frz o (.dT xs))) : NT (H l) := by rw [h]; exact True.intro

/-! ### data that never changes -/
mutual
inductive Im (K : PySem.W.Frag) (H : Hp) : V → PyData → Prop
  | non : Im K H .non .none
  | bl (b : Bool) : Im K H (.bl b) (.bool b)
  | int (i : Int) : Im K H (.int i) (.int i)
  | str (x : Str) : Im K H (.str x) (.str x)
  | tup {a : Addr} {xs : List V} {ds : List PyData} : SqT K H a xs → ImA K H xs ds → Im K H (.ref a) (.tuple ds)
inductive ImA (K : PySem.W.Frag) (H : Hp) : List V → List PyData → Prop
  | nil : ImA K H [] []
  | cons {v : V} {vs : List V} {d : PyData} {ds : List PyData} : Im K H v d → ImA K H vs ds → ImA K H (v :: vs) (d :: ds)
end
section
variable {K : PySem.W.Frag} {H H' : Hp}
mutual
theorem Im.mono (t : Tk K H H') : ∀ (d : PyData) (v : V), Im K H v d → Im K H' v d
  | .none, _, h => by cases h; exact .non
  | .bool _, _, h => by cases h; exact .bl _
  | .int _, _, h => by cases h; exact .int _
  | .str _, _, h => by cases h; exact .str _
  | .list _, _, h => by cases h
  | .dict _, _, h => by cases h
  | .tuple ds, _, h => by
    cases h with
    | tup hs ha => exact .tup (t _ _ hs) (ImA.mono t ds _ ha)
theorem ImA.mono (t : Tk K H H') : ∀ (ds : List PyData) (vs : List V), ImA K H vs ds → ImA K H' vs ds
  | [], _, h => by cases h; exact .nil
  | d :: ds, _, h => by
    cases h with
    | cons h1 h2 => exact .cons (Im.mono t d _ h1) (ImA.mono t ds _ h2)
end
theorem Im.up {v : V} {d : PyData} (h : Im K H v d) (t : Tk K H H') : Im K H' v d := Im.mono t d v h
theorem ImA.up {v : List V} {d : List PyData} (h : ImA K H v d) (t : Tk K H H') : ImA K H' v d := ImA.mono t d v h
theorem Im.ex {v : V} {d : PyData} (h : Im K H v d) (e : Ex H H') : Im K H' v d := h.up (tk e)
theorem ImA.ex {v : List V} {d : List PyData} (h : ImA K H v d) (e : Ex H H') : ImA K H' v d := h.up (tk e)
mutual
theorem Im.dp : ∀ (d : PyData) (v : V), Im K H v d → Dp K H v d
  | .none, _, h => by cases h; exact .non
  | .bool _, _, h => by cases h; exact .bl _
  | .int _, _, h => by cases h; exact .int _
  | .str _, _, h => by cases h; exact .str _
  | .list _, _, h => by cases h
  | .dict _, _, h => by cases h
  | .tuple ds, _, h => by
    cases h with
    | tup hs ha => exact .tup hs (ImA.dp ds _ ha)
theorem ImA.dp : ∀ (ds : List PyData) (vs : List V), ImA K H vs ds → DpAll K H vs ds
  | [], _, h => by cases h; exact .nil
  | d :: ds, _, h => by
    cases h with
    | cons h1 h2 => exact .cons (Im.dp d _ h1) (ImA.dp ds _ h2)
end
theorem Im.dpv {v : V} {d : PyData} (h : Im K H v d) : Dp K H v d := Im.dp d v h
theorem Im.i {v : V} {i : Int} (h : Im K H v (.int i)) : v = .int i := by cases h; rfl
theorem Im.s {v : V} {x : Str} (h : Im K H v (.str x)) : v = .str x := by cases h; rfl
theorem Im.n {v : V} (h : Im K H v .none) : v = .non := by cases h; rfl
theorem Im.t {v : V} {ds : List PyData} (h : Im K H v (.tuple ds)) : ∃ a xs, v = .ref a ∧ SqT K H a xs ∧ ImA K H xs ds := by
  cases h with
  | tup hs ha => exact ⟨_, _, rfl, hs, ha⟩
theorem ImA.c {vs : List V} {d : PyData} {ds : List PyData} (h : ImA K H vs (d :: ds)) : ∃ v r, vs = v :: r ∧ Im K H v d ∧ ImA K H r ds := by
  cases h with
  | cons h1 h2 => exact ⟨_, _, rfl, h1, h2⟩
theorem ImA.e {vs : List V} (h : ImA K H vs []) : vs = [] := by cases h; rfl
theorem Im.t1 {v : V} {d1 : PyData} (h : Im K H v (.tuple [d1])) : ∃ a x, v = .ref a ∧ SqT K H a [x] ∧ Im K H x d1 := by
  obtain ⟨a, xs, e, hs, h⟩ := h.t
  obtain ⟨x, r, rfl, h1, h⟩ := h.c
  obtain rfl := h.e
  exact ⟨a, x, e, hs, h1⟩
theorem Im.t2 {v : V} {d1 d2 : PyData} (h : Im K H v (.tuple [d1, d2])) : ∃ a x y, v = .ref a ∧ SqT K H a [x, y] ∧ Im K H x d1 ∧ Im K H y d2 := by
  obtain ⟨a, xs, e, hs, h⟩ := h.t
  obtain ⟨x, r, rfl, h1, h⟩ := h.c
  obtain ⟨y, r, rfl, h2, h⟩ := h.c
  obtain rfl := h.e
  exact ⟨a, x, y, e, hs, h1, h2⟩
theorem Im.t3 {v : V} {d1 d2 d3 : PyData} (h : Im K H v (.tuple [d1, d2, d3])) : ∃ a x y z, v = .ref a ∧ SqT K H a [x, y, z] ∧ Im K H x d1 ∧ Im K H y d2 ∧ Im K H z d3 := by
  obtain ⟨a, xs, e, hs, h⟩ := h.t
  obtain ⟨x, r, rfl, h1, h⟩ := h.c
  obtain ⟨y, r, rfl, h2, h⟩ := h.c
  obtain ⟨z, r, rfl, h3, h⟩ := h.c
  obtain rfl := h.e
  exact ⟨a, x, y, z, e, hs, h1, h2, h3⟩
theorem Im.t4 {v : V} {d1 d2 d3 d4 : PyData} (h : Im K H v (.tuple [d1, d2, d3, d4])) : ∃ a x y z u, v = .ref a ∧ SqT K H a [x, y, z, u] ∧ Im K H x d1 ∧ Im K H y d2 ∧ Im K H z d3 ∧ Im K H u d4 := by
  obtain ⟨a, xs, e, hs, h⟩ := h.t
  obtain ⟨x, r, rfl, h1, h⟩ := h.c
  obtain ⟨y, z, u, rfl, hs', h2, h3, h4⟩ : ∃ y z u, r = [y, z, u] ∧ True ∧ Im K H y d2 ∧ Im K H z d3 ∧ Im K H u d4 := by
    obtain ⟨y, r, rfl, h2, h⟩ := h.c
    obtain ⟨z, r, rfl, h3, h⟩ := h.c
    obtain ⟨u, r, rfl, h4, h⟩ := h.c
    obtain rfl := h.e
    exact ⟨y, z, u, rfl, trivial, h2, h3, h4⟩
  exact ⟨a, x, y, z, u, e, hs, h1, h2, h3, h4⟩
theorem Im.t5 {v : V} {d1 d2 d3 d4 d5 : PyData} (h : Im K H v (.tuple [d1, d2, d3, d4, d5])) : ∃ a x y z u w, v = .ref a ∧ SqT K H a [x, y, z, u, w] ∧ Im K H x d1 ∧ Im K H y d2 ∧ Im K H z d3 ∧ Im K H u d4 ∧ Im K H w d5 := by
  obtain ⟨a, xs, e, hs, h⟩ := h.t
  obtain ⟨x, r, rfl, h1, h⟩ := h.c
  obtain ⟨y, z, u, w, rfl, hs', h2, h3, h4, h5⟩ : ∃ y z u w, r = [y, z, u, w] ∧ True ∧ Im K H y d2 ∧ Im K H z d3 ∧ Im K H u d4 ∧ Im K H w d5 := by
    obtain ⟨y, r, rfl, h2, h⟩ := h.c
    obtain ⟨z, r, rfl, h3, h⟩ := h.c
    obtain ⟨u, r, rfl, h4, h⟩ := h.c
    obtain ⟨w, r, rfl, h5, h⟩ := h.c
    obtain rfl := h.e
    exact ⟨y, z, u, w, rfl, trivial, h2, h3, h4, h5⟩
  exact ⟨a, x, y, z, u, w, e, hs, h1, h2, h3, h4, h5⟩
theorem Im.mk1 {p : Addr} {x : V} {d1 : PyData} (h : H p = some (.tup [x])) (h1 : Im K H x d1) : Im K H (.ref p) (.tuple [d1]) := .tup (SqT.of h) (.cons h1 .nil)
theorem Im.mk2 {p : Addr} {x y : V} {d1 d2 : PyData} (h : H p = some (.tup [x, y])) (h1 : Im K H x d1) (h2 : Im K H y d2) : Im K H (.ref p) (.tuple [d1, d2]) := .tup (SqT.of h) (.cons h1 (.cons h2 .nil))
theorem Im.mk3 {p : Addr} {x y z : V} {d1 d2 d3 : PyData} (h : H p = some (.tup [x, y, z])) (h1 : Im K H x d1) (h2 : Im K H y d2) (h3 : Im K H z d3) : Im K H (.ref p) (.tuple [d1, d2, d3]) := .tup (SqT.of h) (.cons h1 (.cons h2 (.cons h3 .nil)))
theorem ImA.len {vs : List V} {ds : List PyData} (h : ImA K H vs ds) : vs.length = ds.length := by
  induction ds generalizing vs with
  | nil => rw [h.e]; rfl
  | cons d ds ih =>
    obtain ⟨v, r, rfl, _, h2⟩ := h.c
    rw [List.length_cons, List.length_cons, ih h2]
theorem ImA.get {vs : List V} {ds : List PyData} (h : ImA K H vs ds) {i : Nat} {v : V} (e : vs[i]? = some v) : ∃ d, ds[i]? = some d ∧ Im K H v d := by
  induction ds generalizing vs i with
  | nil => rw [h.e] at e; simp at e
  | cons d ds ih =>
    obtain ⟨w, r, rfl, h1, h2⟩ := h.c
    cases i with
    | zero => simp at e; subst e; exact ⟨d, rfl, h1⟩
    | succ i => simpa using ih h2 (i := i) (by simpa using e)
theorem ImA.get' {vs : List V} {ds : List PyData} (h : ImA K H vs ds) {i : Nat} {d : PyData} (e : ds[i]? = some d) : ∃ v, vs[i]? = some v ∧ Im K H v d := by
  induction ds generalizing vs i with
  | nil => simp at e
  | cons d' ds ih =>
    obtain ⟨w, r, rfl, h1, h2⟩ := h.c
    cases i with
    | zero => simp at e; subst e; exact ⟨w, rfl, h1⟩
    | succ i => simpa using ih h2 (i := i) (by simpa using e)
theorem ImA.app {vs ws : List V} {ds es : List PyData} (h : ImA K H vs ds) (g : ImA K H ws es) : ImA K H (vs ++ ws) (ds ++ es) := by
  induction ds generalizing vs with
  | nil => rw [h.e]; exact g
  | cons d ds ih =>
    obtain ⟨w, r, rfl, h1, h2⟩ := h.c
    exact .cons h1 (ih h2)
theorem ImA.snoc {vs : List V} {v : V} {ds : List PyData} {d : PyData} (h : ImA K H vs ds) (g : Im K H v d) : ImA K H (vs ++ [v]) (ds ++ [d]) := h.app (.cons g .nil)
theorem ImA.drop {vs : List V} {ds : List PyData} (h : ImA K H vs ds) (n : Nat) : ImA K H (vs.drop n) (ds.drop n) := by
  induction n generalizing vs ds with
  | zero => exact h
  | succ n ih =>
    cases ds with
    | nil => rw [h.e]; exact .nil
    | cons d ds =>
      obtain ⟨w, r, rfl, h1, h2⟩ := h.c
      exact ih h2
/-- a stack: the last one taken -/
theorem ImA.last {vs : List V} {ds : List PyData} {d : PyData} (h : ImA K H vs (ds ++ [d])) : ∃ v r, vs = r ++ [v] ∧ ImA K H r ds ∧ Im K H v d := by
  induction ds generalizing vs with
  | nil =>
    obtain ⟨w, r, rfl, h1, h2⟩ := h.c
    obtain rfl := h2.e
    exact ⟨w, [], rfl, .nil, h1⟩
  | cons e ds ih =>
    obtain ⟨w, r, rfl, h1, h2⟩ := h.c
    obtain ⟨v, r', rfl, h3, h4⟩ := ih h2
    exact ⟨v, w :: r', rfl, .cons h1 h3, h4⟩
end

/-! ### dicts -/
def lookA {α β : Type} [DecidableEq α] : List (α × β) → α → Option β
  | [], _ => none
  | p :: r, a => if p.1 = a then some p.2 else lookA r a
def putA {α β : Type} [DecidableEq α] : List (α × β) → α → β → List (α × β)
  | [], a, b => [(a, b)]
  | p :: r, a, b => if p.1 = a then (p.1, b) :: r else p :: putA r a b
/-- the pairs of a dict kvs (keys told by f, values by g) -/
inductive DRel {α β κ : Type} (K : PySem.W.Frag) (H : Hp) (f : α → κ) (g : β → PyData) : List (κ × V) → List (α × β) → Prop
  | nil : DRel K H f g [] []
  | cons {a : α} {b : β} {v : V} {kvs : List (κ × V)} {L : List (α × β)} : Im K H v (g b) → DRel K H f g kvs L → DRel K H f g ((f a, v) :: kvs) ((a, b) :: L)
section
variable {α β κ : Type} [DecidableEq α] [DecidableEq κ] {K : PySem.W.Frag} {H H' : Hp} {f : α → κ} {g : β → PyData} {kvs : List (κ × V)} {L : List (α × β)}
omit [DecidableEq α] [DecidableEq κ] in
theorem DRel.up (h : DRel K H f g kvs L) (t : Tk K H H') : DRel K H' f g kvs L := by
  induction h with
  | nil => exact .nil
  | cons h1 _ ih => exact .cons (h1.up t) ih
omit [DecidableEq α] [DecidableEq κ] in
theorem DRel.len (h : DRel K H f g kvs L) : kvs.length = L.length := by
  induction h with
  | nil => rfl
  | cons _ _ ih => rw [List.length_cons, List.length_cons, ih]
omit [DecidableEq α] [DecidableEq κ] in
theorem DRel.keys (h : DRel K H f g kvs L) : kvs.map (·.1) = L.map fun p => f p.1 := by
  induction h with
  | nil => rfl
  | cons _ _ ih => rw [List.map_cons, List.map_cons, ih]
omit [DecidableEq α] [DecidableEq κ] in
theorem DRel.at {i : Nat} {k : κ} {v : V} (h : DRel K H f g kvs L) (e : kvs[i]? = some (k, v)) : ∃ a b, L[i]? = some (a, b) ∧ k = f a ∧ Im K H v (g b) := by
  induction h generalizing i with
  | nil => simp at e
  | @cons a b w kvs L h1 _ ih =>
    cases i with
    | zero => simp at e; obtain ⟨rfl, rfl⟩ := e; exact ⟨a, b, rfl, rfl, h1⟩
    | succ i => simpa using ih (i := i) (by simpa using e)
theorem DRel.get (inj : ∀ a b, f a = f b → a = b) {a : α} {b : β} (h : DRel K H f g kvs L) (e : lookA L a = some b) : ∃ v, valV kvs (f a) = some v ∧ Im K H v (g b) := by
  induction h with
  | nil => cases e
  | @cons a' b' v kvs L h1 _ ih =>
    unfold lookA at e
    by_cases q : a' = a
    · rw [if_pos q] at e
      cases e
      exact ⟨v, by rw [valV_pos (by rw [q])], h1⟩
    · rw [if_neg q] at e
      obtain ⟨w, h2, h3⟩ := ih e
      exact ⟨w, by rw [valV_neg (fun z => q (inj _ _ z))]; exact h2, h3⟩
theorem DRel.get0 (inj : ∀ a b, f a = f b → a = b) {a : α} (h : DRel K H f g kvs L) (e : lookA L a = none) : valV kvs (f a) = none := by
  induction h with
  | nil => rfl
  | @cons a' b' v kvs L h1 _ ih =>
    unfold lookA at e
    by_cases q : a' = a
    · rw [if_pos q] at e; cases e
    · rw [if_neg q] at e
      rw [valV_neg (fun z => q (inj _ _ z))]
      exact ih e
theorem putK_pos {p : κ × V} {r : List (κ × V)} {k : κ} {v : V} (nd : ((p :: r).map (·.1)).Nodup) (e : p.1 = k) : putK (p :: r) k v = (p.1, v) :: r := by
  have h0 : ∀ q ∈ r, ¬ q.1 = k := fun q hq z => by
    rw [List.map_cons, List.nodup_cons] at nd
    exact nd.1 (List.mem_map.mpr ⟨q, hq, by rw [z, e]⟩)
  have h1 : (r.map fun kv => if kv.1 = k then (kv.1, v) else kv) = r := by
    conv => rhs; rw [← List.map_id r]
    exact List.map_congr_left fun q hq => by rw [if_neg (h0 q hq)]; rfl
  unfold putK
  rw [List.any_cons, decide_eq_true e, Bool.true_or, if_pos rfl, List.map_cons, if_pos e, h1]
theorem putK_neg {p : κ × V} {r : List (κ × V)} {k : κ} {v : V} (e : ¬ p.1 = k) : putK (p :: r) k v = p :: putK r k v := by
  unfold putK
  rw [List.any_cons, decide_eq_false e, Bool.false_or, List.map_cons, if_neg e]
  split
  · rfl
  · rfl
theorem lookA_put {a c : α} {b : β} {L : List (α × β)} : lookA (putA L a b) c = if c = a then some b else lookA L c := by
  induction L with
  | nil =>
    show (if a = c then some b else none) = _
    by_cases q : c = a
    · rw [if_pos q, if_pos q.symm]
    · rw [if_neg q, if_neg (fun z => q z.symm)]; rfl
  | cons p r ih =>
    unfold putA
    by_cases q : p.1 = a
    · rw [if_pos q]
      unfold lookA
      by_cases z : c = a
      · rw [if_pos z, if_pos (q.trans z.symm)]
      · rw [if_neg z, if_neg (fun y => z (y.symm.trans q)), if_neg (fun y => z (y.symm.trans q))]
    · rw [if_neg q]
      unfold lookA
      rw [ih]
      by_cases z : p.1 = c
      · rw [if_pos z, if_pos z, if_neg (fun y => q (z.trans y))]
      · rw [if_neg z, if_neg z]
theorem keys_put {a : α} {b : β} {L : List (α × β)} : (putA L a b).map (·.1) = if a ∈ L.map (·.1) then L.map (·.1) else L.map (·.1) ++ [a] := by
  induction L with
  | nil => rfl
  | cons p r ih =>
    unfold putA
    by_cases q : p.1 = a
    · rw [if_pos q, List.map_cons, List.map_cons, if_pos (by rw [q]; exact List.mem_cons_self)]
    · rw [if_neg q, List.map_cons, List.map_cons, ih]
      by_cases z : a ∈ r.map (·.1)
      · rw [if_pos z, if_pos (List.mem_cons_of_mem _ z)]
      · rw [if_neg z, if_neg (fun y => (List.mem_cons.mp y).elim (fun w => q w.symm) z)]; rfl
theorem nodup_put {a : α} {b : β} {L : List (α × β)} (h : (L.map (·.1)).Nodup) : ((putA L a b).map (·.1)).Nodup := by
  rw [keys_put]
  split
  · exact h
  · rename_i q
    exact List.nodup_append.mpr ⟨h, by simp, fun x hx y hy z => by
      rw [List.mem_singleton] at hy
      subst hy; subst z
      exact q hx⟩
omit [DecidableEq α] [DecidableEq κ] in
theorem nodup_f (inj : ∀ a b, f a = f b → a = b) {L : List (α × β)} (h : (L.map (·.1)).Nodup) : (L.map fun p => f p.1).Nodup := by
  have e : (L.map fun p => f p.1) = (L.map (·.1)).map f := by rw [List.map_map]; rfl
  rw [e]
  exact List.Pairwise.map f (fun a b hab z => hab (inj a b z)) h
theorem DRel.put (inj : ∀ a b, f a = f b → a = b) {a : α} {b : β} {v : V} (h : DRel K H f g kvs L) (hv : Im K H v (g b)) (nd : (L.map (·.1)).Nodup) : DRel K H f g (putK kvs (f a) v) (putA L a b) := by
  induction h with
  | nil => exact .cons hv .nil
  | @cons a' b' w kvs L h1 h2 ih =>
    unfold putA
    by_cases q : a' = a
    · rw [if_pos q]
      have ndk : (((f a', w) :: kvs).map (·.1)).Nodup := by
        rw [List.map_cons, h2.keys]
        exact nodup_f inj nd
      rw [putK_pos ndk (by rw [q])]
      exact .cons hv h2
    · rw [if_neg q, putK_neg (fun z => q (inj _ _ z))]
      refine .cons h1 (ih ?_)
      rw [List.map_cons, List.nodup_cons] at nd
      exact nd.2
omit [DecidableEq κ] in
theorem len_put {a : α} {b : β} {L : List (α × β)} : (putA L a b).length ≤ L.length + 1 := by
  induction L with
  | nil => exact Nat.le_refl _
  | cons p r ih =>
    unfold putA
    split
    · simp
    · rw [List.length_cons, List.length_cons]; omega
end
theorem inl_inj (a b : Int) (h : (Sum.inl a : Key) = Sum.inl b) : a = b := Sum.inl.inj h
theorem inr_inj (a b : Str) (h : (Sum.inr a : Key) = Sum.inr b) : a = b := Sum.inr.inj h

/-! ### tests whose answer is known -/
theorem ifT {p A B : Prop} [Decidable p] (hp : p) (h : A) : if decide p = true then A else B := by
  rw [decide_eq_true hp]; exact iteT h
theorem ifF {p A B : Prop} [Decidable p] (hp : ¬ p) (h : B) : if decide p = true then A else B := by
  rw [decide_eq_false hp]; exact iteF h
theorem ifNT {p A B : Prop} [Decidable p] (hp : ¬ p) (h : A) : if (!decide p) = true then A else B := by
  rw [decide_eq_false hp]; exact iteT h
theorem ifNF {p A B : Prop} [Decidable p] (hp : p) (h : B) : if (!decide p) = true then A else B := by
  rw [decide_eq_true hp]; exact iteF h
theorem ifB {b : Bool} {A B : Prop} (hp : b = true) (h : A) : if b = true then A else B := by rw [if_pos hp]; exact h
theorem ifBF {b : Bool} {A B : Prop} (hp : b = false) (h : B) : if b = true then A else B := by rw [hp]; exact iteF h

/-! ### values -/
theorem SqT.ty {K : PySem.W.Frag} {H : Hp} {a : Addr} {xs : List V} (h : SqT K H a xs) : TyX K H (.ref a) (.type "tuple") := by
  rcases h with (h | ⟨o, h⟩) | ⟨o, its, n, h1, h2, _⟩
  · exact .base (.tup h)
  · exact .fTuple h
  · exact .kTuple h1 h2
theorem kit_tt {K : PySem.W.Frag} : PySem.W.kitOne K (.type "tuple") (.type "tuple") = some true := kit_ty (by decide +kernel)
theorem kit_ss {K : PySem.W.Frag} : PySem.W.kitOne K (.type "str") (.type "str") = some true := kit_ty (by decide +kernel)
theorem sl {n : Nat} (h : n ≤ 1000) : n ≤ sizeLine := Nat.le_of_lt (small1000 h)

section
variable {X : Cx}
/-- a list, and a list without items -/
def rNeNil : R2 := fun x y H Q => ∃ l p xs, x = .ref l ∧ y = .ref p ∧ H l = some (.lst xs) ∧ H p = some (.lst []) ∧ Q (.bl (!xs.isEmpty)) H
theorem op_neNil (hu : X.A.units + 1 < cLine) : OpR X (compareOp .NotEq) rNeNil := by
  intro pins s σ H x y v u Q I rx ry h
  obtain ⟨l, p, xs, rfl, rfl, h1, h2, q⟩ := h
  cases rx
  cases ry
  obtain ⟨its, r1, l1, _⟩ := I.list (SqL.of h1)
  obtain ⟨its2, r2, l2, _⟩ := I.list (SqL.of h2)
  cases r2
  have fin : ∀ b : Bool, b = !xs.isEmpty → EP X pins σ Q (.bool b) s := fun b e => ⟨.bl b, H, I, rfl, by rw [e]; exact q⟩
  have hu' : X.A.units < cLine := by omega
  cases its with
  | nil =>
    cases r1
    exact SeqAt.RcNeAt.lists (e := fun _ => true) l1.isList l2.isList rfl hu' (fun j h1 _ => absurd h1 (by simp)) X.prog X.w _ _ (fin _ (by simp))
  | cons z zs =>
    cases r1
    exact SeqAt.RcNeAt.lists_lengths l1.isList l2.isList (by simp) hu' X.prog X.w _ _ (fin _ (by simp))
/-- a tuple, and the tuple without items -/
def rEqNilT (K : PySem.W.Frag) : R2 := fun x y H Q => ∃ l p xs, x = .ref l ∧ y = .ref p ∧ SqT K H l xs ∧ H p = some (.tup []) ∧ Q (.bl xs.isEmpty) H
theorem op_eqNilT (hu : X.A.units + 1 < cLine) : OpR X (compareOp .Eq) (rEqNilT X.K) := by
  intro pins s σ H x y v u Q I rx ry h
  obtain ⟨l, p, xs, rfl, rfl, h1, h2, q⟩ := h
  cases rx
  cases ry
  obtain ⟨its, r1, l1, _⟩ := I.tuple h1
  obtain ⟨its2, r2, l2, _⟩ := I.tuple (SqT.of h2)
  cases r2
  have hu' : X.A.units < cLine := by omega
  refine SeqAt.RcAt.tuples (e := fun _ => true) l1 l2 hu' (fun j _ h1 => absurd h1 (by simp)) X.prog X.w _ _ ⟨.bl _, H, I, rfl, ?_⟩
  have e : ((List.range (min its.toArray.size ([] : List Value).toArray.size)).all (fun _ => true) && its.toArray.size == ([] : List Value).toArray.size) = xs.isEmpty := by
    cases its with
    | nil => cases r1; rfl
    | cons z zs => cases r1; simp
  rw [e]
  exact q
end
end Oh

set_option maxHeartbeats 4000000
/-! Oh, part 2: what the defs compute, as plain functions -/
namespace Oh
open PySem PySem.Spec PyProof.Rows L2
open Evl (Ex)

/-! ### kinds -/
inductive Kd where
  | tx
  | to (a b : Kd)
  deriving DecidableEq
def Kd.d : Kd → PyData
  | .tx => .tuple [.str "text"]
  | .to a b => .tuple [.str "to", a.d, b.d]
def Kd.ends : Kd → Nat
  | .tx => 1
  | .to a b => a.ends + b.ends
def Kd.dep : Kd → Nat
  | .tx => 1
  | .to a b => max a.dep b.dep + 1
def Kd.args : Kd → List Kd
  | .tx => []
  | .to a b => a :: b.args
def Kd.signs : Kd → Bool → List Bool
  | .tx, s => [s]
  | .to a b, s => a.signs (!s) ++ b.signs s
theorem Kd.ends_pos : ∀ k : Kd, 1 ≤ k.ends
  | .tx => Nat.le_refl _
  | .to a b => Nat.le_trans a.ends_pos (Nat.le_add_right _ _)
theorem Kd.dep_ends : ∀ k : Kd, k.dep ≤ k.ends
  | .tx => Nat.le_refl _
  | .to a b => by
    have h1 := a.dep_ends
    have h2 := b.dep_ends
    have h3 := a.ends_pos
    have h4 := b.ends_pos
    show max a.dep b.dep + 1 ≤ a.ends + b.ends
    omega
theorem Kd.ends_args : ∀ k : Kd, (k.args.map Kd.ends).sum + 1 = k.ends
  | .tx => rfl
  | .to a b => by
    have h := b.ends_args
    show (a.ends + (b.args.map Kd.ends).sum) + 1 = a.ends + b.ends
    omega
theorem Kd.args_dep : ∀ (k a : Kd), a ∈ k.args → a.dep + 1 ≤ k.dep
  | .to a b, c, h => by
    rcases List.mem_cons.mp h with e | h
    · subst e
      show c.dep + 1 ≤ max c.dep b.dep + 1
      omega
    · have := b.args_dep c h
      show c.dep + 1 ≤ max a.dep b.dep + 1
      omega
theorem Kd.args_len : ∀ k : Kd, k.args.length + 1 ≤ k.ends
  | .tx => Nat.le_refl _
  | .to a b => by
    have h1 := b.args_len
    have h2 := a.ends_pos
    show b.args.length + 1 + 1 ≤ a.ends + b.ends
    omega
theorem Kd.signs_len : ∀ (k : Kd) (s : Bool), (k.signs s).length = k.ends
  | .tx, _ => rfl
  | .to a b, s => by
    show (a.signs (!s) ++ b.signs s).length = a.ends + b.ends
    rw [List.length_append, a.signs_len, b.signs_len]

/-- the parts of the ends: the def add_parts -/
def addGo : Kd → Int → List Int → List (Int × List Int) → Int × List (Int × List Int)
  | .tx, here, res, d => (here, putA d here res)
  | .to a b, here, res, d => addGo b (here + a.ends) (res ++ [(addGo a here [] d).1]) (addGo a here [] d).2
abbrev PartsD := List (Int × List Int)
def intsD (l : List Int) : PyData := .tuple (l.map .int)
def partsOf (k : Kd) : PartsD := (addGo k 0 [] []).2

/-! ### terms -/
inductive Tm where
  | nm (x : Str)
  | fn (x : Str) (A : Kd) (e : Tm)
  | cl (e f : Tm)
  | pt (b : Str) (e : Tm)
  | en
  deriving DecidableEq
def Tm.d : Tm → PyData
  | .nm x => .tuple [.str "name", .str x]
  | .fn x A e => .tuple [.str "fun", .str x, A.d, e.d]
  | .cl e f => .tuple [.str "call", e.d, f.d]
  | .pt b e => .tuple [.str "put", .str b, e.d]
  | .en => .tuple [.str "end"]
def Tm.size : Tm → Nat
  | .nm _ => 1
  | .fn _ _ e => e.size + 1
  | .cl e f => e.size + f.size + 1
  | .pt _ e => e.size + 1
  | .en => 1
def Tm.dep : Tm → Nat
  | .nm _ => 1
  | .fn _ _ e => e.dep + 1
  | .cl e f => max e.dep f.dep + 1
  | .pt _ e => e.dep + 1
  | .en => 1
def isLower (c : Nat) : Bool := decide (97 ≤ c ∧ c ≤ 122)
def letters : Str := "abcdefghijklmnopqrstuvwxyz"
def isText (x : Str) : Bool := x.cps.toList.all fun c => decide (c ∈ letters.cps.toList)
def isLetter (x : Str) : Bool := isText x && decide (x.length = 1)
def kept : List Str := ["call", "end", "fun", "name", "put", "text", "to"]
def isName (x : Str) : Bool := isText x && decide (1 ≤ x.length ∧ x.length ≤ 8) && !(decide (x ∈ kept))
/-- each node is built as is_node asks -/
def Tm.ok : Tm → Bool
  | .nm x => isName x
  | .fn x A e => isName x && decide (A.ends ≤ 60) && e.ok
  | .cl e f => e.ok && f.ok
  | .pt b e => isLetter b && e.ok
  | .en => true
def nodupB : List Str → Bool
  | [] => true
  | x :: r => !(decide (x ∈ r)) && nodupB r
def Tm.uses : Tm → Option (List Str)
  | .nm x => some [x]
  | .fn x _ e => match e.uses with
    | none => none
    | some l => if nodupB (l.filter fun y => decide (y ≠ x)) then some (l.filter fun y => decide (y ≠ x)) else none
  | .cl e f => match e.uses, f.uses with
    | some l, some m => if nodupB (l ++ m) then some (l ++ m) else none
    | _, _ => none
  | .pt _ e => match e.uses with
    | none => none
    | some l => if nodupB l then some l else none
  | .en => some []
abbrev KEnv := List (Str × Kd)
def Tm.kind : Tm → KEnv → Option Kd
  | .nm x, n => lookA n x
  | .en, _ => some .tx
  | .pt _ e, n => if e.kind n = some .tx then some .tx else none
  | .fn x A e, n => match e.kind (putA n x A) with
    | none => none
    | some k => if A.ends + k.ends ≤ 60 then some (.to A k) else none
  | .cl e f, n => match e.kind n with
    | some (.to A B) => if f.kind n = some A then some B else none
    | _ => none
/-- a closed term of a kind, as has_kind asks -/
def Tm.has (t : Tm) (k : Kd) : Bool := t.ok && decide (t.size ≤ 400) && decide (t.dep ≤ 60) && t.uses.isSome && decide (t.kind [] = some k)

/-! ### links -/
abbrev Port := Str × Int
abbrev Lnk := Str × Option Port
abbrev Links := List (Port × Lnk)
def portK (p : Port) : List Key := [.inr p.1, .inl p.2]
def portD (p : Port) : PyData := .tuple [.str p.1, .int p.2]
def goalD : Option Port → PyData
  | none => .none
  | some p => portD p
def lnkD (l : Lnk) : PyData := .tuple [.str l.1, goalD l.2]
theorem portK_inj (a b : Port) (h : portK a = portK b) : a = b := by
  obtain ⟨x, i⟩ := a
  obtain ⟨y, j⟩ := b
  unfold portK at h
  injection h with h1 h2
  injection h2 with h2 _
  cases h1
  cases h2
  rfl
def namedGo (name : Str) : Nat → List Bool → Links → Links
  | _, [], L => L
  | e, b :: r, L => namedGo name (e + 1) r (putA L (if b = true then ("", (e : Int)) else (name, (e : Int))) ("", some (if b = true then (name, (e : Int)) else ("", (e : Int)))))
def namedLinks (name : Str) (k : Kd) : Links := namedGo name 0 (k.signs true) []
abbrev Moves := List (Str × Port)
def movedPort (m : Moves) (p : Port) : Port := match lookA m p.1 with
  | none => p
  | some (n, far) => (n, p.2 + far)
def movedLinks (m : Moves) (L : Links) : Links := L.foldl (fun acc q => putA acc (movedPort m q.1) (q.2.1, q.2.2.map (movedPort m))) []
def isInner (p : Port) (half first room : Int) : Bool := decide (p.1 = "") && (decide (half = 1) || (decide (first ≤ p.2) && decide (p.2 < first + room)))
def outerP (p : Port) (half first room : Int) : Port := if p.1 = "" ∧ half = 0 ∧ first + room ≤ p.2 then ("", p.2 - room) else p
/-- the walk between two halves: n turns at most; none where it goes on -/
def walkPorts (one other : Links) : Nat → Bool → Port → Int → Int → List Str → Option (Option (List Str × Option Port))
  | 0, _, _, _, _, _ => none
  | n + 1, h, p, first, room, ws => match lookA (if h = true then other else one) p with
    | none => some none
    | some (w, none) => some (some (ws ++ [w], none))
    | some (w, some q) =>
      if isInner q (if h = true then 1 else 0) first room = false then some (some (ws ++ [w], some (outerP q (if h = true then 1 else 0) first room)))
      else walkPorts one other n (!h) ("", q.2 + (if h = true then first else -first)) first room (ws ++ [w])
def joinStr (ws : List Str) : Str := ⟨(ws.flatMap fun w => w.cps.toList).toArray⟩
def joinStep (one other : Links) (h : Bool) (first room : Int) (acc : Option Links) (q : Port × Lnk) : Option Links :=
  match acc with
  | none => none
  | some L => if isInner q.1 (if h = true then 1 else 0) first room = true then some L else
    match walkPorts one other 20 h q.1 first room [] with
    | none => none
    | some none => some L
    | some (some (ws, g)) => if (joinStr ws).length ≤ 1000 then some (putA L (outerP q.1 (if h = true then 1 else 0) first room) (joinStr ws, g)) else none
def joinedLinks (one other : Links) (first room : Int) : Option Links :=
  other.foldl (joinStep one other true first room) (one.foldl (joinStep one other false first room) (some []))
def chk (k : Kd) (L : Links) : Option (Kd × Links) := if k.ends ≤ 60 ∧ k.dep ≤ 10 ∧ L.length ≤ 200 ∧ (L.map (·.1)).Nodup then some (k, L) else none
def Tm.links : Tm → KEnv → Option (Kd × Links)
  | .nm x, n => match lookA n x with
    | none => none
    | some k => chk k (namedLinks x k)
  | .en, _ => some (.tx, [(("", 0), ("", none))])
  | .pt b e, n => match e.links n with
    | none => none
    | some (k, L) => match lookA L ("", 0) with
      | none => none
      | some (w, g) => if (b ++ w).length ≤ 1000 then chk k (putA L ("", 0) (b ++ w, g)) else none
  | .fn x A e, n => if A.ends ≤ 60 ∧ A.dep ≤ 10 ∧ x ≠ "" then
      match e.links (putA n x A) with
      | none => none
      | some (k, L) => chk (.to A k) (movedLinks [(("" : Str), (("", (A.ends : Int)) : Port)), (x, ("", 0))] L)
    else none
  | .cl e f, n => match e.links n, f.links n with
    | some (.to A B, L), some (_, M) => match joinedLinks L M 0 A.ends with
      | none => none
      | some J => chk B J
    | _, _ => none

/-! ### tables -/
abbrev Row := Int × Str × Option Int
abbrev Tab := List Row
def goalI : Option Int → PyData
  | none => .none
  | some i => .int i
def rowD (r : Row) : PyData := .tuple [.int r.1, .str r.2.1, goalI r.2.2]
def tabD (t : Tab) : PyData := .tuple (t.map rowD)
/-- the stack's last is taken first -/
def pruneGo (parts : PartsD) (L : Links) : Nat → List Int → Tab → Option Tab
  | 0, _, _ => none
  | n + 1, left, found => if left.length > 100 then none else match left.getLast? with
    | none => some found
    | some e => match lookA L ("", e) with
      | none => none
      | some (w, g) => match g with
        | none => pruneGo parts L n left.dropLast (found ++ [(e, w, none)])
        | some p => match lookA parts p.2 with
          | none => none
          | some more => pruneGo parts L n (left.dropLast ++ more) (found ++ [(e, w, some p.2)])
def pruned (k : Kd) (L : Links) : Option Tab := match pruneGo (partsOf k) L 20 [(k.ends : Int) - 1] [] with
  | none => none
  | some t => if nodupI (t.map (·.1)) = true then some t else none
where nodupI : List Int → Bool
  | [] => true
  | x :: r => !(decide (x ∈ r)) && nodupI r
def Tm.table (t : Tm) : Option Tab := match t.links [] with
  | none => none
  | some (k, L) => pruned k L

/-! ### programs -/
structure Prog where
  k : Kd
  init : Tm
  steps : List (Str × Tm)
  last : Tm
def stepD (p : Str × Tm) : PyData := .tuple [.str p.1, p.2.d]
def Prog.d (p : Prog) : PyData := .tuple [.str "program", p.k.d, p.init.d, .tuple (p.steps.map stepD), p.last.d]
def ascB : List Str → Bool
  | [] => true
  | [_] => true
  | a :: b :: r => decide (a.cps.toList < b.cps.toList) && ascB (b :: r)
def Prog.ok (p : Prog) : Bool := decide (2 * p.k.ends ≤ 60) && decide (1 ≤ p.steps.length ∧ p.steps.length ≤ 4) && (p.steps.all fun q => isLetter q.1) && ascB (p.steps.map (·.1)) &&
  p.init.has p.k && p.last.has (.to p.k .tx) && p.steps.all fun q => q.2.has (.to p.k p.k)
structure Head where
  k : Kd
  init : Tab
  steps : List (Str × Tab)
  last : Tab
def headStepD (p : Str × Tab) : PyData := .tuple [.str p.1, tabD p.2]
def Head.d (h : Head) : PyData := .tuple [.str "head", h.k.d, tabD h.init, .tuple (h.steps.map headStepD), tabD h.last]

/-- the tables as dicts -/
abbrev Way := List (Int × (Str × Option Int))
def wayD (l : Str × Option Int) : PyData := .tuple [.str l.1, goalI l.2]
def wayOf (t : Tab) : Way := t.foldl (fun acc r => putA acc r.1 r.2) []

example : (Tm.fn "f" (.to .tx .tx) (.fn "x" .tx (.cl (.nm "f") (.pt "a" (.nm "x"))))).has (.to (.to .tx .tx) (.to .tx .tx)) = true := by decide +kernel
example : (Tm.fn "f" (.to .tx .tx) (.fn "x" .tx (.cl (.nm "f") (.pt "a" (.nm "x"))))).table = some ([(3, "", some 1), (0, "a", some 2)] : Tab) := by decide +kernel
example : (Tm.fn "f" (.to .tx .tx) (.fn "x" .tx (.pt "a" (.cl (.nm "f") (.pt "a" (.nm "x")))))).table = some ([(3, "a", some 1), (0, "a", some 2)] : Tab) := by decide +kernel
example : (Tm.fn "f" (.to .tx .tx) (.cl (.nm "f") .en)).table = some ([(2, "", some 1), (0, "", none)] : Tab) := by decide +kernel
example : (Tm.fn "x" .tx (.nm "x")).table = some ([(1, "", some 0)] : Tab) := by decide +kernel
example : Tm.en.table = some ([(0, "", none)] : Tab) := by decide +kernel
example : (Tm.fn "x" .tx (.pt "x" (.pt "y" (.nm "x")))).table = some ([(1, "xy", some 0)] : Tab) := by decide +kernel
example : (Tm.fn "x" .tx .en).table = some ([(1, "", none)] : Tab) := by decide +kernel
end Oh

set_option maxHeartbeats 4000000
/-! Oh, part 3: the text by places; defs that are known -/
namespace Oh
open PySem PySem.Spec PyProof.Rows L2
open Evl (Ex)
def top (i : Nat) : Stmt := PySem.Challenge.pw_oneuseheads_k13_whole_known_programs.main.body.getD i (.Pass ⟨0, 0, 0, 0⟩)
/-- a def of the text as the top has left it -/
structure Src (K : PySem.W.Frag) (mg : Str → Option Value) (x : Str) (st : Stmt) (ps : List Str) : Prop where
  ex : ∃ f fd, Fun K x x st f fd ∧ mg x = some (.ref f) ∧ Binds K fd ps []
/-- a def whose promise is known, at a level -/
structure Kn (P : Program) (w : World) (K : PySem.W.Frag) (mg : Str → Option Value) (base : Heap) (x : Str) (k : Nat) (ps : List Str) (sp : Sp) : Prop where
  ex : ∃ f fd, FnOk P w K mg base CX0 k f fd ps sp ∧ PySem.W.keepIn K (.ref f) = true ∧ mg x = some (.ref f) ∧ Binds K fd ps []
section
variable {P : Program} {w : World} {K : PySem.W.Frag} {mg : Str → Option Value} {base : Heap} {x : Str} {st : Stmt} {ps N : List Str} {k : Nat} {sp : Sp}
theorem Src.kn (S : Src K mg x st ps) (Sc : FnScope N ps (defScope st)) (len : ∀ vs H Q E, sp vs H Q E → vs.length = ps.length)
    (hbody : ∀ (f : Addr) (cdv : Value) (A : Around) (outer : List Env) (s : Shared) (H : Hp) (vs : List V) (Q : VK) (E : XK), Room k (A.deeper (envOfC x (defScope st) s.heap.objs.size f cdv)) → sp vs H Q E →
      ∃ t, PSs (cxOf CX0 P w K mg base N x (defScope st) f cdv A outer s H E).nox (defBody st) t ∧ t { nx := fun _ H' => Q .non H', rt := Q } (start N vs) H) : Kn P w K mg base x (k + 1) ps sp := by
  obtain ⟨f, fd, F, m, b⟩ := S.ex
  exact ⟨f, fd, F.ok Sc len (hbody f), F.kp, m, b⟩
theorem Kn.mono {j : Nat} (G : Kn P w K mg base x k ps sp) (h : k ≤ j) : Kn P w K mg base x j ps sp := by
  obtain ⟨f, fd, F, r⟩ := G.ex
  exact ⟨f, fd, F.mono h, r⟩
theorem Kn.imp {sp' : Sp} (G : Kn P w K mg base x k ps sp) (h : ∀ vs H Q E, sp' vs H Q E → sp vs H Q E) : Kn P w K mg base x k ps sp' := by
  obtain ⟨f, fd, F, r⟩ := G.ex
  exact ⟨f, fd, F.imp h, r⟩
end
section
variable {X : Cx} {x : Str} {p pos : Pos} {e : Expr} {es : List Expr} {t : TA} {ps : List Str} {k : Nat} {sp : Sp}
theorem pe_kn (G : Kn X.prog X.w X.K X.mg X.base x k ps sp) (hr : Room k X.A) (ha : PA X (e :: es) t) (hg : Gl X x := by rfl) (hdb : (x == ("__debug__" : Str)) = false := by decide)
    (he : starEach (e :: es) X.env = (false, eval e X.env) :: starEach es X.env := by rfl) (hpl : (backTo pos (starEach es X.env)).any (·.1) = false := by rfl) :
    PE X (.Call (.Name x p) (e :: es) [] pos) (tCall sp [] E0 t) := by
  obtain ⟨f, fd, F, kp, m, b⟩ := G.ex
  exact pe_call F hr hg m kp b .nil pass0 ha hdb he hpl
end
/-- the built-ins that the text names: not bound by the module -/
structure Std (mg : Str → Option Value) : Prop where
  len : mg "len" = none
  isinstance : mg "isinstance" = none
  tuple : mg "tuple" = none
  str : mg "str" = none
  sum : mg "sum" = none
  dict : mg "dict" = none
  list : mg "list" = none
  sorted : mg "sorted" = none
  all : mg "all" = none
  set : mg "set" = none
  range : mg "range" = none
  enumerate : mg "enumerate" = none
  min : mg "min" = none
  abs : mg "abs" = none
  int : mg "int" = none
def rLen (K : PySem.W.Frag) : List V → Hp → VK → Prop := fun xs H Q => ∃ x n, xs = [x] ∧ LenV K x H n ∧ Q (.int n) H
/-- an extension of the heap and a value of which R holds -/
abbrev Ret (H : Hp) (R : Hp → V → Prop) (Q : VK) : Prop := ∀ r H', Ex H H' → R H' r → Q r H'
section
variable {X : Cx} {e : Expr} {te : TE} {p pos p2 : Pos}
theorem pe_isTup (S : Std X.mg) (he : PE X e te) (hg : Gl X "isinstance" := by rfl) (hg2 : Gl X "tuple" := by rfl) (hs : starEach [e, .Name "tuple" p2] X.env = (false, eval e X.env) :: starEach [.Name "tuple" p2] X.env := by rfl) :
    PE X (.Call (.Name "isinstance" p) [e, .Name "tuple" p2] [] pos) (tCB (rIsi X.K) (tCons te (tCons (tC (.ty "tuple")) tNil))) :=
  pe_callB call_isi hg S.isinstance PyProof.Rows.boot_isinstance (pa_cons he (pa_cons (pe_bltn hg2 S.tuple PyProof.Rows.boot_tuple rfl) pa_nil) hs) (he := hs)
theorem pe_isStr (S : Std X.mg) (he : PE X e te) (hg : Gl X "isinstance" := by rfl) (hg2 : Gl X "str" := by rfl) (hs : starEach [e, .Name "str" p2] X.env = (false, eval e X.env) :: starEach [.Name "str" p2] X.env := by rfl) :
    PE X (.Call (.Name "isinstance" p) [e, .Name "str" p2] [] pos) (tCB (rIsi X.K) (tCons te (tCons (tC (.ty "str")) tNil))) :=
  pe_callB call_isi hg S.isinstance PyProof.Rows.boot_isinstance (pa_cons he (pa_cons (pe_bltn hg2 S.str PyProof.Rows.boot_str rfl) pa_nil) hs) (he := hs)
theorem pe_len (S : Std X.mg) (he : PE X e te) (hg : Gl X "len" := by rfl) (hs : starEach [e] X.env = (false, eval e X.env) :: starEach [] X.env := by rfl) :
    PE X (.Call (.Name "len" p) [e] [] pos) (tCB (rLen X.K) (tCons te tNil)) :=
  pe_callB call_len hg S.len PySem.boot_len (pa_cons he pa_nil hs) (he := hs)
end
end Oh

set_option maxHeartbeats 4000000
/-! Oh, part 4: kinds -/
namespace Oh
open PySem PySem.Spec PyProof.Rows L2
open Evl (Ex)
section
variable {P : Program} {w : World} {K : PySem.W.Frag} {mg : Str → Option Value} {base : Heap}
/-! ### is_word -/
abbrev sIsWord : Stmt := top 8
theorem scIsWord : FnScope ["value", "word", "size"] ["value", "word", "size"] (defScope sIsWord) := ⟨rfl, rfl, rfl, by decide +kernel, rfl, by decide +kernel, by decide +kernel⟩
def spIsWord (K : PySem.W.Frag) : Sp := fun vs H Q _ => ∃ (x : V) (s w : Str) (ds : List PyData) (n : Int), vs = [x, .str w, .int n] ∧ Im K H x (.tuple (.str s :: ds)) ∧ Q (.bl (decide ((ds.length : Int) + 1 = n) && decide (s = w))) H
theorem kn_is_word (B : Std mg) (S : Src K mg "is_word" sIsWord ["value", "word", "size"]) : Kn P w K mg base "is_word" 1 ["value", "word", "size"] (spIsWord K) := by
  refine S.kn scIsWord (fun vs H Q E h => ?_) (fun f cdv A outer s H vs Q E hr h => ?_)
  · obtain ⟨x, s, w, ds, n, rfl, _⟩ := h
    rfl
  obtain ⟨x, s, w, ds, n, rfl, hx, q⟩ := h
  refine ⟨_, pss_cons (ps_if (PW.pt (pw_or (pt_not (pt_val (pe_isTup B (pv 0)))) (pw_or1 (pt_cmpR op_ne (pe_len B (pv 0)) (pv 2) (nomark _))))) (pss_one (ps_ret pe_bl)) pss_nil)
    (pss_one (ps_ret (pe_and (pe_isStr B (pe_ix ix_tup (pv 0) pe_int (fun _ _ => rfl))) (pe_one (pe_cmpR op_eq (pe_ix ix_tup (pv 0) pe_int (fun _ _ => rfl)) (pv 1) (nomark _)))))), ?_⟩
  obtain ⟨a, xs, rfl, hs, ha⟩ := hx.t
  obtain ⟨v, r, rfl, hv, hr2⟩ := ha.c
  obtain rfl := hv.s
  refine ⟨_, rfl, _, _, _, _, _, rfl, .ty _, SqT.ty hs, kit_tt, _, rfl, iteF ?_⟩
  refine ⟨_, rfl, _, _, rfl, .inr ⟨_, hs, rfl⟩, _, rfl, rfl, _, rfl, ?_⟩
  have hl : ((V.str s :: r).length : Int) = (ds.length : Int) + 1 := by rw [List.length_cons, hr2.len]; rfl
  by_cases e : (ds.length : Int) + 1 = n
  · refine ifNF (by rw [hl, e]) ?_
    have h0 : atI (V.str s :: r) 0 = some (V.str s) := atI_nat (j := 0) rfl
    refine ⟨_, rfl, a, _, _, _, rfl, rfl, hs, h0, _, _, _, _, _, rfl, .ty _, .base (.str _), kit_ss, _, rfl, iteT ?_⟩
    refine ⟨_, rfl, a, _, _, _, rfl, rfl, hs, h0, _, rfl, rfl, ?_⟩
    rw [decide_eq_true e, Bool.true_and] at q
    have e2 : decide (V.str s = V.str w) = decide (s = w) := by
      by_cases z : s = w
      · subst z; simp
      · rw [decide_eq_false z, decide_eq_false (fun y => z (V.str.inj y))]
    rw [e2]
    exact q
  · refine ifNT (by rw [hl]; exact fun z => e (V.int.inj z)) ?_
    rw [decide_eq_false e, Bool.false_and] at q
    exact q
/-! ### is_kind -/
abbrev sIsKind : Stmt := top 9
theorem scIsKind : FnScope ["value", "left", "many", "one"] ["value"] (defScope sIsKind) := ⟨rfl, rfl, rfl, by decide +kernel, rfl, by decide +kernel, by decide +kernel⟩
def spIsKind (K : PySem.W.Frag) : Sp := fun vs H Q _ => ∃ (x : V) (k : Kd), vs = [x] ∧ Im K H x k.d ∧ k.ends ≤ 60 ∧ ∀ H', Ex H H' → Q (.bl true) H'
def endsL (ks : List Kd) : Nat := (ks.map Kd.ends).sum
theorem len_endsL : ∀ ks : List Kd, ks.length ≤ endsL ks
  | [] => Nat.le_refl _
  | k :: ks => by
    have h1 := len_endsL ks
    have h2 := k.ends_pos
    show ks.length + 1 ≤ k.ends + endsL ks
    omega
theorem endsL_app (a b : List Kd) : endsL (a ++ b) = endsL a + endsL b := by unfold endsL; rw [List.map_append, List.sum_append]
theorem eq_of_last {α : Type} {l : List α} (h : l ≠ []) : ∃ r x, l = r ++ [x] := ⟨l.dropLast, l.getLast h, (List.dropLast_concat_getLast h).symm⟩
theorem pop_last {α : Type} (r : List α) (x : α) : (r ++ [x])[(r ++ [x]).length - 1]? = some x := by simp
def spIsKindW (x : V) (k : Kd) (H : Hp) (K : PySem.W.Frag) : Nat → L2.St → Hp → Prop := fun m σ H1 => ∃ (l : Addr) (ks : List Kd) (vs : List V) (n : Nat) (o : Option V),
  m = 2 * endsL ks - ks.length ∧ σ = [some x, some (.ref l), some (.int n), o] ∧ H1 l = some (.lst vs) ∧ ImA K H1 vs (ks.map Kd.d) ∧ n + endsL ks = k.ends ∧ Ex H H1 ∧ H l = none
theorem kn_is_kind (B : Std mg) (m60 : ∃ t, mg "MOST_ENDS" = some (.int 60 t)) (G : Kn P w K mg base "is_word" 1 ["value", "word", "size"] (spIsWord K)) (S : Src K mg "is_kind" sIsKind ["value"]) : Kn P w K mg base "is_kind" 2 ["value"] (spIsKind K) := by
  obtain ⟨t60, m60⟩ := m60
  refine S.kn scIsKind (fun vs H Q E h => ?_) (fun f cdv A outer s H vs Q E hr h => ?_)
  · obtain ⟨x, k, rfl, _⟩ := h
    rfl
  obtain ⟨x, k, rfl, hx, hk, q⟩ := h
  have hu := hu_of hr
  refine ⟨_, pss_cons (ps_par (i := 1) (j := 2) (by rfl) scIsKind.nd rfl rfl (by decide) rfl rfl (pa_cons (pe_lst (pa_cons (pv 0) pa_nil)) (pa_cons pe_int pa_nil)) (by rfl))
    (pss_cons (ps_while PassesOwn.never (pt_cmpR (op_neNil hu) (pv 1) (pe_lst pa_nil) (nomark _))
      (pss_cons (ps_set (i := 3) scIsKind.nd rfl (.inl rfl) (pe_bm0 PySem.F.plainAttrs_list PySem.F.slot_list_pop PySem.F.type_list_pop mt_pop (pv 1)))
      (pss_cons (ps_if (pt_val (pe_kn G hr (pa_cons (pv 3) (pa_cons pe_str (pa_cons pe_int pa_nil)))))
        (pss_one (ps_aug (i := 2) scIsKind.nd rfl (.inl rfl) pe_int ip_add))
        (pss_one (ps_if (pt_val (pe_kn G hr (pa_cons (pv 3) (pa_cons pe_str (pa_cons pe_int pa_nil)))))
          (pss_one (ps_expr (pe_bm PySem.F.plainAttrs_list PySem.F.slot_list_extend PySem.F.type_list_extend mt_extend (pv 1) (pa_cons (pe_lst (pa_cons (pe_ix ix_tup (pv 3) pe_int (fun _ _ => rfl)) (pa_cons (pe_ix ix_tup (pv 3) pe_int (fun _ _ => rfl)) pa_nil))) pa_nil))))
          (pss_one (ps_ret pe_bl)))))
      (pss_one (ps_if (pt_cmpR op_gt (pe_op op_add (pv 2) (pe_len B (pv 1))) (pe_glob (v := .int 60) rfl m60 ⟨_, rfl⟩) (nomark _)) (pss_one (ps_ret pe_bl)) pss_nil)))))
    (pss_one (ps_ret pe_bl))), ?_⟩
  refine ⟨_, rfl, by show 1 ≤ sizeLine; decide, fun l0 hl0 => ⟨_, _, rfl, ?_⟩⟩
  have e0 : Ex H (upd H l0 (.lst [x])) := Ex.new hl0
  refine ⟨spIsKindW x k H K, ⟨_, l0, [k], [x], 0, none, rfl, rfl, upd_same, .cons (hx.ex e0) .nil, ?_, e0, hl0⟩, ?_⟩
  · show 0 + (k.ends + 0) = k.ends
    omega
  rintro m σ H1 ⟨l, ks, vs, n, o, rfl, rfl, hl, hi, hn, e1, hf⟩
  refine ⟨_, rfl, by show 0 ≤ sizeLine; decide, fun p hp => ?_⟩
  have e2 : Ex H1 (upd H1 p (.lst [])) := Ex.new hp
  have hl2 : (upd H1 p (.lst [])) l = some (.lst vs) := e2 _ _ hl
  refine ⟨l, p, vs, rfl, rfl, hl2, upd_same, _, rfl, ?_⟩
  by_cases ez : ks = []
  · subst ez
    obtain rfl := hi.e
    exact iteF (q _ (e1.trans e2))
  obtain ⟨ks', k1, rfl⟩ := eq_of_last ez
  rw [List.map_append] at hi
  obtain ⟨v1, r, rfl, hr1, hv1⟩ := (hi.ex e2).last
  refine ifB (by simp) ⟨_, fun _ _ z => z, ?_⟩
  have hlen : (r ++ [v1]).dropLast = r := List.dropLast_concat
  have hks := endsL_app ks' [k1]
  have hk1 : endsL [k1] = k1.ends := by show k1.ends + 0 = _; omega
  have hkp := k1.ends_pos
  have hlk := len_endsL ks'
  have hll : (ks' ++ [k1]).length = ks'.length + 1 := by simp
  have hrl : r.length = ks'.length := by rw [hr1.len, List.length_map]
  refine ⟨_, rfl, .inl ⟨rfl, _, SqL.of hl2⟩, l, _, _, rfl, rfl, hl2, pop_last r v1, ?_⟩
  rw [hlen]
  have t3 : Tk K (upd H1 p (.lst [])) (upd (upd H1 p (.lst [])) l (.lst r)) := Tk.upd (nt_lst hl2)
  have e3 : Ex H (upd (upd H1 p (.lst [])) l (.lst r)) := (e1.trans e2).mut hf
  have hr3 := hr1.up t3
  have hv3 := hv1.up t3
  generalize hH : upd (upd H1 p (.lst [])) l (.lst r) = H3 at t3 e3 hr3 hv3 ⊢
  have hl3 : H3 l = some (.lst r) := by rw [← hH]; exact upd_same
  cases k1 with
  | tx =>
    refine ⟨_, rfl, _, _, _, _, _, rfl, hv3, _, rfl, iteT ?_⟩
    refine ⟨_, rfl, _, _, rfl, rfl, ?_⟩
    refine ⟨_, rfl, _, rfl, _, _, rfl, .inl ⟨_, SqL.of hl3, rfl⟩, _, _, rfl, rfl, _, _, rfl, rfl, _, rfl, ifF ?_ ?_⟩
    · have : Kd.tx.ends = 1 := rfl
      show ¬ (60 : Int) < ((n : Int) + 1) + (r.length : Int)
      omega
    · refine ⟨_, ?_, l, ks', r, n + 1, some v1, rfl, rfl, hl3, hr3, ?_, e3, hf⟩
      · have : Kd.tx.ends = 1 := rfl
        omega
      · have : Kd.tx.ends = 1 := rfl
        omega
  | to a b =>
    refine ⟨_, rfl, _, _, _, _, _, rfl, hv3, _, rfl, iteF ?_⟩
    refine ⟨_, rfl, _, _, _, _, _, rfl, hv3, _, rfl, iteT ?_⟩
    obtain ⟨pk, w0, va, vb, rfl, hs, _, ha, hb⟩ := hv3.t3
    refine ⟨_, rfl, .inl ⟨rfl, _, SqL.of hl3⟩, _, rfl, pk, _, 2, _, rfl, rfl, hs, atI_nat (j := 2) rfl, _, rfl, pk, _, 1, _, rfl, rfl, hs, atI_nat (j := 1) rfl, by show 2 ≤ sizeLine; decide, fun g hg => ?_⟩
    have e4 : Ex H3 (upd H3 g (.lst [vb, va])) := Ex.new hg
    have hl4 := e4 _ _ hl3
    refine ⟨l, g, _, _, rfl, rfl, hl4, upd_same, sl (by show r.length + 2 ≤ 1000; omega), ?_⟩
    have t5 : Tk K (upd H3 g (.lst [vb, va])) (upd (upd H3 g (.lst [vb, va])) l (.lst (r ++ [vb, va]))) := Tk.upd (nt_lst hl4)
    have e5 : Ex H (upd (upd H3 g (.lst [vb, va])) l (.lst (r ++ [vb, va]))) := (e3.trans e4).mut hf
    have hnew : ImA K (upd (upd H3 g (.lst [vb, va])) l (.lst (r ++ [vb, va]))) (r ++ [vb, va]) ((ks' ++ [b, a]).map Kd.d) := by
      rw [List.map_append]
      exact ((hr3.ex e4).up t5).app (.cons ((hb.ex e4).up t5) (.cons ((ha.ex e4).up t5) .nil))
    have hk2 : endsL [b, a] = a.ends + b.ends := by show b.ends + (a.ends + 0) = _; omega
    have hkk := endsL_app ks' [b, a]
    have hto : (Kd.to a b).ends = a.ends + b.ends := rfl
    have hpa := a.ends_pos
    have hpb := b.ends_pos
    have hl5 : (upd (upd H3 g (.lst [vb, va])) l (.lst (r ++ [vb, va]))) l = some (.lst (r ++ [vb, va])) := upd_same
    refine ⟨_, rfl, _, rfl, _, _, rfl, .inl ⟨_, SqL.of hl5, rfl⟩, _, _, rfl, rfl, _, _, rfl, rfl, _, rfl, ifF ?_ ?_⟩
    · have : (r ++ [vb, va]).length = r.length + 2 := by simp
      omega
    · refine ⟨_, ?_, l, ks' ++ [b, a], _, n, some (.ref pk), rfl, rfl, hl5, hnew, ?_, e5, hf⟩
      · have : (ks' ++ [b, a]).length = ks'.length + 2 := by simp
        omega
      · omega
/-! ### arguments_of -/
abbrev sArgs : Stmt := top 10
theorem scArgs : FnScope ["kind", "found"] ["kind"] (defScope sArgs) := ⟨rfl, rfl, rfl, by decide +kernel, rfl, by decide +kernel, by decide +kernel⟩
def spArgs (K : PySem.W.Frag) : Sp := fun vs H Q _ => ∃ (x : V) (k : Kd), vs = [x] ∧ Im K H x k.d ∧ k.ends ≤ 100 ∧ ∀ p xs H', Ex H H' → H' p = some (.tup xs) → ImA K H' xs (k.args.map Kd.d) → Q (.ref p) H'
def spArgsW (k : Kd) (H : Hp) (K : PySem.W.Frag) : Nat → L2.St → Hp → Prop := fun m σ H1 => ∃ (l : Addr) (k' : Kd) (vk : V) (done : List Kd) (vs : List V),
  m = k'.ends ∧ σ = [some vk, some (.ref l)] ∧ H1 l = some (.lst vs) ∧ ImA K H1 vs (done.map Kd.d) ∧ Im K H1 vk k'.d ∧ done ++ k'.args = k.args ∧ Ex H H1 ∧ H l = none
theorem kn_args (B : Std mg) (S : Src K mg "arguments_of" sArgs ["kind"]) : Kn P w K mg base "arguments_of" 1 ["kind"] (spArgs K) := by
  refine S.kn scArgs (fun vs H Q E h => ?_) (fun f cdv A outer s H vs Q E hr h => ?_)
  · obtain ⟨x, k, rfl, _⟩ := h
    rfl
  obtain ⟨x, k, rfl, hx, hk, q⟩ := h
  refine ⟨_, pss_cons (ps_set (i := 1) scArgs.nd rfl (.inl rfl) (pe_lst pa_nil))
    (pss_cons (ps_while PassesOwn.never (pt_cmpR op_eq (pe_ix ix_tup (pv 0) pe_int (fun _ _ => rfl)) pe_str (nomark _))
      (pss_cons (ps_expr (pe_bm PySem.F.plainAttrs_list PySem.F.slot_list_append PySem.F.type_list_append mt_append (pv 1) (pa_cons (pe_ix ix_tup (pv 0) pe_int (fun _ _ => rfl)) pa_nil)))
      (pss_one (ps_set (i := 0) scArgs.nd rfl (.inl rfl) (pe_ix ix_tup (pv 0) pe_int (fun _ _ => rfl))))))
    (pss_one (ps_ret (pe_callTy call_tuple_of rfl B.tuple PyProof.Rows.boot_tuple (pa_cons (pv 1) pa_nil))))), ?_⟩
  refine ⟨by show 0 ≤ sizeLine; decide, fun l0 hl0 => ?_⟩
  have e0 : Ex H (upd H l0 (.lst [])) := Ex.new hl0
  refine ⟨spArgsW k H K, ⟨_, l0, k, x, [], [], rfl, rfl, upd_same, .nil, hx.ex e0, rfl, e0, hl0⟩, ?_⟩
  rintro m σ H1 ⟨l, k', vk, done, vs, rfl, rfl, hl, hi, hv, hd, e1, hf⟩
  cases k' with
  | tx =>
    obtain ⟨pk, w0, rfl, hs, h0⟩ := hv.t1
    obtain rfl := h0.s
    refine ⟨_, rfl, pk, _, 0, _, rfl, rfl, hs, atI_nat (j := 0) rfl, rfl, _, rfl, ifF (by decide) ?_⟩
    have hd' : done = k.args := by
      rw [← hd]
      exact (List.append_nil done).symm
    refine ⟨_, rfl, l, vs, rfl, .inl ⟨SqL.of hl, fun p hp => ?_⟩⟩
    have e2 : Ex H1 (upd H1 p (.tup vs)) := Ex.new hp
    exact q p vs _ (e1.trans e2) upd_same (by rw [← hd']; exact hi.ex e2)
  | to a b =>
    obtain ⟨pk, w0, va, vb, rfl, hs, h0, ha, hb⟩ := hv.t3
    obtain rfl := h0.s
    refine ⟨_, rfl, pk, _, 0, _, rfl, rfl, hs, atI_nat (j := 0) rfl, rfl, _, rfl, ifT rfl ⟨_, fun _ _ z => z, ?_⟩⟩
    have hpa := a.ends_pos
    have hln : vs.length ≤ k.args.length := by
      rw [hi.len, List.length_map, ← hd, List.length_append]
      omega
    have hka := k.args_len
    refine ⟨_, rfl, .inl ⟨rfl, _, SqL.of hl⟩, _, rfl, pk, _, 1, _, rfl, rfl, hs, atI_nat (j := 1) rfl, l, _, _, rfl, rfl, hl, small1000 (by omega), ?_⟩
    have t2 : Tk K H1 (upd H1 l (.lst (vs ++ [va]))) := Tk.upd (nt_lst hl)
    refine ⟨_, rfl, pk, _, 2, _, rfl, rfl, t2 _ _ hs, atI_nat (j := 2) rfl, b.ends, ?_, l, b, vb, done ++ [a], vs ++ [va], rfl, rfl, upd_same, ?_, hb.up t2, ?_, e1.mut hf, hf⟩
    · show b.ends < a.ends + b.ends
      omega
    · rw [List.map_append]
      exact (hi.up t2).snoc (ha.up t2)
    · rw [← hd, List.append_assoc]
      rfl
/-! ### many_ends -/
abbrev sMany : Stmt := top 11
theorem scMany : FnScope ["kind", "one"] ["kind"] (defScope sMany) := ⟨rfl, rfl, rfl, by decide +kernel, rfl, by decide +kernel, by decide +kernel⟩
def spMany (K : PySem.W.Frag) (n : Nat) : Sp := fun vs H Q _ => ∃ (x : V) (k : Kd), vs = [x] ∧ Im K H x k.d ∧ k.ends ≤ 100 ∧ k.dep ≤ n ∧ ∀ H', Ex H H' → Q (.int k.ends) H'
theorem yes_if {σ : L2.St} {H : Hp} {A B : Hp → Prop} (h : A H) : tYes σ H (fun b H3 => if b = true then A H3 else B H3) := by
  show (if true = true then A H else B H)
  exact iteT h
/-- nothing can be asked -/
theorem Src.kn0 {x : Str} {st : Stmt} {ps : List Str} {sp : Sp} {k : Nat} (S : Src K mg x st ps) (no : ∀ vs H Q E, ¬ sp vs H Q E) : Kn P w K mg base x k ps sp := by
  obtain ⟨f, fd, F, m, b⟩ := S.ex
  exact ⟨f, fd, ⟨fun vs H Q E h => absurd h (no vs H Q E), fun A outer s H args us vs Q E _ _ _ _ h => absurd h (no vs H Q E)⟩, F.kp, m, b⟩
theorem le_sum : ∀ {l : List Nat} {a : Nat}, a ∈ l → a ≤ l.sum
  | b :: r, a, h => by
    rw [List.sum_cons]
    rcases List.mem_cons.mp h with e | h
    · omega
    · have := le_sum h
      omega
theorem sum_cast (l : List Nat) : (l.map fun n : Nat => (n : Int)).sum = ((l.sum : Nat) : Int) := by
  induction l with
  | nil => rfl
  | cons a r ih => rw [List.map_cons, List.sum_cons, List.sum_cons, ih]; omega
theorem kn_many (B : Std mg) (GA : Kn P w K mg base "arguments_of" 1 ["kind"] (spArgs K)) (S : Src K mg "many_ends" sMany ["kind"]) : ∀ n : Nat, Kn P w K mg base "many_ends" (n + 1) ["kind"] (spMany K n)
  | 0 => S.kn0 fun vs H Q E h => by
    obtain ⟨x, k, _, _, _, hd, _⟩ := h
    cases k <;> simp [Kd.dep] at hd
  | n + 1 => by
    have G := kn_many B GA S n
    refine S.kn scMany (fun vs H Q E h => ?_) (fun f cdv A outer s H vs Q E hr h => ?_)
    · obtain ⟨x, k, rfl, _⟩ := h
      rfl
    obtain ⟨x, k, rfl, hx, hk, hdep, q⟩ := h
    refine ⟨_, pss_one (ps_ret (pe_op op_add pe_int (pe_callB (cr_sum (by rfl)) rfl B.sum (by decide +kernel) (pa_cons
      (pe_lc (own := [("one", 1)]) (g := gName 1) (tt := tYes) (by rfl) scMany.nd (pi_tup (pe_kn GA (hr.mono (by omega)) (pa_cons (pv 0) pa_nil))) (blkOk_by (N := ["kind", "one"]) (sc := defScope sMany) (by decide +kernel))
        (fun _ _ _ _ _ => pg_name (i := 1) scMany.nd rfl (.inl rfl)) (fun _ _ _ _ _ => pts_nil) (fun _ _ _ _ _ => pe_kn G hr (pa_cons (pv 1) pa_nil))) pa_nil)))), ?_⟩
    refine ⟨_, rfl, x, k, rfl, hx, hk, fun p xs H1 e1 hp hi => ⟨p, rfl, ⟨xs, SqT.of hp⟩, fun D hD => ?_⟩⟩
    refine lc_tup (K := K) (a := p) (xs := xs) (fun i H' => Ex H1 H' ∧ H' D = some (.lst (((k.args.take i).map Kd.ends).map fun m : Nat => V.int (m : Nat)))) ⟨Ex.new hD, upd_same⟩ (fun i H' _ z => SqT.of (z.1 _ _ hp)) ?_ ?_
    · rintro i v H' hv ⟨e2, hD2⟩
      obtain ⟨d, hd, hvd⟩ := (hi.ex e2).get hv
      rw [List.getElem?_map] at hd
      cases ea : k.args[i]? with
      | none => rw [ea] at hd; cases hd
      | some a =>
        rw [ea] at hd
        obtain rfl := Option.some.inj hd
        have hmem : a ∈ k.args := List.mem_of_getElem? ea
        have hda := k.args_dep a hmem
        have hlt : i < k.args.length := (List.getElem?_eq_some_iff.mp ea).1
        have hal := k.args_len
        have hsum := k.ends_args
        have hae : a.ends ≤ (k.args.map Kd.ends).sum := le_sum (List.mem_map.mpr ⟨a, hmem, rfl⟩)
        refine ⟨rfl, yes_if ⟨_, rfl, v, a, rfl, hvd, by omega, by omega, fun H2 e3 => ⟨_, e3 _ _ hD2, small1000 (by simp; omega), ?_, ?_⟩⟩⟩
        · exact (e2.trans e3).mut hD
        · rw [upd_same, List.take_add_one, ea]
          simp
    · rintro H' ⟨e2, hD2⟩
      have hlen : xs.length = k.args.length := by rw [hi.len, List.length_map]
      rw [hlen, List.take_length] at hD2
      refine ⟨D, (k.args.map Kd.ends).map fun m : Nat => (m : Int), rfl, SqL.of (by rw [hD2, List.map_map, List.map_map, List.map_map]; rfl), 1, _, rfl, rfl, ?_⟩
      have e3 : (1 : Int) + ((k.args.map Kd.ends).map fun m : Nat => (m : Int)).sum = (k.ends : Int) := by
        have hsum := k.ends_args
        rw [sum_cast]
        omega
      show Q (.int (1 + ((k.args.map Kd.ends).map fun m : Nat => (m : Int)).sum)) H'
      rw [e3]
      exact q H' (e1.trans e2)
end
end Oh

set_option maxHeartbeats 4000000
/-! Oh, part 5: signs and parts -/
namespace Oh
open PySem PySem.Spec PyProof.Rows L2
open Evl (Ex)
section
variable {P : Program} {w : World} {K : PySem.W.Frag} {mg : Str → Option Value} {base : Heap}
/-! ### signs_of -/
structure SrcD (K : PySem.W.Frag) (mg : Str → Option Value) (x : Str) (st : Stmt) (ps : List Str) (dvs : List V) : Prop where
  ex : ∃ f fd, FunD K x x (defArgs st) (defBody st) (defScope st) dvs [] f fd ∧ mg x = some (.ref f) ∧ Binds K fd ps [] ∧ ∃ ds, Vals dvs ds ∧ Binds K fd ps ds
structure KnD (P : Program) (w : World) (K : PySem.W.Frag) (mg : Str → Option Value) (base : Heap) (x : Str) (k : Nat) (ps : List Str) (sp : Sp) (dvs : List V) : Prop where
  ex : ∃ f fd, FnOk P w K mg base CX0 k f fd ps sp ∧ PySem.W.keepIn K (.ref f) = true ∧ mg x = some (.ref f) ∧ Binds K fd ps [] ∧ ∃ ds, Vals dvs ds ∧ Binds K fd ps ds
theorem KnD.kn {x : Str} {k : Nat} {ps : List Str} {sp : Sp} {dvs : List V} (G : KnD P w K mg base x k ps sp dvs) : Kn P w K mg base x k ps sp := by
  obtain ⟨f, fd, F, kp, m, b, _⟩ := G.ex
  exact ⟨f, fd, F, kp, m, b⟩
theorem pe_knD {X : Cx} {x : Str} {p pos : Pos} {e : Expr} {es : List Expr} {t : TA} {ps : List Str} {k : Nat} {sp : Sp} {dvs : List V} (G : KnD X.prog X.w X.K X.mg X.base x k ps sp dvs) (hr : Room k X.A) (ha : PA X (e :: es) t) (hg : Gl X x := by rfl) (hdb : (x == ("__debug__" : Str)) = false := by decide)
    (he : starEach (e :: es) X.env = (false, eval e X.env) :: starEach es X.env := by rfl) (hpl : (backTo pos (starEach es X.env)).any (·.1) = false := by rfl) :
    PE X (.Call (.Name x p) (e :: es) [] pos) (tCall sp dvs E0 t) := by
  obtain ⟨f, fd, F, kp, m, _, ds, hv, b⟩ := G.ex
  exact pe_call F hr hg m kp b hv pass0 ha hdb he hpl
theorem SrcD.knd {x : Str} {st : Stmt} {ps N : List Str} {dvs : List V} {k : Nat} {sp : Sp} (S : SrcD K mg x st ps dvs) (Sc : FnScope N ps (defScope st)) (len : ∀ vs H Q E, sp vs H Q E → vs.length = ps.length)
    (hbody : ∀ (f : Addr) (cdv : Value) (A : Around) (outer : List Env) (s : Shared) (H : Hp) (vs : List V) (Q : VK) (E : XK), Room k (A.deeper (envOfC x (defScope st) s.heap.objs.size f cdv)) → sp vs H Q E →
      ∃ t, PSs (cxOf CX0 P w K mg base N x (defScope st) f cdv A outer s H E).nox (defBody st) t ∧ t { nx := fun _ H' => Q .non H', rt := Q } (start N vs) H) : KnD P w K mg base x (k + 1) ps sp dvs := by
  obtain ⟨f, fd, F, m, b⟩ := S.ex
  refine ⟨f, fd, F.ok Sc len fun cdv A outer s H vs Q E hr h => ?_, F.kp, m, b⟩
  obtain ⟨t, h1, h2⟩ := hbody f cdv A outer s H vs Q E hr h
  exact ⟨t, h1.nox, h2⟩
abbrev sSigns : Stmt := top 13
theorem scSigns : FnScope ["kind", "is_asked"] ["kind", "is_asked"] (defScope sSigns) := ⟨rfl, rfl, rfl, by decide +kernel, rfl, by decide +kernel, by decide +kernel⟩
def spSigns (K : PySem.W.Frag) (n : Nat) : Sp := fun vs H Q _ => ∃ (x : V) (k : Kd) (s : Bool), vs = [x, .bl s] ∧ Im K H x k.d ∧ k.ends ≤ 100 ∧ k.dep ≤ n ∧ ∀ p H', Ex H H' → H p = none → H' p = some (.lst ((k.signs s).map V.bl)) → Q (.ref p) H'
theorem knd_signs (S : SrcD K mg "signs_of" sSigns ["kind", "is_asked"] [.bl true]) : ∀ n : Nat, KnD P w K mg base "signs_of" (n + 1) ["kind", "is_asked"] (spSigns K n) [.bl true]
  | 0 => by
    obtain ⟨f, fd, F, m, b⟩ := S.ex
    have no : ∀ vs H Q E, ¬ spSigns K 0 vs H Q E := fun vs H Q E h => by
      obtain ⟨x, k, _, _, _, _, hd, _⟩ := h
      cases k <;> simp [Kd.dep] at hd
    exact ⟨f, fd, ⟨fun vs H Q E h => absurd h (no vs H Q E), fun A outer s H args us vs Q E _ _ _ _ h => absurd h (no vs H Q E)⟩, F.kp, m, b⟩
  | n + 1 => by
    have G : Kn P w K mg base "signs_of" (n + 1) ["kind", "is_asked"] (spSigns K n) := (knd_signs S n).kn
    refine S.knd scSigns (fun vs H Q E h => ?_) (fun f cdv A outer s H vs Q E hr h => ?_)
    · obtain ⟨x, k, b, rfl, _⟩ := h
      rfl
    obtain ⟨x, k, b, rfl, hx, hk, hdep, q⟩ := h
    refine ⟨_, pss_cons (ps_if (pt_cmpR op_eq (pe_ix ix_tup (pv 0) pe_int (fun _ _ => rfl)) pe_str (nomark _)) (pss_one (ps_ret (pe_lst (pa_cons (pv 1) pa_nil)))) pss_nil)
      (pss_one (ps_ret (pe_op op_cat (pe_kn G hr (pa_cons (pe_ix ix_tup (pv 0) pe_int (fun _ _ => rfl)) (pa_cons (pe_not (pv 1)) pa_nil))) (pe_kn G hr (pa_cons (pe_ix ix_tup (pv 0) pe_int (fun _ _ => rfl)) (pa_cons (pv 1) pa_nil)))))), ?_⟩
    cases k with
    | tx =>
      obtain ⟨pk, w0, rfl, hs, h0⟩ := hx.t1
      obtain rfl := h0.s
      refine ⟨_, rfl, pk, _, 0, _, rfl, rfl, hs, atI_nat (j := 0) rfl, rfl, _, rfl, ifT rfl ?_⟩
      exact ⟨_, rfl, by show 1 ≤ sizeLine; decide, fun p hp => q p _ (Ex.new hp) hp upd_same⟩
    | to a b' =>
      obtain ⟨pk, w0, va, vb, rfl, hs, h0, ha, hb⟩ := hx.t3
      obtain rfl := h0.s
      have h1 : a.ends + b'.ends ≤ 100 := hk
      have h2 : max a.dep b'.dep + 1 ≤ n + 1 := hdep
      have h3 := a.ends_pos
      have h4 := b'.ends_pos
      refine ⟨_, rfl, pk, _, 0, _, rfl, rfl, hs, atI_nat (j := 0) rfl, rfl, _, rfl, ifF (by decide) ?_⟩
      refine ⟨_, rfl, pk, _, 1, _, rfl, rfl, hs, atI_nat (j := 1) rfl, _, rfl, b, rfl, va, a, !b, rfl, ha, by omega, by omega, fun p1 H1 e1 f1 g1 => ?_⟩
      refine ⟨_, rfl, pk, _, 2, _, rfl, rfl, tk e1 _ _ hs, atI_nat (j := 2) rfl, _, rfl, vb, b', b, rfl, hb.ex e1, by omega, by omega, fun p2 H2 e2 f2 g2 => ?_⟩
      refine ⟨p1, p2, _, _, rfl, rfl, e2 _ _ g1, g2, sl ?_, fun p3 f3 => ?_⟩
      · rw [List.length_map, List.length_map, Kd.signs_len, Kd.signs_len]
        omega
      · refine q p3 _ ((e1.trans e2).trans (Ex.new f3)) (Evl.fresh_back (e1.trans e2) f3) ?_
        rw [upd_same, ← List.map_append]
        rfl
/-! ### add_parts -/
theorem addGo_len : ∀ (k : Kd) (i : Int) (r : List Int) (D : PartsD), (addGo k i r D).2.length ≤ D.length + k.ends
  | .tx, i, r, D => len_put
  | .to a b, i, r, D => by
    have h1 := addGo_len a i [] D
    have h2 := addGo_len b (i + a.ends) (r ++ [(addGo a i [] D).1]) (addGo a i [] D).2
    show (addGo b (i + a.ends) (r ++ [(addGo a i [] D).1]) (addGo a i [] D).2).2.length ≤ D.length + (a.ends + b.ends)
    omega
theorem addGo_nodup : ∀ (k : Kd) (i : Int) (r : List Int) (D : PartsD), (D.map (·.1)).Nodup → ((addGo k i r D).2.map (·.1)).Nodup
  | .tx, i, r, D, h => nodup_put h
  | .to a b, i, r, D, h => addGo_nodup b _ _ _ (addGo_nodup a i [] D h)
/-- all but the object at d stays -/
def ExB (d : Addr) (H H' : Hp) : Prop := ∀ b o, H b = some o → b ≠ d → H' b = some o
theorem ExB.refl {d : Addr} {H : Hp} : ExB d H H := fun _ _ h _ => h
theorem ExB.trans {d : Addr} {H H1 H2 : Hp} (a : ExB d H H1) (b : ExB d H1 H2) : ExB d H H2 := fun x o h n => b x o (a x o h n) n
theorem ExB.of {d : Addr} {H H1 : Hp} (a : Ex H H1) : ExB d H H1 := fun x o h _ => a x o h
theorem ExB.mut {d p : Addr} {H H1 : Hp} {o : HO} (a : ExB d H H1) (h : H p = none) : ExB d H (upd H1 p o) := fun x u e n => by
  rw [upd_ne (ne_of_none e h)]
  exact a x u e n
theorem ExB.self {d : Addr} {H H1 : Hp} {o : HO} (a : ExB d H H1) : ExB d H (upd H1 d o) := fun x u e n => by
  rw [upd_ne n]
  exact a x u e n
theorem ExB.tk {d : Addr} {H H1 : Hp} (a : ExB d H H1) (h : NT (H d)) : Tk K H H1 := fun x xs q => by
  rcases q with (q | ⟨u, q⟩) | q
  · exact .inl (.inl (a x _ q (fun z => by subst z; rw [q] at h; exact h)))
  · exact .inl (.inr ⟨u, a x _ q (fun z => by subst z; rw [q] at h; exact h)⟩)
  · exact .inr q
theorem ExB.ex {d : Addr} {H H1 : Hp} (a : ExB d H H1) (h : H d = none) : Ex H H1 := fun x o e => a x o e (ne_of_none e h)
abbrev sAdd : Stmt := top 14
theorem scAdd : FnScope ["kind", "first", "found", "here", "results", "one"] ["kind", "first", "found"] (defScope sAdd) := ⟨rfl, rfl, rfl, by decide +kernel, rfl, by decide +kernel, by decide +kernel⟩
abbrev PRel (K : PySem.W.Frag) (H : Hp) (kvs : List (Key × V)) (D : PartsD) : Prop := DRel K H (Sum.inl : Int → Key) intsD kvs D
def spAdd (K : PySem.W.Frag) (n : Nat) : Sp := fun vs H Q _ => ∃ (x : V) (k : Kd) (i : Int) (d : Addr) (kvs : List (Key × V)) (D : PartsD), vs = [x, .int i, .ref d] ∧ Im K H x k.d ∧ k.ends ≤ 100 ∧ k.dep ≤ n ∧ H d = some (.dK kvs) ∧ PRel K H kvs D ∧ (D.map (·.1)).Nodup ∧ D.length + k.ends ≤ 1000 ∧
  ∀ kvs' H', ExB d H H' → H' d = some (.dK kvs') → PRel K H' kvs' (addGo k i [] D).2 → Q (.int (addGo k i [] D).1) H'
theorem im_ints {H : Hp} : ∀ l : List Int, ImA K H (l.map V.int) (l.map PyData.int)
  | [] => .nil
  | i :: r => .cons (.int i) (im_ints r)
def addPv (x : V) (k : Kd) (i0 : Int) (d l p : Addr) (xs : List V) (D : PartsD) (H : Hp) (K : PySem.W.Frag) : Nat → L2.St → Hp → Prop := fun i σ H1 => ∃ (k' : Kd) (here : Int) (res : List Int) (D1 : PartsD) (kvs : List (Key × V)) (o : Option V),
  σ = [some x, some (.int i0), some (.ref d), some (.int here), some (.ref l), o] ∧ k'.args = k.args.drop i ∧ addGo k i0 [] D = addGo k' here res D1 ∧ H1 l = some (.lst (res.map V.int)) ∧ H1 d = some (.dK kvs) ∧ PRel K H1 kvs D1 ∧ (D1.map (·.1)).Nodup ∧
  D1.length + k'.ends ≤ D.length + k.ends ∧ res.length + k'.args.length = k.args.length ∧ ExB d H H1 ∧ H1 p = some (.tup xs) ∧ ImA K H1 xs (k.args.map Kd.d)
theorem kn_add (B : Std mg) (GA : Kn P w K mg base "arguments_of" 1 ["kind"] (spArgs K)) (GM : ∀ n, Kn P w K mg base "many_ends" (n + 1) ["kind"] (spMany K n)) (S : Src K mg "add_parts" sAdd ["kind", "first", "found"]) : ∀ n : Nat, Kn P w K mg base "add_parts" (n + 2) ["kind", "first", "found"] (spAdd K n)
  | 0 => S.kn0 fun vs H Q E h => by
    obtain ⟨x, k, _, _, _, _, _, _, _, hd, _⟩ := h
    cases k <;> simp [Kd.dep] at hd
  | n + 1 => by
    have G := kn_add B GA GM S n
    refine S.kn scAdd (fun vs H Q E h => ?_) (fun f cdv A outer s H vs Q E hr h => ?_)
    · obtain ⟨x, k, i, d, kvs, D, rfl, _⟩ := h
      rfl
    obtain ⟨x, k, i0, d, kvs, D, rfl, hx, hk, hdep, hd, hD, hnd, hlen, q⟩ := h
    have hu := hu_of hr
    refine ⟨_, pss_cons (ps_par (i := 3) (j := 4) (by rfl) scAdd.nd rfl rfl (by decide) rfl rfl (pa_cons (pv 1) (pa_cons (pe_lst pa_nil) pa_nil)) (by rfl))
      (pss_cons (ps_for PassesOwn.never rfl (pi_tup (pe_kn GA (hr.mono (by omega)) (pa_cons (pv 0) pa_nil))) (pg_name (i := 5) scAdd.nd rfl (.inl rfl))
        (pss_cons (ps_expr (pe_bm PySem.F.plainAttrs_list PySem.F.slot_list_append PySem.F.type_list_append mt_append (pv 4) (pa_cons (pe_kn G hr (pa_cons (pv 5) (pa_cons (pv 3) (pa_cons (pv 2) pa_nil)))) pa_nil)))
        (pss_one (ps_aug (i := 3) scAdd.nd rfl (.inl rfl) (pe_kn (GM n) (hr.mono (by omega)) (pa_cons (pv 5) pa_nil)) ip_add))))
      (pss_cons (ps_dput hu (pv 2) (pv 3) (pe_callTy call_tuple_of rfl B.tuple PyProof.Rows.boot_tuple (pa_cons (pv 4) pa_nil)) rfl)
      (pss_one (ps_ret (pv 3))))), ?_⟩
    refine ⟨_, rfl, by show 0 ≤ sizeLine; decide, fun l hl => ⟨_, _, rfl, ?_⟩⟩
    have e0 : Ex H (upd H l (.lst [])) := Ex.new hl
    refine ⟨_, rfl, x, k, rfl, hx.ex e0, hk, fun p xs H1 e1 hp hi => ⟨p, rfl, ⟨xs, SqT.of hp⟩, ?_⟩⟩
    have ndl : d ≠ l := ne_of_none hd hl
    have npl : ∀ {b : Addr} {o : HO}, H b = some o → b ≠ l := fun h => ne_of_none h hl
    have hkl := k.args_len
    refine for_tup (K := K) (a := p) (xs := xs) (addPv x k i0 d l p xs D H K) ⟨k, i0, [], D, kvs, none, rfl, rfl, rfl, e1 _ _ upd_same, e1 _ _ (e0 _ _ hd), hD.up (tk (e0.trans e1)), hnd, Nat.le_refl _, by simp, .of (e0.trans e1), hp, hi⟩ (fun i σ H' _ z => ?_) ?_ ?_
    · obtain ⟨_, _, _, _, _, _, _, _, _, _, _, _, _, _, _, _, z, _⟩ := z
      exact SqT.of z
    · rintro i v σ H2 hv ⟨k', here, res, D1, kvs1, o, rfl, ha, hgo, hl2, hd2, hD2, hnd2, hlen2, hres, e2, hp2, hi2⟩
      obtain ⟨dd, hdd, hvd⟩ := hi2.get hv
      rw [List.getElem?_map] at hdd
      cases ea : k.args[i]? with
      | none => rw [ea] at hdd; cases hdd
      | some a =>
        rw [ea] at hdd
        obtain rfl := Option.some.inj hdd
        have hlt : i < k.args.length := (List.getElem?_eq_some_iff.mp ea).1
        have hdr : k.args.drop i = a :: k.args.drop (i + 1) := by
          rw [List.drop_eq_getElem_cons hlt]
          rw [List.getElem?_eq_getElem hlt] at ea
          rw [Option.some.inj ea]
        rw [hdr] at ha
        cases k' with
        | tx => cases ha
        | to a' b' =>
          have ha' : a' :: b'.args = a :: k.args.drop (i + 1) := ha
          injection ha' with h1 h2
          subst h1
          have hmem : a' ∈ k.args := List.mem_of_getElem? ea
          have hda := k.args_dep a' hmem
          have hlen3 : D1.length + (a'.ends + b'.ends) ≤ D.length + k.ends := hlen2
          have hpb := b'.ends_pos
          have hae : a'.ends ≤ (k.args.map Kd.ends).sum := le_sum (List.mem_map.mpr ⟨a', hmem, rfl⟩)
          have hsum := k.ends_args
          have hrl : res.length + (b'.args.length + 1) = k.args.length := hres
          have nlp : l ≠ p := fun z => by rw [z, hp2] at hl2; cases hl2
          have npd : p ≠ d := fun z => by rw [z, hd2] at hp2; cases hp2
          refine ⟨_, rfl, .inl ⟨rfl, _, SqL.of hl2⟩, _, rfl, _, rfl, _, rfl, v, a', here, d, kvs1, D1, rfl, hvd, by omega, by omega, hd2, hD2, hnd2, by omega, fun kvs3 H3 e3 hd3 hD3 => ?_⟩
          have hl3 : H3 l = some (.lst (res.map V.int)) := e3 _ _ hl2 ndl.symm
          have hp3 : H3 p = some (.tup xs) := e3 _ _ hp2 npd
          refine ⟨l, _, _, rfl, rfl, hl3, small1000 (by rw [List.length_map]; omega), ?_⟩
          have t4 : Tk K H2 (upd H3 l (.lst (res.map V.int ++ [.int (addGo a' here [] D1).1]))) := (e3.tk (nt_dK hd2)).trans (Tk.upd (nt_lst hl3))
          refine ⟨_, rfl, _, rfl, v, a', rfl, hvd.up t4, by omega, by omega, fun H5 e5 => ⟨_, _, rfl, rfl, ?_⟩⟩
          have hl5 : H5 l = some (.lst (res.map V.int ++ [.int (addGo a' here [] D1).1])) := e5 _ _ upd_same
          refine ⟨b', here + a'.ends, res ++ [(addGo a' here [] D1).1], (addGo a' here [] D1).2, kvs3, some v, rfl, h2, hgo, by rw [hl5, List.map_append]; rfl, ?_, ?_, addGo_nodup _ _ _ _ hnd2, ?_, ?_, ?_, ?_, ?_⟩
          · exact e5 _ _ (by rw [upd_ne ndl]; exact hd3)
          · exact (hD3.up (Tk.upd (nt_lst hl3))).up (tk e5)
          · have := addGo_len a' here [] D1
            omega
          · rw [List.length_append, List.length_singleton]
            omega
          · exact ((e2.trans e3).mut hl).trans (.of e5)
          · exact e5 _ _ (by rw [upd_ne nlp.symm]; exact hp3)
          · exact hi2.up (t4.trans (tk e5))
    · rintro σ H2 ⟨k', here, res, D1, kvs1, o, rfl, ha, hgo, hl2, hd2, hD2, hnd2, hlen2, hres, e2, hp2, hi2⟩
      have hxl : xs.length = k.args.length := by rw [hi.len, List.length_map]
      rw [hxl, List.drop_length] at ha
      cases k' with
      | to a' b' => cases ha
      | tx =>
        refine ⟨_, rfl, l, _, rfl, .inl ⟨SqL.of hl2, fun g hg => ?_⟩⟩
        have e3 : Ex H2 (upd H2 g (.tup (res.map V.int))) := Ex.new hg
        have hd3 := e3 _ _ hd2
        have hgt : Im K (upd H2 g (.tup (res.map V.int))) (.ref g) (intsD res) := .tup (SqT.of upd_same) (im_ints res)
        refine ⟨_, rfl, _, rfl, d, _, rfl, DPut.k (k := Sum.inl here) hd3 (small1000 (by rw [hD2.len]; omega)), _, rfl, ?_⟩
        have hfin : addGo k i0 [] D = (here, putA D1 here res) := hgo
        have t5 : Tk K (upd H2 g (.tup (res.map V.int))) (upd (upd H2 g (.tup (res.map V.int))) d (.dK (putK kvs1 (Sum.inl here) (.ref g)))) := Tk.upd (nt_dK hd3)
        have hq := q (putK kvs1 (Sum.inl here) (.ref g)) _ ((e2.trans (.of e3)).self (o := .dK (putK kvs1 (Sum.inl here) (.ref g)))) upd_same (by
          rw [hfin]
          exact ((hD2.up (tk e3)).up t5).put inl_inj (hgt.up t5) hnd2)
        rw [hfin] at hq
        exact hq
end
end Oh

set_option maxHeartbeats 4000000
/-! Oh, part 6: the parts of a kind's ends; dicts made of pairs -/
namespace Oh
open PySem PySem.Spec PyProof.Rows L2
open Evl (Ex)
/-! ### dict(pairs) -/
abbrev PairsAt (K : PySem.W.Frag) (H : Hp) (ps : List Addr) (kvs : List (Key × V)) : Prop := Paired (fun (p : Addr) (kv : Key × V) => SqT K H p [kV kv.1, kv.2]) ps kvs
theorem PairsAt.up {K : PySem.W.Frag} {H H' : Hp} {ps : List Addr} {kvs : List (Key × V)} (h : PairsAt K H ps kvs) (t : Tk K H H') : PairsAt K H' ps kvs := L2.Paired.mapP h fun _ _ q => t _ _ q
theorem paired_snoc {α β : Type} {R : α → β → Prop} : ∀ {l : List α} {m : List β} {a : α} {b : β}, Paired R l m → R a b → Paired R (l ++ [a]) (m ++ [b])
  | _, _, _, _, .nil, r => .cons r .nil
  | _, _, _, _, .cons h t, r => .cons h (paired_snoc t r)
theorem valV_none {κ : Type} [DecidableEq κ] {kvs : List (κ × V)} {k : κ} (h : k ∉ kvs.map (·.1)) : valV kvs k = none := by
  induction kvs with
  | nil => rfl
  | cons p r ih =>
    rw [List.map_cons, List.mem_cons, not_or] at h
    rw [valV_neg (fun z => h.1 z.symm)]
    exact ih h.2
theorem merge_app : ∀ (more acc : List (Key × V)), ((acc ++ more).map (·.1)).Nodup → mergeK acc more = acc ++ more
  | [], acc, _ => (List.append_nil acc).symm
  | p :: r, acc, h => by
    have hn : p.1 ∉ acc.map (·.1) := fun z => by
      rw [List.map_append, List.map_cons] at h
      exact (List.nodup_append.mp h).2.2 _ z _ List.mem_cons_self rfl
    show mergeK (putK acc p.1 p.2) r = acc ++ p :: r
    rw [putK_new p.2 (valV_none hn), merge_app r (acc ++ [(p.1, p.2)]) (by rw [List.append_assoc]; exact h), List.append_assoc]
    rfl
theorem merge_nil {kvs : List (Key × V)} (h : (kvs.map (·.1)).Nodup) : mergeK [] kvs = kvs := merge_app kvs [] h
theorem drel_snoc {α β κ : Type} {K : PySem.W.Frag} {H : Hp} {f : α → κ} {g : β → PyData} : ∀ {kvs : List (κ × V)} {L : List (α × β)} {a : α} {b : β} {v : V}, DRel K H f g kvs L → Im K H v (g b) → DRel K H f g (kvs ++ [(f a, v)]) (L ++ [(a, b)])
  | _, _, _, _, _, .nil, h => .cons h .nil
  | _, _, _, _, _, .cons h1 h2, h => .cons h1 (drel_snoc h2 h)
theorem lookA_some {α β : Type} [DecidableEq α] {L : List (α × β)} {a : α} {b : β} (h : lookA L a = some b) : (a, b) ∈ L := by
  induction L with
  | nil => cases h
  | cons p r ih =>
    unfold lookA at h
    by_cases q : p.1 = a
    · rw [if_pos q] at h
      cases h
      rw [← q]
      exact List.mem_cons_self
    · rw [if_neg q] at h
      exact List.mem_cons_of_mem _ (ih h)
theorem lookA_of {α β : Type} [DecidableEq α] {L : List (α × β)} {a : α} {b : β} (nd : (L.map (·.1)).Nodup) (h : (a, b) ∈ L) : lookA L a = some b := by
  induction L with
  | nil => cases h
  | cons p r ih =>
    rw [List.map_cons, List.nodup_cons] at nd
    unfold lookA
    rcases List.mem_cons.mp h with e | h
    · rw [← e, if_pos rfl]
    · rw [if_neg (fun z => nd.1 (List.mem_map.mpr ⟨_, h, z.symm⟩))]
      exact ih nd.2 h
theorem lookA_none {α β : Type} [DecidableEq α] {L : List (α × β)} {a : α} (h : a ∉ L.map (·.1)) : lookA L a = none := by
  cases e : lookA L a with
  | none => rfl
  | some b => exact absurd (List.mem_map.mpr ⟨_, lookA_some e, rfl⟩) h
theorem lookA_in {α β : Type} [DecidableEq α] {L : List (α × β)} {a : α} (h : a ∈ L.map (·.1)) : ∃ b, lookA L a = some b := by
  induction L with
  | nil => cases h
  | cons p r ih =>
    unfold lookA
    by_cases q : p.1 = a
    · exact ⟨p.2, by rw [if_pos q]⟩
    · rw [if_neg q]
      rw [List.map_cons] at h
      exact ih ((List.mem_cons.mp h).resolve_left fun z => q z.symm)
theorem lookA_perm {α β : Type} [DecidableEq α] {L M : List (α × β)} (h : L.Perm M) (nd : (M.map (·.1)).Nodup) (a : α) : lookA L a = lookA M a := by
  have ndL : (L.map (·.1)).Nodup := (h.map (·.1)).nodup_iff.mpr nd
  cases e : lookA M a with
  | some b => exact lookA_of ndL (h.mem_iff.mpr (lookA_some e))
  | none =>
    cases e2 : lookA L a with
    | none => rfl
    | some b =>
      rw [lookA_of nd (h.mem_iff.mp (lookA_some e2))] at e
      cases e
/-- the pairs of the keys ys, out of D -/
def pick {α β : Type} [DecidableEq α] (D : List (α × β)) (ys : List α) : List (α × β) := ys.filterMap fun y => (lookA D y).map fun b => (y, b)
theorem pick_perm {α β : Type} [DecidableEq α] {D : List (α × β)} (nd : (D.map (·.1)).Nodup) {ys : List α} (h : ys.Perm (D.map (·.1))) : (pick D ys).Perm D := by
  have h1 : (pick D ys).Perm (pick D (D.map (·.1))) := h.filterMap _
  have h2 : ∀ E : List (α × β), (∀ p ∈ E, lookA D p.1 = some p.2) → pick D (E.map (·.1)) = E := by
    intro E hE
    induction E with
    | nil => rfl
    | cons p r ih =>
      unfold pick at ih ⊢
      rw [List.map_cons, List.filterMap_cons, hE p List.mem_cons_self]
      show (p.1, p.2) :: _ = p :: r
      rw [ih fun q hq => hE q (List.mem_cons_of_mem _ hq)]
  rw [h2 D fun p hp => lookA_of nd hp] at h1
  exact h1
section
variable {P : Program} {w : World} {K : PySem.W.Frag} {mg : Str → Option Value} {base : Heap}
/-! ### parts_of_ends -/
abbrev sParts : Stmt := top 15
theorem scParts : FnScope ["kind", "found", "end"] ["kind"] (defScope sParts) := ⟨rfl, rfl, rfl, by decide +kernel, rfl, by decide +kernel, by decide +kernel⟩
def spParts (K : PySem.W.Frag) (n : Nat) : Sp := fun vs H Q _ => ∃ (x : V) (k : Kd), vs = [x] ∧ Im K H x k.d ∧ k.ends ≤ 60 ∧ k.dep ≤ n ∧ ∀ p kvs D H', Ex H H' → H' p = some (.dK kvs) → PRel K H' kvs D → (∀ e, lookA D e = lookA (partsOf k) e) → Q (.ref p) H'
theorem kn_parts (B : Std mg) (n : Nat) (GA : Kn P w K mg base "add_parts" (n + 2) ["kind", "first", "found"] (spAdd K n)) (S : Src K mg "parts_of_ends" sParts ["kind"]) : Kn P w K mg base "parts_of_ends" (n + 3) ["kind"] (spParts K n) := by
  refine S.kn scParts (fun vs H Q E h => ?_) (fun f cdv A outer s H vs Q E hr h => ?_)
  · obtain ⟨x, k, rfl, _⟩ := h
    rfl
  obtain ⟨x, k, rfl, hx, hk, hdep, q⟩ := h
  have hu := hu_of hr
  refine ⟨_, pss_cons (ps_set (i := 1) scParts.nd rfl (.inr rfl) pe_dnewK)
    (pss_cons (ps_expr (pe_kn GA hr (pa_cons (pv 0) (pa_cons pe_int (pa_cons (pv 1) pa_nil)))))
    (pss_one (ps_ret (pe_callTy (call_dictP (by rfl)) rfl B.dict (by decide +kernel) (pa_cons
      (pe_lc (own := [("end", 2)]) (g := gName 2) (tt := tYes) (by rfl) scParts.nd (pi_list (pe_callB (call_sortedDI (by rfl)) rfl B.sorted (by decide +kernel) (pa_cons (pv 1) pa_nil))) (blkOk_by (N := ["kind", "found", "end"]) (sc := defScope sParts) (by decide +kernel))
        (fun _ _ _ _ _ => pg_name (i := 2) scParts.nd rfl (.inl rfl)) (fun _ _ _ _ _ => pts_nil) (fun _ _ _ _ _ => pe_tup (pa_cons (pv 2) (pa_cons (pe_dget hu (pv 1) (pv 2) (fun _ _ => rfl)) pa_nil)))) pa_nil))))), ?_⟩
  intro d hd
  have e0 : Ex H (upd H d (.dK [])) := Ex.new hd
  refine ⟨_, rfl, _, rfl, x, k, 0, d, [], [], rfl, hx.ex e0, by omega, hdep, upd_same, .nil, List.nodup_nil, by simp; omega, fun kvs H1 e1 hd1 hD1 => ?_⟩
  have e1' : Ex H H1 := (ExB.trans (.of e0) e1).ex hd
  have hnd : ((partsOf k).map (·.1)).Nodup := addGo_nodup k 0 [] [] List.nodup_nil
  have hlen : (partsOf k).length ≤ k.ends := by
    have h0 : (addGo k 0 [] []).2.length ≤ ([] : PartsD).length + k.ends := addGo_len k 0 [] []
    rw [List.length_nil, Nat.zero_add] at h0
    exact h0
  have hkeys : kvs.map (·.1) = ((partsOf k).map (·.1)).map Sum.inl := by rw [hD1.keys, List.map_map]; rfl
  refine ⟨_, rfl, d, kvs, _, rfl, .inl hd1, hkeys, by simp; omega, fun ys p hperm hsort hp => ⟨p, rfl, ⟨_, SqL.of upd_same⟩, fun D hD => ?_⟩⟩
  have e2 : Ex H1 (upd H1 p (.lst (ys.map V.int))) := Ex.new hp
  generalize hH2 : upd H1 p (.lst (ys.map V.int)) = H2 at e2 hD
  have hp2 : H2 p = some (.lst (ys.map V.int)) := by rw [← hH2]; exact upd_same
  have hylen : ys.length ≤ 60 := by rw [hperm.length_eq, List.length_map]; omega
  refine lc_list (K := K) (a := p) (xs := ys.map V.int) (fun i H' => Ex H2 H' ∧ ∃ (ps : List Addr) (kv : List (Key × V)), H' D = some (.lst (ps.map V.ref)) ∧ PairsAt K H' ps kv ∧ PRel K H' kv (pick (partsOf k) (ys.take i)) ∧ ps.length ≤ i)
    ⟨Ex.new hD, [], [], upd_same, .nil, .nil, Nat.le_refl _⟩ (fun i H' _ z => SqL.of (z.1 _ _ hp2)) ?_ ?_
  · rintro i v H3 hv ⟨e3, ps, kv, hD3, hps, hrel, hpl⟩
    rw [List.getElem?_map] at hv
    cases ey : ys[i]? with
    | none => rw [ey] at hv; cases hv
    | some y =>
      rw [ey] at hv
      obtain rfl := Option.some.inj hv
      have hlt : i < ys.length := (List.getElem?_eq_some_iff.mp ey).1
      have hy : y ∈ (partsOf k).map (·.1) := hperm.mem_iff.mp (List.mem_of_getElem? ey)
      obtain ⟨l, hl⟩ := lookA_in hy
      have e13 := e2.trans e3
      have hd3 := e13 _ _ hd1
      obtain ⟨u, hu1, hu2⟩ := (hD1.up (tk e13)).get inl_inj hl
      refine ⟨rfl, yes_if ⟨_, rfl, _, rfl, _, rfl, d, u, rfl, by rw [← hu1]; exact DGet.k (k := Sum.inl y) hd3, by show 2 ≤ sizeLine; decide, fun t ht => ?_⟩⟩
      have e4 : Ex H3 (upd H3 t (.tup [.int y, u])) := Ex.new ht
      refine ⟨_, e4 _ _ hD3, small1000 (by rw [List.length_map]; omega), (e3.trans e4).mut hD, ps ++ [t], kv ++ [(Sum.inl y, u)], by rw [upd_same, List.map_append]; rfl, ?_, ?_, by simp; omega⟩
      · have t5 : Tk K (upd H3 t (.tup [.int y, u])) (upd (upd H3 t (.tup [.int y, u])) D (.lst (ps.map V.ref ++ [.ref t]))) := Tk.upd (nt_lst (e4 _ _ hD3))
        exact paired_snoc ((hps.up (tk e4)).up t5) (t5 _ _ (SqT.of upd_same))
      · have t5 : Tk K (upd H3 t (.tup [.int y, u])) (upd (upd H3 t (.tup [.int y, u])) D (.lst (ps.map V.ref ++ [.ref t]))) := Tk.upd (nt_lst (e4 _ _ hD3))
        have hpk : pick (partsOf k) (ys.take (i + 1)) = pick (partsOf k) (ys.take i) ++ [(y, l)] := by
          unfold pick
          rw [List.take_add_one, ey, List.filterMap_append]
          show _ ++ List.filterMap _ [y] = _
          rw [List.filterMap_cons, hl]
          rfl
        rw [hpk]
        exact drel_snoc ((hrel.up (tk e4)).up t5) ((hu2.ex e4).up t5)
  · rintro H3 ⟨e3, ps, kv, hD3, hps, hrel, hpl⟩
    rw [List.length_map, List.take_length] at hrel
    refine ⟨D, ps, kv, rfl, SqL.of hD3, hps, fun g hg => ?_⟩
    have hpp := pick_perm hnd hperm
    have hnk : (kv.map (·.1)).Nodup := by
      rw [hrel.keys]
      exact nodup_f inl_inj ((hpp.map (·.1)).nodup_iff.mpr hnd)
    have e4 : Ex H3 (upd H3 g (.dK (mergeK [] kv))) := Ex.new hg
    exact q g (mergeK [] kv) _ _ (((e1'.trans e2).trans e3).trans e4) upd_same (by rw [merge_nil hnk]; rw [merge_nil hnk] at e4; exact hrel.up (tk e4)) fun e => lookA_perm hpp hnd e
end
end Oh

set_option maxHeartbeats 4000000
/-! Oh, part 7: texts, names, nodes -/
namespace Oh
open PySem PySem.Spec PyProof.Rows L2
open Evl (Ex)
def Tm.word : Tm → Str
  | .nm _ => "name"
  | .fn _ _ _ => "fun"
  | .cl _ _ => "call"
  | .pt _ _ => "put"
  | .en => "end"
def Tm.arity : Tm → Int
  | .nm _ => 2
  | .fn _ _ _ => 4
  | .cl _ _ => 3
  | .pt _ _ => 3
  | .en => 1
/-- what the module's constants are -/
structure Cst (K : PySem.W.Frag) (mg : Str → Option Value) (w : World) : Prop where
  most60 : ∃ t, mg "MOST_ENDS" = some (.int 60 t)
  nodes : ∃ t, mg "MOST_NODES" = some (.int 400 t)
  levels : ∃ t, mg "MOST_LEVELS" = some (.int 60 t)
  steps : ∃ t, mg "MOST_STEPS" = some (.int 4 t)
  own : ∃ t, mg "OWN" = some (.str "" t)
  letters : ∃ t, mg "LETTERS" = some (.str letters t)
  text : ∃ a, mg "TEXT" = some (.ref a) ∧ ∀ H, SqT K H a [.str "text"]
  kept : ∃ a, mg "KEPT" = some (.ref a) ∧ ∀ H, SqT K H a (kept.map V.str)
  sizes : ∃ d es n, mg "SIZES" = some (.ref d) ∧ KDict K w d es n ∧ ∀ t : Tm, ∃ tok, PySem.W.nsIn K d t.word = some (some (.int t.arity tok))
section
variable {P : Program} {w : World} {K : PySem.W.Frag} {mg : Str → Option Value} {base : Heap}
/-! ### is_text -/
abbrev sIsText : Stmt := top 22
theorem scIsText : FnScope ["value", "sign"] ["value"] (defScope sIsText) := ⟨rfl, rfl, rfl, by decide +kernel, rfl, by decide +kernel, by decide +kernel⟩
def spIsText (K : PySem.W.Frag) : Sp := fun vs H Q _ => ∃ z : Str, vs = [.str z] ∧ z.length ≤ 1000 ∧ ∀ H', Ex H H' → Q (.bl (isText z)) H'
theorem kn_is_text (B : Std mg) (C : Cst K mg w) (S : Src K mg "is_text" sIsText ["value"]) : Kn P w K mg base "is_text" 1 ["value"] (spIsText K) := by
  obtain ⟨tl, ml⟩ := C.letters
  refine S.kn scIsText (fun vs H Q E h => ?_) (fun f cdv A outer s H vs Q E hr h => ?_)
  · obtain ⟨z, rfl, _⟩ := h
    rfl
  obtain ⟨z, rfl, hz, q⟩ := h
  refine ⟨_, pss_one (ps_ret (pe_and (pe_isStr B (pv 0)) (pe_one (pe_callB (cr_all (by rfl)) rfl B.all (by decide +kernel) (pa_cons
    (pe_lc (own := [("sign", 1)]) (g := gName 1) (tt := tYes) (by rfl) scIsText.nd (pi_str (pv 0)) (blkOk_by (N := ["value", "sign"]) (sc := defScope sIsText) (by decide +kernel))
      (fun _ _ _ _ _ => pg_name (i := 1) scIsText.nd rfl (.inl rfl)) (fun _ _ _ _ _ => pts_nil) (fun _ _ _ _ _ => pe_cmpR op_in_sign (pv 1) (pe_glob (v := .str letters) rfl ml ⟨_, rfl⟩) (by rfl))) pa_nil))))), ?_⟩
  refine ⟨_, rfl, _, _, _, _, _, rfl, .ty _, .base (.str _), kit_ss, _, rfl, iteT ?_⟩
  refine ⟨_, rfl, z, rfl, fun D hD => ?_⟩
  refine lc_it walk_str (fun i H' => Ex H H' ∧ H' D = some (.lst (((z.cps.toList.take i).map fun c => decide (c ∈ letters.cps.toList)).map V.bl))) ⟨Ex.new hD, upd_same⟩ (fun _ _ _ _ => trivial) ?_ ?_
  · rintro i v H1 H2 hi ⟨e1, hD1⟩ ⟨rfl, c, hc, rfl⟩
    have hz' : z.cps.size ≤ 1000 := hz
    refine ⟨rfl, yes_if ⟨_, rfl, c, letters, rfl, rfl, _, hD1, small1000 (by simp; omega), e1.mut hD, ?_⟩⟩
    have hc' : z.cps.toList[i]? = some c := by rw [Array.getElem?_toList]; exact hc
    rw [upd_same, List.take_add_one, hc']
    simp
  · rintro H1 ⟨e1, hD1⟩
    refine ⟨D, _, rfl, SqL.of hD1, ?_⟩
    have e : ((z.cps.toList.take z.cps.size).map fun c => decide (c ∈ letters.cps.toList)).all id = isText z := by
      rw [← Array.length_toList, List.take_length, List.all_map]
      rfl
    rw [e]
    exact q H1 e1
/-! ### is_letter, is_name: where they hold -/
abbrev sIsLetter : Stmt := top 23
theorem scIsLetter : FnScope ["value"] ["value"] (defScope sIsLetter) := ⟨rfl, rfl, rfl, by decide +kernel, rfl, by decide +kernel, by decide +kernel⟩
def spIsLetter (K : PySem.W.Frag) : Sp := fun vs H Q _ => ∃ z : Str, vs = [.str z] ∧ isLetter z = true ∧ ∀ H', Ex H H' → Q (.bl true) H'
theorem kn_is_letter (B : Std mg) (G : Kn P w K mg base "is_text" 1 ["value"] (spIsText K)) (S : Src K mg "is_letter" sIsLetter ["value"]) : Kn P w K mg base "is_letter" 2 ["value"] (spIsLetter K) := by
  refine S.kn scIsLetter (fun vs H Q E h => ?_) (fun f cdv A outer s H vs Q E hr h => ?_)
  · obtain ⟨z, rfl, _⟩ := h
    rfl
  obtain ⟨z, rfl, hz, q⟩ := h
  unfold isLetter at hz
  rw [Bool.and_eq_true, decide_eq_true_eq] at hz
  refine ⟨_, pss_one (ps_ret (pe_and (pe_kn G hr (pa_cons (pv 0) pa_nil)) (pe_one (pe_cmpR op_eq (pe_len B (pv 0)) pe_int (nomark _))))), ?_⟩
  refine ⟨_, rfl, z, rfl, by omega, fun H1 e1 => ⟨_, rfl, ifB hz.1 ?_⟩⟩
  refine ⟨_, rfl, _, _, rfl, ⟨sl (by omega), rfl⟩, rfl, ?_⟩
  have e : decide (V.int ((z.length : Nat) : Int) = V.int 1) = true := by rw [hz.2]; rfl
  rw [e]
  exact q H1 e1
abbrev sIsName : Stmt := top 24
theorem scIsName : FnScope ["value"] ["value"] (defScope sIsName) := ⟨rfl, rfl, rfl, by decide +kernel, rfl, by decide +kernel, by decide +kernel⟩
def spIsName (K : PySem.W.Frag) : Sp := fun vs H Q _ => ∃ z : Str, vs = [.str z] ∧ isName z = true ∧ ∀ H', Ex H H' → Q (.bl true) H'
theorem inV_strs (z : Str) (l : List Str) : inV (.str z) (l.map V.str) = decide (z ∈ l) := by
  unfold inV
  induction l with
  | nil => simp
  | cons a r ih =>
    rw [List.map_cons, List.any_cons, ih]
    show (a == z || decide (z ∈ r)) = decide (z ∈ a :: r)
    by_cases e : a = z
    · subst e; simp
    · rw [beq_eq_false_iff_ne.mpr e, Bool.false_or]
      exact decide_eq_decide.mpr ⟨fun h => List.mem_cons_of_mem _ h, fun h => (List.mem_cons.mp h).resolve_left fun q => e q.symm⟩
theorem flat_strs (l : List Str) : (l.map V.str).all flatV = true := by
  induction l with
  | nil => rfl
  | cons a r ih => rw [List.map_cons, List.all_cons, ih]; rfl
theorem kn_is_name (B : Std mg) (C : Cst K mg w) (G : Kn P w K mg base "is_text" 1 ["value"] (spIsText K)) (S : Src K mg "is_name" sIsName ["value"]) : Kn P w K mg base "is_name" 2 ["value"] (spIsName K) := by
  obtain ⟨aK, mK, hK⟩ := C.kept
  refine S.kn scIsName (fun vs H Q E h => ?_) (fun f cdv A outer s H vs Q E hr h => ?_)
  · obtain ⟨z, rfl, _⟩ := h
    rfl
  obtain ⟨z, rfl, hz, q⟩ := h
  unfold isName at hz
  rw [Bool.and_eq_true, Bool.and_eq_true, decide_eq_true_eq] at hz
  obtain ⟨⟨h1, h2, h3⟩, h4⟩ := hz
  refine ⟨_, pss_one (ps_ret (pe_and (pe_kn G hr (pa_cons (pv 0) pa_nil)) (pe_and (pe_chain op_le op_le pe_int (pe_len B (pv 0)) pe_int) (pe_one (pe_cmpR op_notIn_seq (pv 0) (pe_glob (v := .ref aK) rfl mK rfl) (by rfl)))))), ?_⟩
  refine ⟨_, rfl, z, rfl, by omega, fun H1 e1 => ⟨_, rfl, ifB h1 ?_⟩⟩
  refine ⟨_, rfl, _, _, rfl, ⟨sl (by omega), rfl⟩, _, _, rfl, rfl, _, rfl, ifT (by show (1 : Int) ≤ z.length; omega) ?_⟩
  refine ⟨_, _, rfl, rfl, _, rfl, ifT (by show (z.length : Int) ≤ 8; omega) ?_⟩
  refine ⟨_, rfl, aK, _, rfl, .inr (hK _), rfl, flat_strs _, ?_⟩
  rw [inV_strs, h4]
  exact q H1 e1
/-! ### parts_of -/
def Tm.parts : Tm → List (List Int × Tm)
  | .nm _ => []
  | .fn _ _ e => [([3], e)]
  | .cl e f => [([1], e), ([2], f)]
  | .pt _ e => [([2], e)]
  | .en => []
def partD (p : List Int × Tm) : PyData := .tuple [.tuple (p.1.map .int), p.2.d]
theorem Tm.node {H : Hp} {x : V} : ∀ {t : Tm}, Im K H x t.d → ∃ a r, x = .ref a ∧ SqT K H a (.str t.word :: r) ∧ ((V.str t.word :: r).length : Int) = t.arity
  | .nm _, h => by
    obtain ⟨a, u, v, rfl, hs, h0, _⟩ := h.t2
    obtain rfl := h0.s
    exact ⟨a, _, rfl, hs, rfl⟩
  | .fn _ _ _, h => by
    obtain ⟨a, u, v, _, _, rfl, hs, h0, _⟩ := h.t4
    obtain rfl := h0.s
    exact ⟨a, _, rfl, hs, rfl⟩
  | .cl _ _, h => by
    obtain ⟨a, u, v, _, rfl, hs, h0, _⟩ := h.t3
    obtain rfl := h0.s
    exact ⟨a, _, rfl, hs, rfl⟩
  | .pt _ _, h => by
    obtain ⟨a, u, v, _, rfl, hs, h0, _⟩ := h.t3
    obtain rfl := h0.s
    exact ⟨a, _, rfl, hs, rfl⟩
  | .en, h => by
    obtain ⟨a, u, rfl, hs, h0⟩ := h.t1
    obtain rfl := h0.s
    exact ⟨a, _, rfl, hs, rfl⟩
abbrev sPartsOf : Stmt := top 25
theorem scPartsOf : FnScope ["node", "word"] ["node"] (defScope sPartsOf) := ⟨rfl, rfl, rfl, by decide +kernel, rfl, by decide +kernel, by decide +kernel⟩
def spPartsOf (K : PySem.W.Frag) : Sp := fun vs H Q _ => ∃ (x : V) (t : Tm), vs = [x] ∧ Im K H x t.d ∧ ∀ p xs H', Ex H H' → H p = none → H' p = some (.lst xs) → ImA K H' xs (t.parts.map partD) → Q (.ref p) H'
theorem part_new {H : Hp} {v : V} {t : Tm} {i : Int} {a b : Addr} (h : Im K H v t.d) (ha : H a = none) (hb : (upd H a (.tup [.int i])) b = none) : Ex H (upd (upd H a (.tup [.int i])) b (.tup [.ref a, v])) ∧ Im K (upd (upd H a (.tup [.int i])) b (.tup [.ref a, v])) (.ref b) (partD ([i], t)) := by
  have e1 : Ex H (upd H a (.tup [.int i])) := Ex.new ha
  have e2 : Ex (upd H a (.tup [.int i])) (upd (upd H a (.tup [.int i])) b (.tup [.ref a, v])) := Ex.new hb
  refine ⟨e1.trans e2, Im.mk2 upd_same ?_ (h.ex (e1.trans e2))⟩
  exact (Im.mk1 (p := a) upd_same (.int i)).ex e2
theorem vne {a b : V} (h : decide (a = b) = false) : ¬ a = b := of_decide_eq_false h
theorem kn_parts_of (S : Src K mg "parts_of" sPartsOf ["node"]) : Kn P w K mg base "parts_of" 1 ["node"] (spPartsOf K) := by
  refine S.kn scPartsOf (fun vs H Q E h => ?_) (fun f cdv A outer s H vs Q E hr h => ?_)
  · obtain ⟨x, t, rfl, _⟩ := h
    rfl
  obtain ⟨x, t, rfl, hx, q⟩ := h
  refine ⟨_, pss_cons (ps_set (i := 1) scPartsOf.nd rfl (.inl rfl) (pe_ix ix_tup (pv 0) pe_int (fun _ _ => rfl)))
    (pss_cons (ps_if (pt_cmpR op_eq (pv 1) pe_str (nomark _)) (pss_one (ps_ret (pe_lst (pa_cons (pe_tup (pa_cons (pe_tup (pa_cons pe_int pa_nil)) (pa_cons (pe_ix ix_tup (pv 0) pe_int (fun _ _ => rfl)) pa_nil))) pa_nil)))) pss_nil)
    (pss_cons (ps_if (pt_cmpR op_eq (pv 1) pe_str (nomark _)) (pss_one (ps_ret (pe_lst (pa_cons (pe_tup (pa_cons (pe_tup (pa_cons pe_int pa_nil)) (pa_cons (pe_ix ix_tup (pv 0) pe_int (fun _ _ => rfl)) pa_nil)))
      (pa_cons (pe_tup (pa_cons (pe_tup (pa_cons pe_int pa_nil)) (pa_cons (pe_ix ix_tup (pv 0) pe_int (fun _ _ => rfl)) pa_nil))) pa_nil))))) pss_nil)
    (pss_one (ps_ret (pe_ifExp (pt_cmpR op_eq (pv 1) pe_str (nomark _)) (pe_lst (pa_cons (pe_tup (pa_cons (pe_tup (pa_cons pe_int pa_nil)) (pa_cons (pe_ix ix_tup (pv 0) pe_int (fun _ _ => rfl)) pa_nil))) pa_nil)) (pe_lst pa_nil)))))), ?_⟩
  have s1 : 1 ≤ sizeLine := by decide
  have s2 : 2 ≤ sizeLine := by decide
  have s0 : 0 ≤ sizeLine := by decide
  obtain ⟨a, r, rfl, hs, _⟩ := Tm.node hx
  refine ⟨_, rfl, a, _, 0, _, rfl, rfl, hs, atI_nat (j := 0) rfl, _, rfl, rfl, _, rfl, ?_⟩
  cases t with
  | fn x A e =>
    obtain ⟨b, u, v1, v2, v3, eb, hs', h0, h1, h2, h3⟩ := hx.t4
    cases eb
    refine ifT rfl ⟨s1, fun p hp => ⟨_, rfl, a, _, 3, _, rfl, rfl, tk (Ex.new hp) _ _ hs', atI_nat (j := 3) rfl, s2, fun g hg => ?_⟩⟩
    obtain ⟨e2, hi⟩ := part_new (i := 3) h3 hp hg
    refine ⟨s1, fun l hl => ?_⟩
    exact q l _ _ (e2.trans (Ex.new hl)) (Evl.fresh_back e2 hl) upd_same (.cons (hi.ex (Ex.new hl)) .nil)
  | cl e f =>
    obtain ⟨b, u, v1, v2, eb, hs', h0, h1, h2⟩ := hx.t3
    cases eb
    refine ifF (vne rfl) ⟨_, rfl, rfl, _, rfl, ifT rfl ⟨s1, fun p hp => ⟨_, rfl, a, _, 1, _, rfl, rfl, tk (Ex.new hp) _ _ hs', atI_nat (j := 1) rfl, s2, fun g hg => ?_⟩⟩⟩
    obtain ⟨e2, hi⟩ := part_new (i := 1) h1 hp hg
    refine ⟨s1, fun p' hp' => ⟨_, rfl, a, _, 2, _, rfl, rfl, tk (e2.trans (Ex.new hp')) _ _ hs', atI_nat (j := 2) rfl, s2, fun g' hg' => ?_⟩⟩
    obtain ⟨e3, hi3⟩ := part_new (i := 2) (h2.ex e2) hp' hg'
    refine ⟨s2, fun l hl => ?_⟩
    exact q l _ _ ((e2.trans e3).trans (Ex.new hl)) (Evl.fresh_back (e2.trans e3) hl) upd_same (.cons ((hi.ex e3).ex (Ex.new hl)) (.cons (hi3.ex (Ex.new hl)) .nil))
  | pt b0 e =>
    obtain ⟨b, u, v1, v2, eb, hs', h0, h1, h2⟩ := hx.t3
    cases eb
    refine ifF (vne rfl) ⟨_, rfl, rfl, _, rfl, ifF (vne rfl) ⟨_, rfl, rfl, _, rfl, ifT rfl ⟨s1, fun p hp => ⟨_, rfl, a, _, 2, _, rfl, rfl, tk (Ex.new hp) _ _ hs', atI_nat (j := 2) rfl, s2, fun g hg => ?_⟩⟩⟩⟩
    obtain ⟨e2, hi⟩ := part_new (i := 2) h2 hp hg
    refine ⟨s1, fun l hl => ?_⟩
    exact q l _ _ (e2.trans (Ex.new hl)) (Evl.fresh_back e2 hl) upd_same (.cons (hi.ex (Ex.new hl)) .nil)
  | nm x =>
    refine ifF (vne rfl) ⟨_, rfl, rfl, _, rfl, ifF (vne rfl) ⟨_, rfl, rfl, _, rfl, ifF (vne rfl) ⟨s0, fun l hl => ?_⟩⟩⟩
    exact q l _ _ (Ex.new hl) hl upd_same .nil
  | en =>
    refine ifF (vne rfl) ⟨_, rfl, rfl, _, rfl, ifF (vne rfl) ⟨_, rfl, rfl, _, rfl, ifF (vne rfl) ⟨s0, fun l hl => ?_⟩⟩⟩
    exact q l _ _ (Ex.new hl) hl upd_same .nil
end
end Oh

set_option maxHeartbeats 4000000
/-! Oh, part 8: len(set(xs)) of a list of texts, none twice (the layer's rule serves one text at most; this is turned from it) -/
namespace Oh
open PySem PySem.Spec PyProof.Rows L2
open Evl (Ex)
section
variable {prog : Program} {w : World} {A : Around}
def anyOf (xs : List Str) (i : Nat) : Str → Bool := fun k' => decide (k' ∈ xs.take i)
theorem anyOf_succ {xs : List Str} {i : Nat} {x : Str} (e : xs[i]? = some x) (k' : Str) : (anyOf xs i k' || decide (k' = x)) = anyOf xs (i + 1) k' := by
  unfold anyOf
  rw [List.take_add_one, e]
  by_cases h : k' ∈ xs.take i
  · simp [h]
  · by_cases h2 : k' = x <;> simp [h, h2]
theorem anyOf_new {xs : List Str} (nd : xs.Nodup) {i : Nat} {x : Str} (e : xs[i]? = some x) : anyOf xs i x = false := by
  unfold anyOf
  refine decide_eq_false fun h => ?_
  obtain ⟨j, hj⟩ := List.mem_iff_getElem?.mp h
  rw [List.getElem?_take] at hj
  by_cases hji : j < i
  · rw [if_pos hji] at hj
    obtain ⟨hjl, ej⟩ := List.getElem?_eq_some_iff.mp hj
    obtain ⟨hil, ei⟩ := List.getElem?_eq_some_iff.mp e
    exact absurd (ej.trans ei.symm) (List.pairwise_iff_getElem.mp nd j i hjl hil hji)
  · rw [if_neg hji] at hj; cases hj
/-- the turns of set.update over an iterator of the texts xs -/
theorem set_turns {R : Result → Shared → Prop} {I S : Addr} {fp wr : List Addr} {G : Array GenState → Array GenState → Prop} {n : Nat} {PV : Nat → Value → Prop} {St : Nat → Shared → Prop} (W : WalksS prog w A.in1 I fp wr G n PV St) (hSf : S ∉ fp) {xs : List Str} (nd : xs.Nodup) (hsz : xs.length = n) (hn : n ≤ 1000)
    (hval : ∀ i v, PV i v → ∃ x t, xs[i]? = some x ∧ v = .str x t) : ∀ (k i : Nat) (s : Shared), i + k = n → St i s → s.heap.SetOf (PySem.strKind prog w) S (anyOf xs i) i →
      (∀ s', Moved (S :: wr) G s s' → s'.heap.SetOf (PySem.strKind prog w) S (anyOf xs n) n → R (.ok (.ret .none)) s') → codeAny (model prog w) A (.builtin "set.update.loop" ⟨[.ref S, .ref I], []⟩) R s
  | 0, i, s, hk, hst, hS, hR => by
    obtain rfl : i = n := by omega
    refine codeAny_builtin F.entry_set_update_loop ?_; rw [Around.under_plainId F.plain_set_update_loop _]
    refine (show wpAny _ A.in1 (pyNext (.ref I) >>= _) _ _ s from wpAny_bind (W.done s _ _ hst fun s' hm => ?_))
    refine (show wpAny _ A.in1 (ret Value.none) _ _ s' from wpAny_pure (hR s' (hm.mono fun b hb => List.mem_cons_of_mem _ hb) ?_))
    obtain ⟨o, es, ep, t, ho, tail⟩ := hS
    exact ⟨o, es, ep, t, hm.heap S _ (fun h => hSf (W.sub _ h)) ho, tail⟩
  | k + 1, i, s, hk, hst, hS, hR => by
    refine codeAny_builtin F.entry_set_update_loop ?_; rw [Around.under_plainId F.plain_set_update_loop _]
    refine (show wpAny _ A.in1 (pyNext (.ref I) >>= _) _ _ s from wpAny_bind (W.item i s _ _ (by omega) hst fun v s' hP hst' hm => ?_))
    obtain ⟨x, t, hx, rfl⟩ := hval i v hP
    have hS' : s'.heap.SetOf (PySem.strKind prog w) S (anyOf xs i) i := by
      obtain ⟨o, es, ep, tb, ho, tail⟩ := hS
      exact ⟨o, es, ep, tb, hm.heap S _ (fun h => hSf (W.sub _ h)) ho, tail⟩
    refine (show wpAny _ A.in1 (holding [Value.str x t] (setAdd S (.str x t)) >>= _) _ _ s' from wpAny_bind (wpAny_holding ?_))
    unfold setAdd; refine wpAny_holding (wpAny_bind ((PySem.strKind prog w).pyHash (k := x) (strKind_is _ _ _ _) ?_))
    refine wpAny_setAddHashed_of (knd := PySem.strKind prog w) (s := { s' with toks := s'.toks + 1 }) (strKind_is _ _ _ _) rfl hS' (by unfold scanBound; omega) fun h2 hsb hS2 => wpAny_pure ⟨plainId_quiet F.plain_set_update_loop _, ?_⟩
    rw [anyOf_new nd hx] at hS2
    have hS3 : h2.SetOf (PySem.strKind prog w) S (anyOf xs (i + 1)) (i + 1) := SetOf_congr hS2 (anyOf_succ hx) rfl
    have hkeep : ∀ b o, b ≠ S → s'.heap.get? b = some o → h2.get? b = some o := fun b o hb e => (hsb.2 b hb).trans e
    refine set_turns W hSf nd hsz hn hval k (i + 1) _ (by omega) (W.frame _ s' _ _ hst' (Nat.le_succ _) fun b hb o e => hkeep b o (fun z => hSf (z ▸ hb)) e) hS3 fun s'' hm2 hS4 => hR s'' ?_ hS4
    exact Moved.trans W.gtrans ((hm.mono fun b hb => List.mem_cons_of_mem S hb).then_heap (Nat.le_succ _) fun b o hb e => hkeep b o (fun z => hb (z ▸ List.mem_cons_self)) e) hm2
end
section
variable {prog : Program} {w : World} {A : Around} {E : Value → Shared → Prop} {s : Shared}
set_option maxHeartbeats 3200000 in
theorem set_of_strs {l : Addr} {items : Array Value} {xs : List Str} {Q : Value → Shared → Prop} (hh : A.handled = none) (hl : s.heap.IsList l items) (hi : ∀ (i : Nat) (v : Value), items[i]? = some v → ∃ x t, xs[i]? = some x ∧ v = Value.str x t) (hlen : xs.length = items.size) (nd : xs.Nodup) (hn : xs.length ≤ 1000)
    (h : ∀ (h' : Heap) (tk : Nat), h'.SetOf (PySem.strKind prog w) s.heap.objs.size (anyOf xs items.size) items.size → (∀ b o, b < s.heap.objs.size → s.heap.get? b = some o → h'.get? b = some o) → Q (.ref s.heap.objs.size) { s with heap := h', toks := tk }) :
    wpAny (model prog w) A (call (.type "set") [.ref l]) Q E s := by
  obtain ⟨c, tl, hmro⟩ := PySem.F.called_set.mro; have hmade := PySem.F.called_set.made; have hsub := PySem.F.called_set.sub
  refine wpAny_call (codeAny_of_tree (show wpAny _ _ (callAny (.type "set") _) _ _ _ from wpAny_pure ⟨Code.quiet_builtin _ (by decide +kernel), codeAny_builtin PySem.F.entry_type_call ?_⟩))
  rw [Around.under_plain (weight_type_call_type "set" [.ref l] []) rfl]
  have h1 := PySem.F.called_set.notType; have h2 := PySem.F.called_set.canCreate; have hct := PySem.F.typeCall_set_1 (.ref l)
  repeat (any_goals (first | assumption | wp_step))
  refine codeAny_mono (code_set_new_1 (.ref l) (E := E) (Q₁ := fun obj t1 => ∃ led : Bool, obj = .ref s.heap.objs.size ∧ t1 = { s with heap := s.heap.push { cls := .type "set", dict := none, data := .set #[] 0 (.fresh 0 0 led) } }) fun led => ⟨led, rfl, rfl⟩) fun r t1 hr => ?_
  cases r with
  | error e => exact hr
  | ok fl =>
    cases fl with
    | ret obj =>
      obtain ⟨led, rfl, rfl⟩ := hr
      have hS : (s.heap.push { cls := .type "set", dict := none, data := .set #[] 0 (.fresh 0 0 led) }).get? s.heap.objs.size = some { cls := .type "set", dict := none, data := .set #[] 0 (.fresh 0 0 led) } := Heap.get?_push_size _ (by rfl)
      have hT : Shared.TypeIs { s with heap := s.heap.push { cls := .type "set", dict := none, data := .set #[] 0 (.fresh 0 0 led) } } (.ref s.heap.objs.size) "set" := ⟨_, hS, by rfl⟩
      have hli := PySem.F.called_set.init.lookup; have hbi := PySem.F.called_set.init.bind (.ref s.heap.objs.size)
      repeat (any_goals (first | assumption | wp_step))
      refine codeAny_mono (codeAny_call_builtin (R := wants (fun r t2 => r = .none ∧ ∃ h' tk, t2 = { s with heap := h', toks := tk } ∧ h'.SetOf (PySem.strKind prog w) s.heap.objs.size (anyOf xs items.size) items.size ∧ (∀ b o, b < s.heap.objs.size → s.heap.get? b = some o → h'.get? b = some o)) E) PySem.F.called_set.init.plain PySem.F.entry_set_init (check_set_init_1 hT ?_)) fun r2 t2 hr2 => ?_
      · obtain ⟨ol, hol, hcl, nl, hdl⟩ := hl; obtain ⟨ocls, odict, odata, oslots⟩ := ol; simp only at hcl hdl; subst hcl; subst hdl
        have hl1 : (s.heap.push { cls := .type "set", dict := none, data := .set #[] 0 (.fresh 0 0 led) }).IsList l items := ⟨_, Heap.get?_push_of_some _ hol, by rfl, nl, by rfl⟩
        have hol' : (s.heap.push { cls := .type "set", dict := none, data := .set #[] 0 (.fresh 0 0 led) }).get? l = some { cls := .type "list", dict := odict, data := .seq items nl, slots := oslots } := Heap.get?_push_of_some _ (hol)
        have hsls := PySem.F.sub_list_set; have hslf := PySem.F.sub_list_frozenset; have hne : (Value.type "list" == Value.type "dict") = false := (by decide)
        unfold Builtin.«set.__init__» noKeywords Builtin.Frozenset.updateFrom; generalize hPI : pyIter = PI; wp_walk; subst hPI
        refine wpAny_pyIter_list hl1 (wpAny_bind (wpAny_runValue ?_))
        have hlS : l < s.heap.objs.size := Heap.lt_size (hol)
        have hneI : l ≠ (s.heap.push { cls := .type "set", dict := none, data := .set #[] 0 (.fresh 0 0 led) }).objs.size := fun z => by rw [Heap.size_push] at z; exact absurd z (Nat.ne_of_lt (Nat.lt_succ_of_lt hlS))
        have hSf : s.heap.objs.size ∉ [(s.heap.push { cls := .type "set", dict := none, data := .set #[] 0 (.fresh 0 0 led) }).objs.size, l] := fun z => by
          rw [Heap.size_push] at z
          rcases List.mem_cons.mp z with z | z
          · exact Nat.ne_of_lt (Nat.lt_succ_self _) z
          · rcases List.mem_cons.mp z with z | z
            · exact Nat.ne_of_gt hlS z
            · cases z
        refine set_turns ((Walks.list (show A.in1.in1.in1.handled = none by simp [hh]) _ l hneI items).toS) hSf nd hlen (by omega) hi items.size 0 _ (by omega) ⟨⟨_, Heap.get?_push_size _ rfl, rfl, rfl⟩, (hl1.push _)⟩ ?hA ?hB
        case hA =>
          refine SetOf_congr ((setObjOf_fresh (knd := PySem.strKind prog w) led).setOf (h := (s.heap.push { cls := .type "set", dict := none, data := .set #[] 0 (.fresh 0 0 led) }).push { cls := .type "list_iterator", data := .fields #[.ref l, .int 0 0] }) (Heap.get?_push_of_some _ hS) (by unfold scanBound; omega)) (fun _ => rfl) rfl
        case hB =>
          intro s' hm hS'
          obtain ⟨h', g', d', tk', os'⟩ := s'; obtain rfl : g' = s.gens := hm.gens; obtain rfl : d' = s.drawn := hm.drawn; obtain rfl : os' = s.os := hm.os
          refine (show wpAny _ _ _ _ _ _ from wpAny_pure (show wpAny _ _ (ret Value.none) _ _ _ from wpAny_pure ⟨rfl, h', tk', rfl, hS', fun b o hb e => ?_⟩))
          refine hm.heap b o (fun z => ?_) (Heap.get?_push_of_some _ (Heap.get?_push_of_some _ e))
          rcases List.mem_cons.mp z with z | z
          · exact Nat.ne_of_lt hb z
          · rcases List.mem_cons.mp z with z | z
            · rw [Heap.size_push] at z
              exact absurd z (Nat.ne_of_lt (Nat.lt_succ_of_lt hb))
            · cases z
      · cases r2 with
        | error e => exact hr2
        | ok fl2 =>
          cases fl2 with
          | ret r =>
            obtain ⟨rfl, h', tk, rfl, hS', hk'⟩ := hr2
            repeat (any_goals (first | assumption | wp_step))
            exact h _ _ hS' hk'
          | _ => exact hr2.elim
    | _ => exact hr.elim
end
def tLenSetS (K : PySem.W.Frag) (ta : TE) : TE := fun σ H Q => ta σ H fun x H1 => ∃ (l : Addr) (xs : List Str), x = .ref l ∧ SqL K H1 l (xs.map V.str) ∧ xs.Nodup ∧ xs.length ≤ 1000 ∧ Q (.int xs.length) H1
theorem pe_lenSetS {X : Cx} (hc : X.calm = true) (B : Std X.mg) {a : Expr} {ta : TE} {p p2 q pos : Pos} (ha : PE X a ta) (hg : Gl X "len" := by rfl) (hg2 : Gl X "set" := by rfl)
    (na : starEach [a] X.env = (false, eval a X.env) :: starEach [] X.env := by rfl) : PE X (.Call (.Name "len" p) [.Call (.Name "set" p2) [a] [] q] [] pos) (tLenSetS X.K ta) := by
  refine ⟨fun pins s σ H Q I h => Call_ (ld_blt I hg B.len boot_len (callWith_builtin1 (args_cons (Call_ (ld_blt I hg2 B.set boot_set ?_)) rfl) rfl rfl))⟩
  refine callWith_type1 (args_cons (thn (ha.run pins s σ H _ I h) fun v s1 ⟨x, H1, I1, r1, q1⟩ => args_nil ?_) na) na (by rfl)
  obtain ⟨l, xs, rfl, hq, hnd, hln, q1⟩ := q1
  cases r1
  obtain ⟨its, r, pl, hz⟩ := I1.list hq
  have hlen : its.length = xs.length := by rw [← r.length, List.length_map]
  refine set_of_strs (xs := xs) (I1.ok.hd hc) pl.isList (fun i v e => ?_) (by simp [hlen]) hnd hln fun h' tk hS hk => args_nil ?_
  · have e' : its[i]? = some v := by simpa using e
    have hlt : i < xs.length := by rw [← hlen]; exact (List.getElem?_eq_some_iff.mp e').1
    obtain ⟨u, hu, ru⟩ := r.get (i := i) (x := .str xs[i]) (by simp [hlt])
    rw [e'] at hu
    obtain rfl := Option.some.inj hu
    obtain ⟨t, rfl⟩ := ru
    exact ⟨xs[i], t, by simp [hlt], rfl⟩
  · obtain ⟨o, es, ep, t, ho, hex, hd, _, _, _, hf, hns⟩ := hS
    have I2 : Inv X pins σ H1 { s1 with heap := h', toks := tk } := I1.kept fun b o e => hk b o (Heap.lt_size e) e
    have hsz : es.size = xs.length := by rw [hns]; simp [hlen]
    exact call_len_set ho hex hd hf (by rw [hsz]; omega) ⟨.int xs.length, H1, I2.tok _, ⟨_, by rw [hsz]⟩, q1⟩
end Oh

set_option maxHeartbeats 4000000
/-! Oh, part 9: nodes, built terms -/
namespace Oh
open PySem PySem.Spec PyProof.Rows L2
open Evl (Ex)
def Tm.nodeOk : Tm → Bool
  | .nm x => isName x
  | .fn x A _ => isName x && decide (A.ends ≤ 60)
  | .cl _ _ => true
  | .pt b _ => isLetter b
  | .en => true
theorem Tm.ok_node {t : Tm} (h : t.ok = true) : t.nodeOk = true := by
  cases t with
  | nm x => exact h
  | fn x A e => exact (Bool.and_eq_true_iff.mp h).1
  | cl e f => rfl
  | pt b e => exact (Bool.and_eq_true_iff.mp h).1
  | en => rfl
theorem Tm.ok_parts {t : Tm} (h : t.ok = true) : ∀ p ∈ t.parts, p.2.ok = true := by
  cases t with
  | nm x => intro p hp; cases hp
  | fn x A e =>
    intro p hp
    rw [List.mem_singleton.mp hp]
    exact (Bool.and_eq_true_iff.mp h).2
  | cl e f =>
    intro p hp
    have h' := Bool.and_eq_true_iff.mp (show (e.ok && f.ok) = true from h)
    rcases List.mem_cons.mp hp with rfl | hp
    · exact h'.1
    · rw [List.mem_singleton.mp hp]
      exact h'.2
  | pt b e =>
    intro p hp
    rw [List.mem_singleton.mp hp]
    exact (Bool.and_eq_true_iff.mp h).2
  | en => intro p hp; cases hp
theorem Tm.dep_parts {t : Tm} : ∀ p ∈ t.parts, p.2.dep + 1 ≤ t.dep := by
  cases t with
  | nm x => intro p hp; cases hp
  | fn x A e =>
    intro p hp
    rw [List.mem_singleton.mp hp]
    exact Nat.le_refl _
  | cl e f =>
    intro p hp
    show p.2.dep + 1 ≤ max e.dep f.dep + 1
    rcases List.mem_cons.mp hp with rfl | hp
    · show e.dep + 1 ≤ _
      omega
    · rw [List.mem_singleton.mp hp]
      show f.dep + 1 ≤ _
      omega
  | pt b e =>
    intro p hp
    rw [List.mem_singleton.mp hp]
    exact Nat.le_refl _
  | en => intro p hp; cases hp
theorem Tm.size_parts (t : Tm) : ((t.parts.map fun p => p.2.size).sum) + 1 = t.size := by
  cases t with
  | nm x => rfl
  | fn x A e => rfl
  | cl e f => show (e.size + (f.size + 0)) + 1 = e.size + f.size + 1; omega
  | pt b e => rfl
  | en => rfl
theorem Tm.size_pos (t : Tm) : 1 ≤ t.size := by rw [← t.size_parts]; omega
theorem Tm.parts_len (t : Tm) : t.parts.length ≤ 2 := by cases t <;> simp [Tm.parts]
section
variable {P : Program} {w : World} {K : PySem.W.Frag} {mg : Str → Option Value} {base : Heap}
/-! ### is_node -/
abbrev sIsNode : Stmt := top 26
theorem scIsNode : FnScope ["value", "word"] ["value"] (defScope sIsNode) := ⟨rfl, rfl, rfl, by decide +kernel, rfl, by decide +kernel, by decide +kernel⟩
def spIsNode (K : PySem.W.Frag) : Sp := fun vs H Q _ => ∃ (x : V) (t : Tm), vs = [x] ∧ Im K H x t.d ∧ t.nodeOk = true ∧ ∀ H', Ex H H' → Q (.bl true) H'
theorem kn_is_node (B : Std mg) (C : Cst K mg w) (GN : Kn P w K mg base "is_name" 2 ["value"] (spIsName K)) (GK : Kn P w K mg base "is_kind" 2 ["value"] (spIsKind K)) (GL : Kn P w K mg base "is_letter" 2 ["value"] (spIsLetter K)) (S : Src K mg "is_node" sIsNode ["value"]) : Kn P w K mg base "is_node" 3 ["value"] (spIsNode K) := by
  obtain ⟨dS, es, nS, mS, hD, hS⟩ := C.sizes
  refine S.kn scIsNode (fun vs H Q E h => ?_) (fun f cdv A outer s H vs Q E hr h => ?_)
  · obtain ⟨x, t, rfl, _⟩ := h
    rfl
  obtain ⟨x, t, rfl, hx, hok, q⟩ := h
  have hu := hu_of hr
  refine ⟨_, pss_cons (ps_if (PW.pt (pw_or (pt_not (pt_val (pe_isTup B (pv 0)))) (pw_or (pt_cmpR (op_eqNilT hu) (pv 0) (pe_tup pa_nil) (nomark _)) (pw_or1 (pt_not (pt_val (pe_isStr B (pe_ix ix_tup (pv 0) pe_int (fun _ _ => rfl))))))))) (pss_one (ps_ret pe_bl)) pss_nil)
    (pss_cons (ps_set (i := 1) scIsNode.nd rfl (.inl rfl) (pe_ix ix_tup (pv 0) pe_int (fun _ _ => rfl)))
    (pss_cons (ps_if (PW.pt (pw_or (pt_cmpR (op_notIn_kd hD) (pv 1) (pe_glob (v := .ref dS) rfl mS rfl) (by rfl)) (pw_or1 (pt_cmpR op_ne (pe_len B (pv 0)) (pe_ix ix_kdict (pe_glob (v := .ref dS) rfl mS rfl) (pv 1) (fun _ _ => rfl)) (nomark _))))) (pss_one (ps_ret pe_bl)) pss_nil)
    (pss_cons (ps_if (PW.pt (pw_and (pt_cmpR op_in_seq (pv 1) (pe_lst (pa_cons pe_str (pa_cons pe_str pa_nil))) (by rfl)) (pw_and1 (pt_not (pt_val (pe_kn GN hr (pa_cons (pe_ix ix_tup (pv 0) pe_int (fun _ _ => rfl)) pa_nil))))))) (pss_one (ps_ret pe_bl)) pss_nil)
    (pss_cons (ps_if (pt_cmpR op_eq (pv 1) pe_str (nomark _)) (pss_one (ps_ret (pe_kn GK hr (pa_cons (pe_ix ix_tup (pv 0) pe_int (fun _ _ => rfl)) pa_nil)))) pss_nil)
    (pss_one (ps_ret (pe_or (pe_cmpR op_ne (pv 1) pe_str (nomark _)) (pe_one (pe_kn GL hr (pa_cons (pe_ix ix_tup (pv 0) pe_int (fun _ _ => rfl)) pa_nil)))))))))), ?_⟩
  have s0 : 0 ≤ sizeLine := by decide
  have s2 : 2 ≤ sizeLine := by decide
  obtain ⟨a, r, rfl, hs, hlen⟩ := Tm.node hx
  refine ⟨_, rfl, _, _, _, _, _, rfl, .ty _, SqT.ty hs, kit_tt, _, rfl, iteF ?_⟩
  refine ⟨_, rfl, s0, fun p hp => ⟨a, p, _, rfl, rfl, tk (Ex.new hp) _ _ hs, upd_same, _, rfl, iteF ?_⟩⟩
  have e1 : Ex H (upd H p (.tup [])) := Ex.new hp
  generalize upd H p (.tup []) = H1 at e1
  have hs1 := tk e1 _ _ hs
  refine ⟨_, rfl, a, _, 0, _, rfl, rfl, hs1, atI_nat (j := 0) rfl, _, _, _, _, _, rfl, .ty _, .base (.str _), kit_ss, _, rfl, iteF ?_⟩
  refine ⟨_, rfl, a, _, 0, _, rfl, rfl, hs1, atI_nat (j := 0) rfl, ?_⟩
  obtain ⟨tok, htok⟩ := hS t
  refine ⟨_, rfl, _, _, rfl, rfl, htok, _, rfl, iteF ?_⟩
  refine ⟨_, rfl, _, _, rfl, .inr ⟨_, hs1, rfl⟩, _, rfl, dS, _, .int t.arity, rfl, rfl, ⟨es, nS, _, hD.at_, hD.lit, htok, ⟨tok, rfl⟩⟩, rfl, _, rfl, ifNF (by rw [hlen]) ?_⟩
  refine ⟨_, rfl, s2, fun g hg => ?_⟩
  have e2 : Ex H1 (upd H1 g (.lst [.str "name", .str "fun"])) := Ex.new hg
  refine ⟨g, _, rfl, .inl (SqL.of upd_same), rfl, rfl, _, rfl, ?_⟩
  have e12 := e1.trans e2
  generalize upd H1 g (.lst [.str "name", .str "fun"]) = H2 at e2 e12
  cases t with
  | nm x =>
    obtain ⟨b, u, v, eb, hs', _, h1⟩ := (hx.ex e12).t2
    cases eb
    obtain rfl := h1.s
    refine ifB (by rfl) ⟨_, rfl, a, _, 1, _, rfl, rfl, hs', atI_nat (j := 1) rfl, x, rfl, hok, fun H3 e3 => ⟨_, rfl, iteF ?_⟩⟩
    exact ⟨_, rfl, rfl, _, rfl, ifF (vne rfl) ⟨_, rfl, rfl, _, rfl, q H3 (e12.trans e3)⟩⟩
  | fn x A e =>
    obtain ⟨b, u, v, v2, v3, eb, hs', _, h1, h2, h3⟩ := (hx.ex e12).t4
    cases eb
    obtain rfl := h1.s
    have hok' := Bool.and_eq_true_iff.mp (show (isName x && decide (A.ends ≤ 60)) = true from hok)
    refine ifB (by rfl) ⟨_, rfl, a, _, 1, _, rfl, rfl, hs', atI_nat (j := 1) rfl, x, rfl, hok'.1, fun H3 e3 => ⟨_, rfl, iteF ?_⟩⟩
    refine ⟨_, rfl, rfl, _, rfl, ifT rfl ⟨_, rfl, a, _, 2, _, rfl, rfl, tk e3 _ _ hs', atI_nat (j := 2) rfl, v2, A, rfl, h2.ex e3, of_decide_eq_true hok'.2, fun H4 e4 => q H4 ((e12.trans e3).trans e4)⟩⟩
  | cl e f =>
    refine ifBF (by rfl) ⟨_, rfl, rfl, _, rfl, ifF (vne rfl) ⟨_, rfl, rfl, _, rfl, q H2 e12⟩⟩
  | pt b0 e =>
    obtain ⟨b, u, v, v2, eb, hs', _, h1, h2⟩ := (hx.ex e12).t3
    cases eb
    obtain rfl := h1.s
    refine ifBF (by rfl) ⟨_, rfl, rfl, _, rfl, ifF (vne rfl) ⟨_, rfl, rfl, _, rfl, iteF ⟨_, rfl, a, _, 1, _, rfl, rfl, hs', atI_nat (j := 1) rfl, b0, rfl, hok, fun H3 e3 => q H3 (e12.trans e3)⟩⟩⟩
  | en =>
    refine ifBF (by rfl) ⟨_, rfl, rfl, _, rfl, ifF (vne rfl) ⟨_, rfl, rfl, _, rfl, q H2 e12⟩⟩
end
end Oh

set_option maxHeartbeats 4000000
/-! Oh, part 10: is_built, uses, is_term -/
namespace Oh
open PySem PySem.Spec PyProof.Rows L2
open Evl (Ex)
section
variable {P : Program} {w : World} {K : PySem.W.Frag} {mg : Str → Option Value} {base : Heap}
/-! ### is_built -/
abbrev sBuilt : Stmt := top 27
theorem scBuilt : FnScope ["value", "left", "many", "node", "level", "path", "part"] ["value"] (defScope sBuilt) := ⟨rfl, rfl, rfl, by decide +kernel, rfl, by decide +kernel, by decide +kernel⟩
def ndD (p : Tm × Int) : PyData := .tuple [p.1.d, .int p.2]
def sizeL (l : List (Tm × Int)) : Nat := (l.map fun p => p.1.size).sum
theorem sizeL_app (a b : List (Tm × Int)) : sizeL (a ++ b) = sizeL a + sizeL b := by unfold sizeL; rw [List.map_append, List.sum_append]
theorem len_sizeL : ∀ l : List (Tm × Int), l.length ≤ sizeL l
  | [] => Nat.le_refl _
  | p :: l => by
    have h1 := len_sizeL l
    have h2 := p.1.size_pos
    show l.length + 1 ≤ p.1.size + sizeL l
    omega
def spBuilt (K : PySem.W.Frag) : Sp := fun vs H Q _ => ∃ (x : V) (t : Tm), vs = [x] ∧ Im K H x t.d ∧ t.ok = true ∧ t.size ≤ 400 ∧ t.dep ≤ 60 ∧ ∀ H', Ex H H' → Q (.bl true) H'
def builtW (x : V) (t : Tm) (H : Hp) (K : PySem.W.Frag) : Nat → L2.St → Hp → Prop := fun m σ H1 => ∃ (l : Addr) (st : List (Tm × Int)) (vs : List V) (n : Nat) (o3 o4 : Option V),
  m = sizeL st ∧ σ = [some x, some (.ref l), some (.int n), o3, o4, none, none] ∧ H1 l = some (.lst vs) ∧ ImA K H1 vs (st.map ndD) ∧ n + sizeL st = t.size ∧ (∀ p ∈ st, p.1.ok = true ∧ p.2 + p.1.dep ≤ 61) ∧ Ex H H1 ∧ H l = none
theorem kn_built (C : Cst K mg w) (GN : Kn P w K mg base "is_node" 3 ["value"] (spIsNode K)) (GP : Kn P w K mg base "parts_of" 1 ["node"] (spPartsOf K)) (S : Src K mg "is_built" sBuilt ["value"]) : Kn P w K mg base "is_built" 4 ["value"] (spBuilt K) := by
  obtain ⟨tn, mn⟩ := C.nodes
  obtain ⟨tl, ml⟩ := C.levels
  refine S.kn scBuilt (fun vs H Q E h => ?_) (fun f cdv A outer s H vs Q E hr h => ?_)
  · obtain ⟨x, t, rfl, _⟩ := h
    rfl
  obtain ⟨x, t, rfl, hx, hok, hsz, hdp, q⟩ := h
  have hu := hu_of hr
  refine ⟨_, pss_cons (ps_par (i := 1) (j := 2) (by rfl) scBuilt.nd rfl rfl (by decide) rfl rfl (pa_cons (pe_lst (pa_cons (pe_tup (pa_cons (pv 0) (pa_cons pe_int pa_nil))) pa_nil)) (pa_cons pe_int pa_nil)) (by rfl))
    (pss_cons (ps_while PassesOwn.never (pt_cmpR (op_neNil hu) (pv 1) (pe_lst pa_nil) (nomark _))
      (pss_cons (ps_asg (pe_bm0 PySem.F.plainAttrs_list PySem.F.slot_list_pop PySem.F.type_list_pop mt_pop (pv 1)) (pg_tup (by rfl) (pgs_cons (pg_name (i := 3) scBuilt.nd rfl (.inl rfl)) (pgs_cons (pg_name (i := 4) scBuilt.nd rfl (.inr rfl)) pgs_nil))))
      (pss_cons (ps_aug (i := 2) scBuilt.nd rfl (.inl rfl) pe_int ip_add)
      (pss_cons (ps_if (PW.pt (pw_or (pt_cmpR op_gt (pv 2) (pe_glob (v := .int 400) rfl mn ⟨_, rfl⟩) (nomark _)) (pw_or (pt_cmpR op_gt (pv 4) (pe_glob (v := .int 60) rfl ml ⟨_, rfl⟩) (nomark _)) (pw_or1 (pt_not (pt_val (pe_kn GN hr (pa_cons (pv 3) pa_nil)))))))) (pss_one (ps_ret pe_bl)) pss_nil)
      (pss_one (ps_expr (pe_bm PySem.F.plainAttrs_list PySem.F.slot_list_extend PySem.F.type_list_extend mt_extend (pv 1) (pa_cons
        (pe_lc (own := [("path", 5), ("part", 6)]) (g := gTup K 2 (gCons (gName 5) (gCons (gName 6) gNil))) (tt := tYes) (by rfl) scBuilt.nd (pi_list (pe_kn GP (hr.mono (by decide)) (pa_cons (pv 3) pa_nil))) (blkOk_by (N := ["value", "left", "many", "node", "level", "path", "part"]) (sc := defScope sBuilt) (by decide +kernel))
          (fun _ _ _ _ _ => pg_tup (by rfl) (pgs_cons (pg_name (i := 5) scBuilt.nd rfl (.inl rfl)) (pgs_cons (pg_name (i := 6) scBuilt.nd rfl (.inl rfl)) pgs_nil))) (fun _ _ _ _ _ => pts_nil)
          (fun _ _ _ _ _ => pe_tup (pa_cons (pv 6) (pa_cons (pe_op op_add (pv 4) pe_int) pa_nil)))) pa_nil))))))))
    (pss_one (ps_ret pe_bl))), ?_⟩
  have s0 : 0 ≤ sizeLine := by decide
  have s1 : 1 ≤ sizeLine := by decide
  have s2 : 2 ≤ sizeLine := by decide
  refine ⟨_, rfl, s2, fun p0 hp0 => ⟨s1, fun l0 hl0 => ⟨_, _, rfl, ?_⟩⟩⟩
  have e0 : Ex H (upd (upd H p0 (.tup [x, .int 1])) l0 (.lst [.ref p0])) := (Ex.new hp0).trans (Ex.new hl0)
  refine ⟨builtW x t H K, ⟨_, l0, [(t, 1)], [.ref p0], 0, none, none, rfl, rfl, upd_same, ?_, ?_, ?_, e0, Evl.fresh_back (Ex.new hp0) hl0⟩, ?_⟩
  · exact .cons ((Im.mk2 (p := p0) upd_same (hx.ex (Ex.new hp0)) (.int 1)).ex (Ex.new hl0)) .nil
  · show 0 + (t.size + 0) = t.size
    omega
  · intro p hp
    rw [List.mem_singleton.mp hp]
    exact ⟨hok, by show (1 : Int) + t.dep ≤ 61; omega⟩
  rintro m σ H1 ⟨l, st, vs, n, o3, o4, rfl, rfl, hl, hi, hn, hall, e1, hf⟩
  refine ⟨_, rfl, s0, fun p hp => ?_⟩
  have e2 : Ex H1 (upd H1 p (.lst [])) := Ex.new hp
  have hl2 : (upd H1 p (.lst [])) l = some (.lst vs) := e2 _ _ hl
  refine ⟨l, p, vs, rfl, rfl, hl2, upd_same, _, rfl, ?_⟩
  by_cases ez : st = []
  · subst ez
    obtain rfl := hi.e
    exact iteF (q _ (e1.trans e2))
  obtain ⟨st', ⟨t1, lv⟩, rfl⟩ := eq_of_last ez
  rw [List.map_append] at hi
  obtain ⟨v1, r, rfl, hr1, hv1⟩ := (hi.ex e2).last
  refine ifB (by simp) ⟨_, fun _ _ z => z, ?_⟩
  have hdl : (r ++ [v1]).dropLast = r := List.dropLast_concat
  have hrl : r.length = st'.length := by rw [hr1.len, List.length_map]
  have hsl := len_sizeL st'
  have hs1 := sizeL_app st' [(t1, lv)]
  have hs2 : sizeL [(t1, lv)] = t1.size := by show t1.size + 0 = _; omega
  have ht1 := t1.size_pos
  obtain ⟨hok1, hdp1⟩ := hall (t1, lv) (List.mem_append_right _ List.mem_cons_self)
  have hdp1' : lv + (t1.dep : Int) ≤ 61 := hdp1
  have htd : 1 ≤ t1.dep := by cases t1 <;> simp [Tm.dep]
  refine ⟨_, rfl, .inl ⟨rfl, _, SqL.of hl2⟩, l, _, _, rfl, rfl, hl2, pop_last r v1, ?_⟩
  rw [hdl]
  have t3 : Tk K (upd H1 p (.lst [])) (upd (upd H1 p (.lst [])) l (.lst r)) := Tk.upd (nt_lst hl2)
  have e3 : Ex H (upd (upd H1 p (.lst [])) l (.lst r)) := (e1.trans e2).mut hf
  have hr3 := hr1.up t3
  have hv3 := hv1.up t3
  generalize hH : upd (upd H1 p (.lst [])) l (.lst r) = H3 at t3 e3 hr3 hv3 ⊢
  have hl3 : H3 l = some (.lst r) := by rw [← hH]; exact upd_same
  obtain ⟨pn, vn, vl, rfl, hsn, hnode, hlv⟩ := hv3.t2
  obtain rfl := hlv.i
  refine ⟨pn, _, rfl, hsn, rfl, _, _, rfl, _, _, rfl, rfl, _, rfl, _, _, rfl, rfl, ?_⟩
  refine ⟨_, rfl, _, _, rfl, rfl, _, rfl, ifF (by show ¬ (400 : Int) < (n : Int) + 1; omega) ⟨_, rfl, _, _, rfl, rfl, _, rfl, ifF (by show ¬ (60 : Int) < lv; omega) ⟨_, rfl, vn, t1, rfl, hnode, Tm.ok_node hok1, fun H4 e4 => ⟨_, rfl, iteF ?_⟩⟩⟩⟩
  have hl4 := e4 _ _ hl3
  refine ⟨_, rfl, .inl ⟨rfl, _, SqL.of hl4⟩, _, rfl, vn, t1, rfl, hnode.ex e4, fun pl xs H5 e5 hfl hpl hxs => ⟨pl, rfl, ⟨_, SqL.of hpl⟩, fun D hD => ?_⟩⟩
  refine lc_list (K := K) (a := pl) (xs := xs) (fun i H' => Ex H5 H' ∧ ∃ ys, H' D = some (.lst ys) ∧ ImA K H' ys ((t1.parts.take i).map fun p => ndD (p.2, lv + 1))) ⟨Ex.new hD, [], upd_same, .nil⟩ (fun i H' _ z => SqL.of (z.1 _ _ hpl)) ?_ ?_
  · rintro i v H6 hv ⟨e6, ys, hD6, hys⟩
    obtain ⟨dd, hdd, hvd⟩ := (hxs.ex e6).get hv
    rw [List.getElem?_map] at hdd
    cases ep : t1.parts[i]? with
    | none => rw [ep] at hdd; cases hdd
    | some pp =>
      rw [ep] at hdd
      obtain rfl := Option.some.inj hdd
      obtain ⟨pa, v1, v2, rfl, hsa, _, hv2⟩ := hvd.t2
      have hil : i < t1.parts.length := (List.getElem?_eq_some_iff.mp ep).1
      have hyl : ys.length ≤ 2 := by
        have h1 := hys.len
        have h2 := t1.parts_len
        rw [List.length_map, List.length_take] at h1
        omega
      refine ⟨pa, _, rfl, hsa, rfl, _, _, rfl, _, _, rfl, rfl, rfl, yes_if ⟨_, rfl, _, rfl, _, _, rfl, rfl, s2, fun g hg => ?_⟩⟩
      have e7 : Ex H6 (upd H6 g (.tup [v2, .int (lv + 1)])) := Ex.new hg
      refine ⟨ys, e7 _ _ hD6, small1000 (by omega), (e6.trans e7).mut hD, ys ++ [.ref g], upd_same, ?_⟩
      have t8 : Tk K (upd H6 g (.tup [v2, .int (lv + 1)])) (upd (upd H6 g (.tup [v2, .int (lv + 1)])) D (.lst (ys ++ [.ref g]))) := Tk.upd (nt_lst (e7 _ _ hD6))
      rw [List.take_add_one, ep, List.map_append]
      exact ((hys.ex e7).up t8).snoc ((Im.mk2 (p := g) upd_same (hv2.ex e7) (.int (lv + 1))).up t8)
  · rintro H6 ⟨e6, ys, hD6, hys⟩
    have hxl : xs.length = t1.parts.length := by rw [hxs.len, List.length_map]
    rw [hxl, List.take_length] at hys
    have hyl : ys.length ≤ 2 := by
      have h1 := hys.len
      have h2 := t1.parts_len
      rw [List.length_map] at h1
      omega
    have e46 := e5.trans e6
    have hl6 := e46 _ _ hl4
    refine ⟨l, D, r, ys, rfl, rfl, hl6, hD6, sl (by omega), ?_⟩
    have t9 : Tk K H6 (upd H6 l (.lst (r ++ ys))) := Tk.upd (nt_lst hl6)
    have hsp := t1.size_parts
    have hs3 := sizeL_app st' (t1.parts.map fun p => (p.2, lv + 1))
    have hs4 : sizeL (t1.parts.map fun p => (p.2, lv + 1)) = (t1.parts.map fun p => p.2.size).sum := by unfold sizeL; rw [List.map_map]; rfl
    refine ⟨sizeL (st' ++ t1.parts.map fun p => (p.2, lv + 1)), by omega, l, st' ++ (t1.parts.map fun p => (p.2, lv + 1)), r ++ ys, n + 1, some vn, some (.int lv), rfl, rfl, upd_same, ?_, by omega, ?_, ((e3.trans e4).trans e46).mut hf, hf⟩
    · rw [List.map_append, List.map_map]
      exact (((hr3.ex e4).ex e46).up t9).app (hys.up t9)
    · intro p hp
      rcases List.mem_append.mp hp with hp | hp
      · exact hall p (List.mem_append_left _ hp)
      · obtain ⟨pp, hpp, rfl⟩ := List.mem_map.mp hp
        refine ⟨Tm.ok_parts hok1 pp hpp, ?_⟩
        have := Tm.dep_parts pp hpp
        show lv + 1 + (pp.2.dep : Int) ≤ 61
        omega
/-! ### uses -/
abbrev sUses : Stmt := top 28
theorem scUses : FnScope ["node", "found", "path", "part", "more", "name"] ["node"] (defScope sUses) := ⟨rfl, rfl, rfl, by decide +kernel, rfl, by decide +kernel, by decide +kernel⟩
/-- the name that a node binds -/
def Tm.bound : Tm → Str
  | .fn x _ _ => x
  | _ => ""
/-- what is kept of a part's names -/
def keepName (t : Tm) (p : List Int) (y : Str) : Bool := !(decide (p = [3])) || !(decide (y = t.bound))
def usePart (t : Tm) (p : List Int × Tm) : List Str := (p.2.uses.getD []).filter (keepName t p.1)
theorem filter_all {l : List Str} {f : Str → Bool} (h : ∀ y, f y = true) : l.filter f = l := List.filter_eq_self.mpr fun y _ => h y
theorem Tm.uses_parts {t : Tm} {l : List Str} (h : t.uses = some l) (hn : ∀ x, t ≠ .nm x) : (∀ p ∈ t.parts, ∃ m, p.2.uses = some m) ∧ l = (t.parts.map (usePart t)).flatten ∧ nodupB l = true := by
  cases t with
  | nm x => exact absurd rfl (hn x)
  | fn x A e =>
    unfold Tm.uses at h
    cases he : e.uses with
    | none => rw [he] at h; cases h
    | some m =>
      rw [he] at h
      simp only at h
      split at h
      · rename_i hnd
        obtain rfl := Option.some.inj h
        have ek : usePart (.fn x A e) ([3], e) = m.filter fun y => decide (y ≠ x) := by
          unfold usePart
          rw [he]
          refine List.filter_congr fun y _ => ?_
          show (!(decide (([3] : List Int) = [3])) || !(decide (y = x))) = decide (y ≠ x)
          simp
        refine ⟨fun p hp => ⟨m, by rw [List.mem_singleton.mp hp]; exact he⟩, ?_, hnd⟩
        show _ = (List.map (usePart (.fn x A e)) [([3], e)]).flatten
        rw [List.map_singleton, ek]
        simp
      · cases h
  | cl e f =>
    unfold Tm.uses at h
    cases he : e.uses with
    | none => rw [he] at h; cases h
    | some m =>
      cases hf : f.uses with
      | none => rw [he, hf] at h; cases h
      | some m2 =>
        rw [he, hf] at h
        simp only at h
        split at h
        · rename_i hnd
          obtain rfl := Option.some.inj h
          have k1 : usePart (.cl e f) ([1], e) = m := by
            unfold usePart
            rw [he]
            exact filter_all fun y => by unfold keepName; simp
          have k2 : usePart (.cl e f) ([2], f) = m2 := by
            unfold usePart
            rw [hf]
            exact filter_all fun y => by unfold keepName; simp
          refine ⟨fun p hp => ?_, ?_, hnd⟩
          · rcases List.mem_cons.mp hp with rfl | hp
            · exact ⟨m, he⟩
            · exact ⟨m2, by rw [List.mem_singleton.mp hp]; exact hf⟩
          · show _ = (List.map (usePart (.cl e f)) [([1], e), ([2], f)]).flatten
            rw [List.map_cons, List.map_singleton, k1, k2]
            simp
        · cases h
  | pt b e =>
    unfold Tm.uses at h
    cases he : e.uses with
    | none => rw [he] at h; cases h
    | some m =>
      rw [he] at h
      simp only at h
      split at h
      · rename_i hnd
        obtain rfl := Option.some.inj h
        have k1 : usePart (.pt b e) ([2], e) = m := by
          unfold usePart
          rw [he]
          exact filter_all fun y => by unfold keepName; simp
        refine ⟨fun p hp => ⟨m, by rw [List.mem_singleton.mp hp]; exact he⟩, ?_, hnd⟩
        show _ = (List.map (usePart (.pt b e)) [([2], e)]).flatten
        rw [List.map_singleton, k1]
        simp
      · cases h
  | en =>
    obtain rfl := Option.some.inj h
    exact ⟨fun p hp => (nomatch hp), rfl, rfl⟩
theorem nodupB_nodup : ∀ {l : List Str}, nodupB l = true → l.Nodup
  | [], _ => List.nodup_nil
  | x :: r, h => by
    have h' := Bool.and_eq_true_iff.mp (show (!(decide (x ∈ r)) && nodupB r) = true from h)
    refine List.nodup_cons.mpr ⟨?_, nodupB_nodup h'.2⟩
    intro z
    have := h'.1
    rw [decide_eq_true z] at this
    cases this
theorem Tm.uses_len : ∀ {t : Tm} {l : List Str}, t.uses = some l → l.length ≤ t.size := by
  intro t
  induction t with
  | nm x => intro l h; obtain rfl := Option.some.inj h; exact Nat.le_refl _
  | fn x A e ih =>
    intro l h
    unfold Tm.uses at h
    cases he : e.uses with
    | none => rw [he] at h; cases h
    | some m =>
      rw [he] at h
      simp only at h
      split at h
      · obtain rfl := Option.some.inj h
        exact Nat.le_trans (List.length_filter_le _ _) (Nat.le_succ_of_le (ih he))
      · cases h
  | cl e f ih1 ih2 =>
    intro l h
    unfold Tm.uses at h
    cases he : e.uses with
    | none => rw [he] at h; cases h
    | some m =>
      cases hf : f.uses with
      | none => rw [he, hf] at h; cases h
      | some m2 =>
        rw [he, hf] at h
        simp only at h
        split at h
        · obtain rfl := Option.some.inj h
          have h1 := ih1 he
          have h2 := ih2 hf
          rw [List.length_append]
          show _ ≤ e.size + f.size + 1
          omega
        · cases h
  | pt b e ih =>
    intro l h
    unfold Tm.uses at h
    cases he : e.uses with
    | none => rw [he] at h; cases h
    | some m =>
      rw [he] at h
      simp only at h
      split at h
      · obtain rfl := Option.some.inj h
        exact Nat.le_succ_of_le (ih he)
      · cases h
  | en => intro l h; obtain rfl := Option.some.inj h; exact Nat.zero_le _
def spUses (K : PySem.W.Frag) (n : Nat) : Sp := fun vs H Q _ => ∃ (x : V) (t : Tm) (l : List Str), vs = [x] ∧ Im K H x t.d ∧ t.uses = some l ∧ t.dep ≤ n ∧ t.size ≤ 400 ∧ ∀ p H', Ex H H' → H p = none → H' p = some (.lst (l.map V.str)) → Q (.ref p) H'
theorem Tm.path {t : Tm} {p : List Int × Tm} (h : p ∈ t.parts) : ∃ i : Int, p.1 = [i] ∧ (i = 3 → ∃ x A e, t = .fn x A e) ∧ p.2.size ≤ t.size := by
  cases t with
  | nm x => cases h
  | fn x A e =>
    rw [List.mem_singleton.mp h]
    exact ⟨3, rfl, fun _ => ⟨x, A, e, rfl⟩, Nat.le_succ _⟩
  | cl e f =>
    rcases List.mem_cons.mp h with rfl | h
    · exact ⟨1, rfl, fun z => absurd z (by decide), by show e.size ≤ e.size + f.size + 1; omega⟩
    · rw [List.mem_singleton.mp h]
      exact ⟨2, rfl, fun z => absurd z (by decide), by show f.size ≤ e.size + f.size + 1; omega⟩
  | pt b e =>
    rw [List.mem_singleton.mp h]
    exact ⟨2, rfl, fun z => absurd z (by decide), Nat.le_succ _⟩
  | en => cases h
theorem flat_len {t : Tm} {l : List Str} (h : t.uses = some l) (hn : ∀ x, t ≠ .nm x) (i : Nat) : ((t.parts.take i).map (usePart t)).flatten.length ≤ l.length := by
  obtain ⟨_, h2, _⟩ := Tm.uses_parts h hn
  have e : l = ((t.parts.take i).map (usePart t)).flatten ++ ((t.parts.drop i).map (usePart t)).flatten := by
    rw [← List.flatten_append, ← List.map_append, List.take_append_drop]
    exact h2
  rw [e, List.length_append]
  omega
theorem eqv_path (i : Int) : PyData.eqv (.tuple [.int i]) (.tuple [.int 3]) = decide (i = 3) := by
  simp only [PyData.eqv, PyData.eqvAll, Bool.and_true]
  exact Bool.beq_eq_decide_eq i 3
theorem kn_uses (B : Std mg) (GP : Kn P w K mg base "parts_of" 1 ["node"] (spPartsOf K)) (S : Src K mg "uses" sUses ["node"]) : ∀ n : Nat, Kn P w K mg base "uses" (n + 1) ["node"] (spUses K n)
  | 0 => S.kn0 fun vs H Q E h => by
    obtain ⟨x, t, _, _, _, _, hd, _⟩ := h
    cases t <;> simp [Tm.dep] at hd
  | n + 1 => by
    have G := kn_uses B GP S n
    refine S.kn scUses (fun vs H Q E h => ?_) (fun f cdv A outer s H vs Q E hr h => ?_)
    · obtain ⟨x, t, l, rfl, _⟩ := h
      rfl
    obtain ⟨x, t, l, rfl, hx, hul, hdp, hsz, q⟩ := h
    have hu := hu_of hr
    refine ⟨_, pss_cons (ps_if (pt_cmpR op_eq (pe_ix ix_tup (pv 0) pe_int (fun _ _ => rfl)) pe_str (nomark _)) (pss_one (ps_ret (pe_lst (pa_cons (pe_ix ix_tup (pv 0) pe_int (fun _ _ => rfl)) pa_nil)))) pss_nil)
      (pss_cons (ps_set (i := 1) scUses.nd rfl (.inl rfl) (pe_lst pa_nil))
      (pss_cons (ps_for PassesOwn.never rfl (pi_list (pe_kn GP (hr.mono (by omega)) (pa_cons (pv 0) pa_nil))) (pg_tup (by rfl) (pgs_cons (pg_name (i := 2) scUses.nd rfl (.inr rfl)) (pgs_cons (pg_name (i := 3) scUses.nd rfl (.inl rfl)) pgs_nil)))
        (pss_cons (ps_set (i := 4) scUses.nd rfl (.inl rfl) (pe_kn G hr (pa_cons (pv 3) pa_nil)))
        (pss_cons (ps_if (pt_cmpR op_isN (pv 4) pe_non (nomark _)) (pss_one (ps_ret pe_non)) pss_nil)
        (pss_one (ps_set (i := 1) scUses.nd rfl (.inl rfl) (pe_op op_cat (pv 1)
          (pe_lc (own := [("name", 5)]) (g := gName 5) (tt := tOr (tTest (tOp (rNeD K) (tVar 2) (tTup (tCons (tC (.int 3)) tNil)))) (tTest (tOp rNe (tVar 5) (tOp (rIxT K) (tVar 0) (tC (.int 1)))))) (by rfl) scUses.nd (pi_list (pv 4)) (blkOk_by (N := ["node", "found", "path", "part", "more", "name"]) (sc := defScope sUses) (by decide +kernel))
            (fun _ _ _ _ _ => pg_name (i := 5) scUses.nd rfl (.inl rfl))
            (fun _ _ _ _ _ => pts_one (PW.pt (pw_or (pt_cmpR (op_neD hr.units) (pv 2) (pe_tup (pa_cons pe_int pa_nil)) (nomark _)) (pw_or1 (pt_cmpR op_ne (pv 5) (pe_ix ix_tup (pv 0) pe_int (fun _ _ => rfl)) (nomark _))))))
            (fun _ _ _ _ _ => pv 5))))))))
      (pss_one (ps_ret (pe_ifExp (pt_cmpR op_eq (pe_lenSetS (by rfl) B (pv 1)) (pe_len B (pv 1)) (nomark _)) (pv 1) pe_non))))), ?_⟩
    have s0 : 0 ≤ sizeLine := by decide
    have s1 : 1 ≤ sizeLine := by decide
    have hll := Tm.uses_len hul
    obtain ⟨a, r, rfl, hs, _⟩ := Tm.node hx
    refine ⟨_, rfl, a, _, 0, _, rfl, rfl, hs, atI_nat (j := 0) rfl, rfl, _, rfl, ?_⟩
    by_cases hnm : ∃ z, t = .nm z
    · obtain ⟨z, rfl⟩ := hnm
      obtain ⟨b, u, v, eb, hs', _, h1⟩ := hx.t2
      cases eb
      obtain rfl := h1.s
      obtain rfl := Option.some.inj hul
      exact ifT rfl ⟨_, rfl, a, _, 1, _, rfl, rfl, hs', atI_nat (j := 1) rfl, s1, fun g hg => q g _ (Ex.new hg) hg upd_same⟩
    have hn : ∀ z, t ≠ .nm z := fun z e => hnm ⟨z, e⟩
    obtain ⟨hup, hlf, hnd⟩ := Tm.uses_parts hul hn
    refine ifF (vne (by cases t <;> first | rfl | exact absurd rfl (hn _))) ⟨s0, fun l0 hl0 => ?_⟩
    have e0 : Ex H (upd H l0 (.lst [])) := Ex.new hl0
    refine ⟨_, rfl, _, t, rfl, hx.ex e0, fun pl xs H1 e1 hfl hpl hxs => ⟨pl, rfl, ⟨_, SqL.of hpl⟩, ?_⟩⟩
    have hl0n : H l0 = none := hl0
    refine for_list (K := K) (a := pl) (xs := xs) (fun i σ H' => ∃ (lf : Addr) (o2 o3 o4 : Option V), σ = [some (.ref a), some (.ref lf), o2, o3, o4, none] ∧ Ex H1 H' ∧ H lf = none ∧ H' lf = some (.lst ((((t.parts.take i).map (usePart t)).flatten).map V.str)))
      ⟨l0, none, none, none, rfl, Ex.refl _, hl0n, e1 _ _ upd_same⟩ (fun i σ H' _ z => ?_) ?_ ?_
    · obtain ⟨_, _, _, _, _, z, _⟩ := z
      exact SqL.of (z _ _ hpl)
    · rintro i v σ H2 hv ⟨lf, o2, o3, o4, rfl, e2, hlfn, hlf2⟩
      obtain ⟨dd, hdd, hvd⟩ := (hxs.ex e2).get hv
      rw [List.getElem?_map] at hdd
      cases ep : t.parts[i]? with
      | none => rw [ep] at hdd; cases hdd
      | some pp =>
        rw [ep] at hdd
        obtain rfl := Option.some.inj hdd
        obtain ⟨pa, v1, v2, rfl, hsa, hv1, hv2⟩ := hvd.t2
        have hmem : pp ∈ t.parts := List.mem_of_getElem? ep
        obtain ⟨m, hm⟩ := hup pp hmem
        obtain ⟨j, hj, hj3, hpsz⟩ := Tm.path hmem
        have hpd := Tm.dep_parts pp hmem
        have hml := Tm.uses_len hm
        refine ⟨pa, _, rfl, hsa, rfl, _, _, rfl, _, _, rfl, rfl, ?_⟩
        refine ⟨_, rfl, v2, pp.2, m, rfl, hv2, hm, by omega, by omega, fun pm H3 e3 hfm hpm => ?_⟩
        refine ⟨_, rfl, rfl, _, rfl, ifF (fun z => nomatch z) ?_⟩
        have hx3 := ((hx.ex e0).ex e1).ex (e2.trans e3)
        refine ⟨_, rfl, _, rfl, pm, rfl, ⟨_, SqL.of hpm⟩, fun D hD => ?_⟩
        refine lc_list (K := K) (a := pm) (xs := m.map V.str) (fun i H' => Ex H3 H' ∧ H' D = some (.lst (((m.take i).filter (keepName t pp.1)).map V.str))) ⟨Ex.new hD, upd_same⟩ (fun i H' _ z => SqL.of (z.1 _ _ hpm)) ?_ ?_
        · rintro i2 y H4 hy ⟨e4, hD4⟩
          rw [List.getElem?_map] at hy
          cases ey : m[i2]? with
          | none => rw [ey] at hy; cases hy
          | some z =>
            rw [ey] at hy
            obtain rfl := Option.some.inj hy
            have hil : i2 < m.length := (List.getElem?_eq_some_iff.mp ey).1
            have hfl2 : (((m.take i2).filter (keepName t pp.1)).map V.str).length ≤ m.length := by
              rw [List.length_map]
              exact Nat.le_trans (List.length_filter_le _ _) (by rw [List.length_take]; omega)
            refine ⟨rfl, _, rfl, s1, fun g hg => ?_⟩
            have e5 : Ex H4 (upd H4 g (.tup [.int 3])) := Ex.new hg
            have hv15 := ((hv1.ex e3).ex e4).ex e5
            have hx5 := (hx3.ex e4).ex e5
            rw [hj] at hv15
            have hg5 : Im K (upd H4 g (.tup [.int 3])) (.ref g) (.tuple [.int 3]) := Im.mk1 upd_same (.int 3)
            refine ⟨.tuple [.int j], .tuple [.int 3], hv15.dpv, hg5.dpv, rfl, rfl, _, rfl, ?_⟩
            rw [eqv_path]
            have fin : ∀ b, keepName t pp.1 z = b → (if b = true then ∃ acc, (upd H4 g (.tup [.int 3])) D = some (.lst acc) ∧ acc.length < sizeLine ∧ (Ex H3 (upd (upd H4 g (.tup [.int 3])) D (.lst (acc ++ [.str z]))) ∧ (upd (upd H4 g (.tup [.int 3])) D (.lst (acc ++ [.str z]))) D = some (.lst (((m.take (i2 + 1)).filter (keepName t pp.1)).map V.str)))
                else Ex H3 (upd H4 g (.tup [.int 3])) ∧ (upd H4 g (.tup [.int 3])) D = some (.lst (((m.take (i2 + 1)).filter (keepName t pp.1)).map V.str))) := by
              intro b hb
              have et : (m.take (i2 + 1)).filter (keepName t pp.1) = (m.take i2).filter (keepName t pp.1) ++ (if b = true then [z] else []) := by
                rw [List.take_add_one, ey, List.filter_append]
                show _ ++ List.filter _ [z] = _
                rw [List.filter_cons, hb]
                rfl
              cases b with
              | true => exact iteT ⟨_, e5 _ _ hD4, small1000 (by omega), (e4.trans e5).mut hD, by rw [upd_same, et, List.map_append]; rfl⟩
              | false => exact iteF ⟨e4.trans e5, by rw [e5 _ _ hD4, et, if_neg Bool.false_ne_true, List.append_nil]⟩
            by_cases h3 : j = 3
            · obtain ⟨xb, Ab, eb, rfl⟩ := hj3 h3
              obtain ⟨b4, u4, w1, w2, w3, eb4, hs4, _, hw1, _⟩ := hx5.t4
              cases eb4
              obtain rfl := hw1.s
              refine ifNF h3 ⟨_, rfl, _, rfl, a, _, 1, _, rfl, rfl, hs4, atI_nat (j := 1) rfl, rfl, _, rfl, ?_⟩
              have ek : keepName (.fn xb Ab eb) pp.1 z = !decide (V.str z = V.str xb) := by
                unfold keepName
                rw [hj, h3]
                show (!(decide (([3] : List Int) = [3])) || !(decide (z = xb))) = _
                by_cases hzx : z = xb
                · subst hzx; simp
                · rw [decide_eq_false hzx, decide_eq_false (fun y => hzx (V.str.inj y))]; simp
              have f2 := fin _ ek
              by_cases hb : (!decide (V.str z = V.str xb)) = true
              · rw [if_pos hb] at f2
                exact ifB hb ⟨_, rfl, f2⟩
              · rw [if_neg hb] at f2
                exact ifBF (Bool.eq_false_iff.mpr hb) f2
            · have ek : keepName t pp.1 z = true := by
                unfold keepName
                rw [hj, decide_eq_false (fun y : ([j] : List Int) = [3] => h3 (by injection y))]
                rfl
              have f2 := fin _ ek
              rw [if_pos rfl] at f2
              exact ifNT h3 (iteT ⟨_, rfl, f2⟩)
        · rintro H4 ⟨e4, hD4⟩
          rw [List.length_map, List.take_length] at hD4
          have e24 := e3.trans e4
          have hlf4 := e24 _ _ hlf2
          have hup2 : usePart t pp = m.filter (keepName t pp.1) := by unfold usePart; rw [hm]; rfl
          have hf1 := flat_len hul hn i
          have hf2 := List.length_filter_le (keepName t pp.1) m
          refine ⟨lf, D, _, _, rfl, rfl, hlf4, hD4, sl (by rw [List.length_map, List.length_map]; omega), fun g hg => ?_⟩
          refine ⟨g, _, _, _, rfl, (e2.trans e24).trans (Ex.new hg), Evl.fresh_back ((e0.trans e1).trans (e2.trans e24)) hg, ?_⟩
          rw [upd_same, List.take_add_one, ep, List.map_append, List.flatten_append, List.map_append]
          show _ = some (HO.lst (_ ++ ([usePart t pp] : List (List Str)).flatten.map V.str))
          rw [hup2]
          simp
    · rintro σ H2 ⟨lf, o2, o3, o4, rfl, e2, hlfn, hlf2⟩
      have hxl : xs.length = t.parts.length := by rw [hxs.len, List.length_map]
      rw [hxl, List.take_length, ← hlf] at hlf2
      refine ⟨_, rfl, lf, l, rfl, SqL.of hlf2, nodupB_nodup hnd, by omega, _, rfl, _, _, rfl, .inl ⟨_, SqL.of hlf2, rfl⟩, rfl, _, rfl, ifT (by rw [List.length_map]) ⟨_, rfl, ?_⟩⟩
      exact q lf H2 ((e0.trans e1).trans e2) hlfn hlf2
/-! ### is_term -/
abbrev sIsTerm : Stmt := top 29
theorem scIsTerm : FnScope ["value"] ["value"] (defScope sIsTerm) := ⟨rfl, rfl, rfl, by decide +kernel, rfl, by decide +kernel, by decide +kernel⟩
def spIsTerm (K : PySem.W.Frag) : Sp := fun vs H Q _ => ∃ (x : V) (t : Tm) (l : List Str), vs = [x] ∧ Im K H x t.d ∧ t.ok = true ∧ t.size ≤ 400 ∧ t.dep ≤ 20 ∧ t.uses = some l ∧ ∀ H', Ex H H' → Q (.bl true) H'
theorem kn_is_term (GB : Kn P w K mg base "is_built" 4 ["value"] (spBuilt K)) (GU : Kn P w K mg base "uses" 21 ["node"] (spUses K 20)) (S : Src K mg "is_term" sIsTerm ["value"]) : Kn P w K mg base "is_term" 22 ["value"] (spIsTerm K) := by
  refine S.kn scIsTerm (fun vs H Q E h => ?_) (fun f cdv A outer s H vs Q E hr h => ?_)
  · obtain ⟨x, t, l, rfl, _⟩ := h
    rfl
  obtain ⟨x, t, l, rfl, hx, hok, hsz, hdp, hul, q⟩ := h
  refine ⟨_, pss_one (ps_ret (pe_and (pe_kn GB (hr.mono (by decide)) (pa_cons (pv 0) pa_nil)) (pe_one (pe_cmpR op_notN (pe_kn GU hr (pa_cons (pv 0) pa_nil)) pe_non (nomark _))))), ?_⟩
  refine ⟨_, rfl, x, t, rfl, hx, hok, hsz, by omega, fun H1 e1 => ⟨_, rfl, iteT ?_⟩⟩
  refine ⟨_, rfl, x, t, l, rfl, hx.ex e1, hul, hdp, hsz, fun p H2 e2 hf hp => ⟨rfl, ?_⟩⟩
  exact q H2 (e1.trans e2)
end
end Oh

set_option maxHeartbeats 4000000
/-! Oh, part 11: with_name, kind_in, has_kind -/
namespace Oh
open PySem PySem.Spec PyProof.Rows L2
open Evl (Ex)
theorem Kd.lay : ∀ k : Kd, k.d.canLay0 = true
  | .tx => by decide +kernel
  | .to a b => by
    show (PyData.tuple [.str "to", a.d, b.d]).canLay0 = true
    simp only [PyData.canLay0, PyData.canLayAll0, a.lay, b.lay, Bool.and_true]
    decide +kernel
theorem Kd.depth_le : ∀ k : Kd, k.d.depth ≤ k.dep
  | .tx => by decide +kernel
  | .to a b => by
    have h1 := a.depth_le
    have h2 := b.depth_le
    show (PyData.tuple [.str "to", a.d, b.d]).depth ≤ max a.dep b.dep + 1
    simp only [PyData.depth, PyData.depthAll]
    omega
theorem Kd.shaped {k : Kd} (h : k.ends ≤ 60) : SeqAt.shaped k.d = true := by
  have h1 := k.depth_le
  have h2 := k.dep_ends
  unfold SeqAt.shaped
  rw [k.lay, Bool.true_and]
  exact decide_eq_true (by omega)
theorem Kd.eqv (k : Kd) : PyData.eqv k.d k.d = true := PySem.SeqAt.eqv_refl _ k.lay
section
variable {P : Program} {w : World} {K : PySem.W.Frag} {mg : Str → Option Value} {base : Heap}
abbrev ERel (K : PySem.W.Frag) (H : Hp) (kvs : List (Key × V)) (n : KEnv) : Prop := DRel K H (Sum.inr : Str → Key) Kd.d kvs n
/-! ### a copy of names -/
/-- dict(list(names.items())) -/
theorem drel_pairs {H : Hp} {ts : List Addr} {kvs : List (Key × V)} (h : Paired (fun (t : Addr) (q : Key × V) => H t = some (.tup [kV q.1, q.2])) ts kvs) : PairsAt K H ts kvs := L2.Paired.mapP h fun _ _ q => SqT.of q
abbrev sWith : Stmt := top 30
theorem scWith : FnScope ["names", "name", "item", "found"] ["names", "name", "item"] (defScope sWith) := ⟨rfl, rfl, rfl, by decide +kernel, rfl, by decide +kernel, by decide +kernel⟩
def spWith (K : PySem.W.Frag) : Sp := fun vs H Q _ => ∃ (d : Addr) (kvs : List (Key × V)) (n : KEnv) (z : Str) (x : V) (A : Kd), vs = [.ref d, .str z, x] ∧ H d = some (.dK kvs) ∧ ERel K H kvs n ∧ (n.map (·.1)).Nodup ∧ n.length ≤ 500 ∧ Im K H x A.d ∧
  ∀ p kvs' H', Ex H H' → H p = none → H' p = some (.dK kvs') → ERel K H' kvs' (putA n z A) → Q (.ref p) H'
theorem kn_with (B : Std mg) (S : Src K mg "with_name" sWith ["names", "name", "item"]) : Kn P w K mg base "with_name" 1 ["names", "name", "item"] (spWith K) := by
  refine S.kn scWith (fun vs H Q E h => ?_) (fun f cdv A outer s H vs Q E hr h => ?_)
  · obtain ⟨d, kvs, n, z, x, A, rfl, _⟩ := h
    rfl
  obtain ⟨d, kvs, n, z, x, A, rfl, hd, hn, hnd, hlen, hx, q⟩ := h
  have hu := hu_of hr
  refine ⟨_, pss_cons (ps_set (i := 3) scWith.nd rfl (.inl rfl) (pe_callTy (call_dictP (by rfl)) rfl B.dict (by decide +kernel) (pa_cons (LiI.pe_listItems (by rfl) (pv 0) rfl B.list (by decide +kernel)) pa_nil)))
    (pss_cons (ps_dput hu (pv 3) (pv 1) (pv 2) rfl)
    (pss_one (ps_ret (pv 3)))), ?_⟩
  refine ⟨_, rfl, d, kvs, rfl, hd, fun H1 p ts e1 hp hts hpt hp1 hpair => ?_⟩
  refine ⟨p, ts, kvs, rfl, SqL.of hp1, drel_pairs hpair, fun g hg => ?_⟩
  have hnk : (kvs.map (·.1)).Nodup := by rw [hn.keys]; exact nodup_f inr_inj hnd
  rw [merge_nil hnk]
  have e2 : Ex H1 (upd H1 g (.dK kvs)) := Ex.new hg
  have e12 : Ex H (upd H1 g (.dK kvs)) := Ex.trans (H1 := H1) e1 e2
  refine ⟨_, rfl, _, rfl, _, rfl, g, _, rfl, DPut.k (k := Sum.inr z) upd_same (small1000 (by rw [hn.len]; omega)), _, rfl, ?_⟩
  have hgH : H g = none := Evl.fresh_back (show Ex H H1 from e1) hg
  have t3 : Tk K (upd H1 g (.dK kvs)) (upd (upd H1 g (.dK kvs)) g (.dK (putK kvs (Sum.inr z) x))) := Tk.upd (nt_dK upd_same)
  exact q g _ _ (e12.mut hgH) hgH upd_same (((hn.up (tk e12)).up t3).put inr_inj ((hx.ex e12).up t3) hnd)
/-! ### kind_in -/
abbrev sKindIn : Stmt := top 31
theorem scKindIn : FnScope ["node", "names", "word", "found", "first"] ["node", "names"] (defScope sKindIn) := ⟨rfl, rfl, rfl, by decide +kernel, rfl, by decide +kernel, by decide +kernel⟩
def spKindIn (K : PySem.W.Frag) (m : Nat) : Sp := fun vs H Q _ => ∃ (x : V) (t : Tm) (d : Addr) (kvs : List (Key × V)) (n : KEnv) (k : Kd), vs = [x, .ref d] ∧ Im K H x t.d ∧ H d = some (.dK kvs) ∧ ERel K H kvs n ∧ (n.map (·.1)).Nodup ∧ n.length + t.size ≤ 500 ∧ (∀ p ∈ n, p.2.ends ≤ 60) ∧ t.ok = true ∧ t.kind n = some k ∧ t.dep ≤ m ∧
  ∀ r H', Ex H H' → Im K H' r k.d → Q r H'
theorem put_ends {n : KEnv} {z : Str} {A : Kd} (h : ∀ p ∈ n, p.2.ends ≤ 60) (hA : A.ends ≤ 60) : ∀ p ∈ putA n z A, p.2.ends ≤ 60 := by
  induction n with
  | nil =>
    intro p hp
    rw [List.mem_singleton.mp hp]
    exact hA
  | cons q r ih =>
    intro p hp
    unfold putA at hp
    split at hp
    · rcases List.mem_cons.mp hp with rfl | hp
      · exact hA
      · exact h p (List.mem_cons_of_mem _ hp)
    · rcases List.mem_cons.mp hp with rfl | hp
      · exact h _ List.mem_cons_self
      · exact ih (fun q hq => h q (List.mem_cons_of_mem _ hq)) p hp
theorem Tm.kind_ends : ∀ (t : Tm) (n : KEnv) (k : Kd), t.kind n = some k → t.ok = true → (∀ p ∈ n, p.2.ends ≤ 60) → k.ends ≤ 60 := by
  intro t
  induction t with
  | nm x => intro n k h _ hn; exact hn _ (lookA_some h)
  | fn x A e ih =>
    intro n k h hok hn
    unfold Tm.kind at h
    cases he : e.kind (putA n x A) with
    | none => rw [he] at h; cases h
    | some k' =>
      rw [he] at h
      simp only at h
      split at h
      · rename_i hle
        obtain rfl := Option.some.inj h
        exact hle
      · cases h
  | cl e f ih1 ih2 =>
    intro n k h hok hn
    have hok' := Bool.and_eq_true_iff.mp (show (e.ok && f.ok) = true from hok)
    unfold Tm.kind at h
    split at h
    · rename_i A B he
      split at h
      · obtain rfl := Option.some.inj h
        have := ih1 n _ he hok'.1 hn
        have h2 : A.ends + B.ends ≤ 60 := this
        omega
      · cases h
    · cases h
  | pt b e ih =>
    intro n k h hok hn
    unfold Tm.kind at h
    split at h
    · obtain rfl := Option.some.inj h
      exact by decide
    · cases h
  | en => intro n k h _ _; obtain rfl := Option.some.inj h; exact by decide
theorem kn_kind_in (C : Cst K mg w) (GW : Kn P w K mg base "with_name" 1 ["names", "name", "item"] (spWith K)) (GK : Kn P w K mg base "is_kind" 2 ["value"] (spIsKind K)) (S : Src K mg "kind_in" sKindIn ["node", "names"]) : ∀ m : Nat, Kn P w K mg base "kind_in" (m + 2) ["node", "names"] (spKindIn K m)
  | 0 => S.kn0 fun vs H Q E h => by
    obtain ⟨x, t, _, _, _, _, _, _, _, _, _, _, _, _, _, hd, _⟩ := h
    cases t <;> simp [Tm.dep] at hd
  | m + 1 => by
    have G := kn_kind_in C GW GK S m
    obtain ⟨aT, mT, hT⟩ := C.text
    refine S.kn scKindIn (fun vs H Q E h => ?_) (fun f cdv A outer s H vs Q E hr h => ?_)
    · obtain ⟨x, t, d, kvs, n, k, rfl, _⟩ := h
      rfl
    obtain ⟨x, t, d, kvs, n, k, rfl, hx, hd, hn, hnd, hlen, hends, hok, hk, hdp, q⟩ := h
    have hu := hu_of hr
    refine ⟨_, pss_cons (ps_set (i := 2) scKindIn.nd rfl (.inl rfl) (pe_ix ix_tup (pv 0) pe_int (fun _ _ => rfl)))
      (pss_cons (ps_if (pt_cmpR op_eq (pv 2) pe_str (nomark _)) (pss_one (ps_ret (pe_dget1 hu (pv 1) (pe_ix ix_tup (pv 0) pe_int (fun _ _ => rfl)) ⟨by rfl, by rfl, by rfl, by rfl⟩))) pss_nil)
      (pss_cons (ps_if (pt_cmpR op_eq (pv 2) pe_str (nomark _)) (pss_one (ps_ret (pe_glob (v := .ref aT) rfl mT rfl))) pss_nil)
      (pss_cons (ps_if (pt_cmpR op_eq (pv 2) pe_str (nomark _)) (pss_one (ps_ret (pe_ifExp (pt_cmpR (op_eqD hr.units) (pe_kn G hr (pa_cons (pe_ix ix_tup (pv 0) pe_int (fun _ _ => rfl)) (pa_cons (pv 1) pa_nil))) (pe_glob (v := .ref aT) rfl mT rfl) (nomark _)) (pe_glob (v := .ref aT) rfl mT rfl) pe_non))) pss_nil)
      (pss_cons (ps_if (pt_cmpR op_eq (pv 2) pe_str (nomark _))
        (pss_cons (ps_set (i := 3) scKindIn.nd rfl (.inl rfl) (pe_kn G hr (pa_cons (pe_ix ix_tup (pv 0) pe_int (fun _ _ => rfl)) (pa_cons (pe_kn GW (hr.mono (by omega)) (pa_cons (pv 1) (pa_cons (pe_ix ix_tup (pv 0) pe_int (fun _ _ => rfl)) (pa_cons (pe_ix ix_tup (pv 0) pe_int (fun _ _ => rfl)) pa_nil)))) pa_nil))))
        (pss_one (ps_ret (pe_ifExp (PW.pt (pw_and (pt_cmpR op_notN (pv 3) pe_non (nomark _)) (pw_and1 (pt_val (pe_kn GK (hr.mono (by omega)) (pa_cons (pe_tup (pa_cons pe_str (pa_cons (pe_ix ix_tup (pv 0) pe_int (fun _ _ => rfl)) (pa_cons (pv 3) pa_nil)))) pa_nil))))))
          (pe_tup (pa_cons pe_str (pa_cons (pe_ix ix_tup (pv 0) pe_int (fun _ _ => rfl)) (pa_cons (pv 3) pa_nil)))) pe_non)))) pss_nil)
      (pss_cons (ps_set (i := 4) scKindIn.nd rfl (.inl rfl) (pe_kn G hr (pa_cons (pe_ix ix_tup (pv 0) pe_int (fun _ _ => rfl)) (pa_cons (pv 1) pa_nil))))
      (pss_cons (ps_if (PW.pt (pw_or (pt_cmpR op_isN (pv 4) pe_non (nomark _)) (pw_or1 (pt_cmpR op_ne (pe_ix ix_tup (pv 4) pe_int (fun _ _ => rfl)) pe_str (nomark _))))) (pss_one (ps_ret pe_non)) pss_nil)
      (pss_one (ps_ret (pe_ifExp (pt_cmpR (op_eqD hr.units) (pe_kn G hr (pa_cons (pe_ix ix_tup (pv 0) pe_int (fun _ _ => rfl)) (pa_cons (pv 1) pa_nil))) (pe_ix ix_tup (pv 4) pe_int (fun _ _ => rfl)) (nomark _)) (pe_ix ix_tup (pv 4) pe_int (fun _ _ => rfl)) pe_non))))))))), ?_⟩
    have s3 : 3 ≤ sizeLine := by decide
    have hTx : ∀ H', Im K H' (.ref aT) Kd.tx.d := fun H' => .tup (hT H') (.cons (.str _) .nil)
    obtain ⟨a, r, rfl, hs, _⟩ := Tm.node hx
    refine ⟨_, rfl, a, _, 0, _, rfl, rfl, hs, atI_nat (j := 0) rfl, _, rfl, rfl, _, rfl, ?_⟩
    cases t with
    | nm z =>
      obtain ⟨b, u, v, eb, hs', _, h1⟩ := hx.t2
      cases eb
      obtain rfl := h1.s
      obtain ⟨v, hv1, hv2⟩ := hn.get inr_inj (show lookA n z = some k from hk)
      refine ifT rfl ⟨_, rfl, d, rfl, .inl ⟨_, .inl hd⟩, _, rfl, a, _, 1, _, rfl, rfl, hs', atI_nat (j := 1) rfl, some v, by rw [← hv1]; exact DGet.k (k := Sum.inr z) hd, ?_⟩
      exact q v H (Ex.refl H) hv2
    | en =>
      obtain rfl := Option.some.inj hk
      exact ifF (vne rfl) ⟨_, rfl, rfl, _, rfl, ifT rfl (q _ H (Ex.refl H) (hTx H))⟩
    | pt b0 e =>
      obtain ⟨b, u, v1, v2, eb, hs', _, h1, h2⟩ := hx.t3
      cases eb
      unfold Tm.kind at hk
      by_cases hek : e.kind n = some .tx
      · rw [if_pos hek] at hk
        obtain rfl := Option.some.inj hk
        have hok' := Bool.and_eq_true_iff.mp (show (isLetter b0 && e.ok) = true from hok)
        have hsz : n.length + (e.size + 1) ≤ 500 := hlen
        have hdp' : e.dep + 1 ≤ m + 1 := hdp
        refine ifF (vne rfl) ⟨_, rfl, rfl, _, rfl, ifF (vne rfl) ⟨_, rfl, rfl, _, rfl, ifT rfl ⟨_, rfl, a, _, 2, _, rfl, rfl, hs', atI_nat (j := 2) rfl, _, rfl, v2, e, d, kvs, n, .tx, rfl, h2, hd, hn, hnd, by omega, hends, hok'.2, hek, by omega, fun rv H1 e1 hr1 => ?_⟩⟩⟩
        refine ⟨_, _, hr1.dpv, (hTx H1).dpv, Kd.shaped (by decide), Kd.shaped (by decide), _, rfl, ifB (Kd.eqv .tx) (q _ H1 e1 (hTx H1))⟩
      · rw [if_neg hek] at hk; cases hk
    | fn z A e =>
      obtain ⟨b, u, v1, v2, v3, eb, hs', _, h1, h2, h3⟩ := hx.t4
      cases eb
      obtain rfl := h1.s
      unfold Tm.kind at hk
      cases he : e.kind (putA n z A) with
      | none => rw [he] at hk; cases hk
      | some k' =>
        rw [he] at hk
        simp only at hk
        split at hk
        · rename_i hle
          obtain rfl := Option.some.inj hk
          have hok' := Bool.and_eq_true_iff.mp (show ((isName z && decide (A.ends ≤ 60)) && e.ok) = true from hok)
          have hA := of_decide_eq_true (Bool.and_eq_true_iff.mp hok'.1).2
          have hsz : n.length + (e.size + 1) ≤ 500 := hlen
          have hdp' : e.dep + 1 ≤ m + 1 := hdp
          have hpl := len_put (a := z) (b := A) (L := n)
          refine ifF (vne rfl) ⟨_, rfl, rfl, _, rfl, ifF (vne rfl) ⟨_, rfl, rfl, _, rfl, ifF (vne rfl) ⟨_, rfl, rfl, _, rfl, ifT rfl ?_⟩⟩⟩
          refine ⟨_, rfl, a, _, 3, _, rfl, rfl, hs', atI_nat (j := 3) rfl, _, rfl, _, rfl, a, _, 1, _, rfl, rfl, hs', atI_nat (j := 1) rfl, _, rfl, a, _, 2, _, rfl, rfl, hs', atI_nat (j := 2) rfl, ?_⟩
          refine ⟨d, kvs, n, z, v2, A, rfl, hd, hn, hnd, by omega, h2, fun p kvs' H1 e1 hfp hp hn1 => ?_⟩
          refine ⟨v3, e, p, kvs', putA n z A, k', rfl, h3.ex e1, hp, hn1, nodup_put hnd, by omega, put_ends hends hA, hok'.2, he, by omega, fun rv H2 e2 hr2 => ?_⟩
          have e12 := e1.trans e2
          have hrn : rv ≠ .non := by
            intro z
            rw [z] at hr2
            cases k' <;> cases hr2
          refine ⟨_, rfl, rfl, _, rfl, ifNT hrn ?_⟩
          refine ⟨_, rfl, a, _, 2, _, rfl, rfl, tk e12 _ _ hs', atI_nat (j := 2) rfl, _, rfl, s3, fun g hg => ?_⟩
          have e3 : Ex H2 (upd H2 g (.tup [.str "to", v2, rv])) := Ex.new hg
          have hto : Im K (upd H2 g (.tup [.str "to", v2, rv])) (.ref g) (Kd.to A k').d := Im.mk3 upd_same (.str _) (h2.ex (e12.trans e3)) (hr2.ex e3)
          refine ⟨_, .to A k', rfl, hto, hle, fun H4 e4 => ⟨_, rfl, iteT ?_⟩⟩
          have e14 := (e12.trans e3).trans e4
          refine ⟨_, rfl, a, _, 2, _, rfl, rfl, tk e14 _ _ hs', atI_nat (j := 2) rfl, _, rfl, s3, fun g2 hg2 => ?_⟩
          have e5 : Ex H4 (upd H4 g2 (.tup [.str "to", v2, rv])) := Ex.new hg2
          exact q _ _ (e14.trans e5) (Im.mk3 upd_same (.str _) (h2.ex (e14.trans e5)) (hr2.ex ((e3.trans e4).trans e5)))
        · cases hk
    | cl e f =>
      obtain ⟨b, u, v1, v2, eb, hs', _, h1, h2⟩ := hx.t3
      cases eb
      have hok' := Bool.and_eq_true_iff.mp (show (e.ok && f.ok) = true from hok)
      unfold Tm.kind at hk
      split at hk
      · rename_i A0 B0 he
        split at hk
        · rename_i hf
          obtain rfl := Option.some.inj hk
          have hsz : n.length + (e.size + f.size + 1) ≤ 500 := hlen
          have hdp' : max e.dep f.dep + 1 ≤ m + 1 := hdp
          have hAB : A0.ends + B0.ends ≤ 60 := Tm.kind_ends e n _ he hok'.1 hends
          refine ifF (vne rfl) ⟨_, rfl, rfl, _, rfl, ifF (vne rfl) ⟨_, rfl, rfl, _, rfl, ifF (vne rfl) ⟨_, rfl, rfl, _, rfl, ifF (vne rfl) ?_⟩⟩⟩
          refine ⟨_, rfl, a, _, 1, _, rfl, rfl, hs', atI_nat (j := 1) rfl, _, rfl, v1, e, d, kvs, n, .to A0 B0, rfl, h1, hd, hn, hnd, by omega, hends, hok'.1, he, by omega, fun rv H1 e1 hr1 => ?_⟩
          obtain ⟨pk, w0, va, vb, rfl, hsk, hw0, hva, hvb⟩ := hr1.t3
          obtain rfl := hw0.s
          refine ⟨_, rfl, rfl, _, rfl, ifF (fun z => nomatch z) ⟨_, rfl, pk, _, 0, _, rfl, rfl, hsk, atI_nat (j := 0) rfl, rfl, _, rfl, ifNF rfl ?_⟩⟩
          refine ⟨_, rfl, a, _, 2, _, rfl, rfl, tk e1 _ _ hs', atI_nat (j := 2) rfl, _, rfl, v2, f, d, kvs, n, A0, rfl, h2.ex e1, e1 _ _ hd, hn.up (tk e1), hnd, by omega, hends, hok'.2, hf, by omega, fun rf H2 e2 hr2 => ?_⟩
          refine ⟨_, rfl, pk, _, 1, _, rfl, rfl, tk e2 _ _ hsk, atI_nat (j := 1) rfl, _, _, hr2.dpv, (hva.ex e2).dpv, Kd.shaped (by omega), Kd.shaped (by omega), _, rfl, ifB (Kd.eqv A0) ?_⟩
          exact ⟨_, rfl, pk, _, 2, _, rfl, rfl, tk e2 _ _ hsk, atI_nat (j := 2) rfl, q _ H2 (e1.trans e2) (hvb.ex e2)⟩
        · cases hk
      · cases hk
/-! ### has_kind -/
abbrev sHas : Stmt := top 48
theorem scHas : FnScope ["value", "kind"] ["value", "kind"] (defScope sHas) := ⟨rfl, rfl, rfl, by decide +kernel, rfl, by decide +kernel, by decide +kernel⟩
def spHas (K : PySem.W.Frag) : Sp := fun vs H Q _ => ∃ (x y : V) (t : Tm) (k : Kd), vs = [x, y] ∧ Im K H x t.d ∧ Im K H y k.d ∧ t.has k = true ∧ t.dep ≤ 20 ∧ ∀ H', Ex H H' → Q (.bl true) H'
theorem kn_has (GT : Kn P w K mg base "is_term" 22 ["value"] (spIsTerm K)) (GK : Kn P w K mg base "kind_in" 22 ["node", "names"] (spKindIn K 20)) (S : Src K mg "has_kind" sHas ["value", "kind"]) : Kn P w K mg base "has_kind" 23 ["value", "kind"] (spHas K) := by
  refine S.kn scHas (fun vs H Q E h => ?_) (fun f cdv A outer s H vs Q E hr h => ?_)
  · obtain ⟨x, y, t, k, rfl, _⟩ := h
    rfl
  obtain ⟨x, y, t, k, rfl, hx, hy, hh, hdp, q⟩ := h
  refine ⟨_, pss_one (ps_ret (pe_and (pe_kn GT hr (pa_cons (pv 0) pa_nil)) (pe_one (pe_cmpR (op_eqD hr.units) (pe_kn GK hr (pa_cons (pv 0) (pa_cons pe_dnewK pa_nil))) (pv 1) (nomark _))))), ?_⟩
  unfold Tm.has at hh
  simp only [Bool.and_eq_true, decide_eq_true_eq] at hh
  obtain ⟨⟨⟨⟨hok, hsz⟩, hd60⟩, hus⟩, hk⟩ := hh
  obtain ⟨l, hl⟩ := Option.isSome_iff_exists.mp hus
  have hke : k.ends ≤ 60 := Tm.kind_ends t [] k hk hok fun p hp => (nomatch hp)
  refine ⟨_, rfl, x, t, l, rfl, hx, hok, hsz, hdp, hl, fun H1 e1 => ⟨_, rfl, iteT ?_⟩⟩
  refine ⟨_, rfl, fun d hd => ?_⟩
  have e2 : Ex H1 (upd H1 d (.dK [])) := Ex.new hd
  refine ⟨x, t, d, [], [], k, rfl, hx.ex (e1.trans e2), upd_same, .nil, List.nodup_nil, by simp; omega, fun p hp => (nomatch hp), hok, hk, hdp, fun r H3 e3 hr3 => ?_⟩
  refine ⟨_, rfl, _, _, hr3.dpv, (hy.ex ((e1.trans e2).trans e3)).dpv, Kd.shaped hke, Kd.shaped hke, ?_⟩
  rw [Kd.eqv]
  exact q H3 ((e1.trans e2).trans e3)
end
end Oh

set_option maxHeartbeats 4000000
/-! Oh, part 12: rules of its own for the layer: extend by a list or a tuple, {(a, b): v}, sorted by a def's key -/
namespace Oh
open PySem PySem.Spec PyProof.Rows L2
open Evl (Ex)
/-! ### xs.extend(list or tuple) -/
open AutoSeq1 (wpAny_loadPart' idx_int) in
theorem extend_tup (l : Addr) (items : Array Value) (n : Nat) (b : Addr) (more : Array Value) (n2 : Nat) (dd : Option Addr) (sl2 : Array (Option Value)) (h0 : ¬(!items.isEmpty && Builtin.List.listTooLong (items.size + more.size)) = true) (h1 : items.size ≤ sizeLine) (h2 : items.size + more.size ≤ sizeLine + 1) :
    Meets (Builtin.«list.extend» ⟨[.ref l, .ref b], []⟩) (fun _ R s => s.heap.get? l = some { cls := .type "list", dict := none, data := .seq items n, slots := #[] } ∧ s.heap.get? b = some { cls := .type "tuple", dict := dd, data := .seq more n2, slots := sl2 } ∧ R (.ok (.ret .none)) { s with heap := s.heap.update l (Obj.mapSeq fun x => x ++ more), toks := s.toks }) :=
  .of_wp fun prog w A R s h => by
    obtain ⟨hp, g, d, tk, os⟩ := s; obtain ⟨hl, hb, h⟩ := h; have f1 := idx_int; have f2 := AutoSeq1.sub_tuple_tuple; have f3 := AutoSeq1.sub_list_list; have f4 := AutoSeq1.sub_tuple_list; have f5 := AutoSeq1.sub_list_tuple
    have hz' : (items ++ more).size ≤ sizeLine + 1 := by rw [Array.size_append]; exact h2
    wp_walk using (wpAny_updateSeq hl rfl (hz := h1) (_hz' := hz')), wpAny_loadPart' hl, wpAny_loadPart' hb; exact ⟨_, by rfl, h⟩
section
variable {X : Cx}
def rExtendT (K : PySem.W.Frag) : V → List V → Hp → VK → Prop := fun x vs H Q => ∃ l b xs zs, x = .ref l ∧ vs = [.ref b] ∧ H l = some (.lst xs) ∧ SqT K H b zs ∧ xs.length + zs.length ≤ sizeLine ∧ Q .non (upd H l (.lst (xs ++ zs)))
theorem mt_extendT : MtM X "list.extend" (rExtendT X.K) := by
  intro pins s σ H x vs v us Q I rx rv h
  obtain ⟨l, b, xs, zs, rfl, rfl, hH, hB, hz, q⟩ := h
  cases rx
  obtain ⟨u, rfl, ru⟩ := rv.one
  cases ru
  obtain ⟨_, its, n, r, hlen, e⟩ := I.lstM hH
  obtain ⟨its2, r2, ⟨⟨cls, dd, dt, slt⟩, e2, hc2, n2, hdt2⟩, _⟩ := I.tuple hB
  simp only at hc2 hdt2
  subst hc2 hdt2
  have hsz : its.toArray.size + its2.toArray.size ≤ sizeLine := by rw [List.size_toArray, List.size_toArray, ← r.length, ← r2.length]; exact hz
  refine call_meets PySem.F.slot_list_extend ⟨_, e, rfl⟩ PySem.F.entry_list_extend (PySem.F.args_list_extend_2 _ _) (extend_tup l its.toArray n b its2.toArray n2 dd slt (by rw [notLongL hsz, Bool.and_false]; exact Bool.false_ne_true) (by omega) (by omega)) ⟨e, e2, ?_⟩
  refine ⟨.non, _, I.lset (its' := its ++ its2) (t' := s.toks) hH e (by simp) (r.append r2) ?_, rfl, q⟩
  rw [List.length_append]
  exact hz
def rExtendA (K : PySem.W.Frag) : V → List V → Hp → VK → Prop := fun x vs H Q => rExtend x vs H Q ∨ rExtendT K x vs H Q
theorem mt_extendA : MtM X "list.extend" (rExtendA X.K) := fun pins s σ H x vs v us Q I rx rv h => h.elim (mt_extend pins s σ H x vs v us Q I rx rv) (mt_extendT pins s σ H x vs v us Q I rx rv)
/-! ### {(a, b): v} -/
def tDispT (tk tv : TE) : TE := fun σ H Q => ∀ p, H p = none → tk σ (upd H p (.dT [])) fun x H1 => tv σ H1 fun y H2 => H2 p = some (.dT []) ∧ ∃ (b : Addr) (ks : List Key), x = .ref b ∧ H2 b = some (.tup (ks.map kV)) ∧ Q (.ref p) (upd H2 p (.dT [(ks, y)]))
def dispQ (p : Addr) (Q : VK) : List (V × V) → Hp → Prop
  | [(x, y)], H2 => H2 p = some (.dT []) ∧ ∃ (b : Addr) (ks : List Key), x = .ref b ∧ H2 b = some (.tup (ks.map kV)) ∧ Q (.ref p) (upd H2 p (.dT [(ks, y)]))
  | _, _ => False
theorem pe_dispT {pos : Pos} {k v : Expr} {tk tv : TE} (hu : X.A.units + 1 < cLine) (hk : PE X k tk) (hv : PE X v tv) : PE X (.Dict [some k] [v] pos) (tDispT tk tv) := by
  refine ⟨fun pins s σ H Q I q => ?_⟩
  have hn := I.hok.fresh (Nat.le_refl s.heap.objs.size)
  have I1 := I.laid (a := s.heap.objs.size) (o := .dT []) (h' := s.heap.push { cls := .type "dict", data := .dict #[] }) (t' := s.toks) (fun _ _ q => Heap.get?_push_of_some _ (by exact q)) (Nat.le_refl _) (dt_empty s.heap I.big)
  have hsh := zip_pairTrees [some k] [v] X.env pos rfl rfl
  rw [PySem.arm_eval_Dict, hsh, dictDisplay_pairs (pairTrees [some k] [v] X.env pos) (by simp [pairTrees]) (by simp [pairTrees])]
  refine wpAny_bind (wpAny_standAt (wpAny_bind (wpAny_subDictH (knd := tupleKind (mixKind X.prog X.w)) (Q := fun d s' => wpAny (model X.prog X.w) X.A (pure (Value.ref d)) (EP X pins σ Q) X.xe s') (show X.A.units < cLine by omega) (by simp [pairTrees]) ?_)))
  refine thn ((pps_cons hk hv (pps_nil (X := X) (pos := pos))).run pins _ σ _ (dispQ s.heap.objs.size Q) I1 (q _ hn)) fun ws s2 ⟨ps, H2, I2, rel, hq⟩ => ?_
  cases rel with
  | nil => exact hq.elim
  | @cons pr wr pl wl r1 rel2 =>
    cases rel2 with
    | cons _ _ => exact hq.elim
    | nil =>
      obtain ⟨x, y⟩ := pr
      obtain ⟨u, w2⟩ := wr
      obtain ⟨e, b, ks, rfl, hb, q2⟩ := hq
      obtain ⟨rx, ry⟩ := r1
      obtain rfl : u = Value.ref b := rx
      obtain ⟨z, hd, xs, rk, dd⟩ := dt_of I2.hok e
      cases rk
      refine ⟨[(ks, b, w2)], ⟨rfl, rfl, key_of I2.hok hb, trivial⟩, dd, fun h' tk' dd' hs => wpAny_pure ⟨.ref s.heap.objs.size, _, ?_, rfl, q2⟩⟩
      obtain ⟨ob, es, ep, hob, h2, h3, h4, _, h5⟩ := dd'
      refine d_write I2 (by rw [e]; exact True.intro) hs ⟨ob, hob⟩ ⟨by show 1 ≤ sizeLine; decide, hd, [(ks, b, w2)], .cons ⟨rfl, ?_, ry⟩ .nil, ob, es, ep, hob, h2, h3, h4, h5⟩
      rw [upd_ne (ne_of hb e (fun z => nomatch z))]
      exact hb
end
end Oh

set_option maxHeartbeats 4000000
/-! Oh, part 13: sorted(xs, key=first_of) -/
namespace Oh
open PySem PySem.Spec PyProof.Rows L2
open Evl (Ex)
abbrev sFirst : Stmt := top 44
theorem scFirst : FnScope ["link"] ["link"] (defScope sFirst) := ⟨rfl, rfl, rfl, by decide +kernel, rfl, by decide +kernel, by decide +kernel⟩
/-- first_of(link), straight from the machine: nothing that stands is touched -/
theorem first_call {P : Program} {w : World} {K : PySem.W.Frag} {A : Around} {s : Shared} {f a : Addr} {fd : FuncData} {items : Array Value} {e : Int} {t : Tok} (F : Fun K "first_of" "first_of" sFirst f fd) (KX : K.In s.heap) (lim : s.heap.NoLimit) (hd : A.depth < recursionLimit) (ht : IsTup s.heap a items) (h0 : items[0]? = some (.int e t)) :
    wpAny (model P w) A (call (.ref f) [.ref a]) (PySem.W.KeyPure (.int e) s) (fun _ _ => False) s := by
  obtain ⟨oc, od, kV, doc, pm, an, cdv, ct, osl, rfl, lk, hcd⟩ := F.ex
  have hb : BindsTo s (PySem.W.fnOf "first_of" "first_of" (defArgs sFirst) (defBody sFirst) (defScope sFirst) .none kV doc pm an cdv ct) ⟨[.ref a], []⟩ [("link", .ref a)] := .of_eq rfl
  have hkind : ∀ y ∈ [(("link" : Str), Value.ref a)], (defScope sFirst).names.lookup y.1 = some .local ∨ ((defScope sFirst).names.lookup y.1 = some .cell ∧ ((cellsFrom (s.heap.objs.size + 1) (defScope sFirst).names []).lookup y.1).isSome = true) := fun y hy => by
    rw [List.mem_singleton.mp hy]
    exact .inl rfl
  refine wpAny_call (codeAny_call_function hd (KX _ _ lk) rfl scFirst.co scFirst.gen rfl (PySem.W.codeRec_of KX hcd) (hb _ _ _ _ ?_))
  refine wpAny_newFunctionEnv_cells scFirst.kind hkind fun env he s1 x => ?_
  subst he
  refine ⟨lim.keeps x.toInCall.keep, codeAny_func ?_⟩
  have hns := x.toInCall.ns
  obtain ⟨h1, tk, rfl, hk1⟩ := x.done
  have ht1 : IsTup h1 a items := by
    obtain ⟨o, ho, hc, n, hdt⟩ := ht
    exact ⟨o, hk1 _ _ ho, hc, n, hdt⟩
  have hsz : 0 < items.size := (Array.getElem?_eq_some_iff.mp h0).1
  refine wpAny_execs_cons (wpAny_Return_some (Subscript_ (wpAny_Name (wpAny_loadName_local (v := .ref a) rfl rfl hns rfl ?_) (by decide))))
  refine wpAny_Constant_int ?_
  refine subscriptTail_builtinR (x := .int e t) (T := "tuple") (id := "tuple.__getitem__") ht1.typeIs PySem.F.slot_tuple_getitem.lookup (PyProof.Rows.getItem_tuple (j := 0) ht1 (by decide) (by decide) ?_ h0 ⟨rfl, ?_⟩) rfl
  · show seqIndex? 0 items.size = some 0
    exact (ixN_seq (n := items.size) (i := 0) (j := 0) (by unfold ixN; rw [if_pos (by decide), if_pos (by omega)]; rfl)).1
  · exact ⟨h1, _, rfl, hk1, Reads.int e t⟩
open PySem.W (EachIs) in
theorem each_refs : ∀ {rows : List (Addr × Int)} {its : List Value}, Vals (rows.map fun r => V.ref r.1) its → EachIs (fun (v : Value) (r : Addr × Int) => v = .ref r.1) its rows
  | [], _, .nil => .nil
  | r :: rows, _, .cons e t => .cons e (each_refs t)
open PySem.W (EachIs) in
theorem refs_each : ∀ {rows : List (Addr × Int)} {its : List Value}, EachIs (fun (v : Value) (r : Addr × Int) => v = .ref r.1) its rows → Vals (rows.map fun r => V.ref r.1) its
  | [], _, .nil => .nil
  | r :: rows, _, .cons e t => .cons e (refs_each t)
def rSortF (K : PySem.W.Frag) (f : Addr) : List V → List V → Hp → VK → Prop := fun vs zs H Q => ∃ (a : Addr) (rows : List (Addr × Int)), vs = [.ref a] ∧ zs = [.ref f] ∧ SqL K H a (rows.map fun r => V.ref r.1) ∧ (∀ r ∈ rows, ∃ more, SqT K H r.1 (.int r.2 :: more)) ∧ rows.length ≤ 1000 ∧
  ∀ (rows' : List (Addr × Int)) (p : Addr), rows'.Perm rows → H p = none → Q (.ref p) (upd H p (.lst (rows'.map fun r => V.ref r.1)))
theorem cr_sortF {X : Cx} {f : Addr} {fd : FuncData} {k : Nat} (F : Fun X.K "first_of" "first_of" sFirst f fd) (hr : Room k X.A) : CallRK X (.builtin "sorted") [Str.ofString "key"] (rSortF X.K f) := by
  intro pins s σ H vs zs us ws Q I r rz h
  obtain ⟨a, rows, rfl, rfl, hs, hrow, hlen, q⟩ := h
  obtain rfl := Vals.ref1 r
  obtain ⟨w1, rfl, e1⟩ := vals1 rz
  obtain rfl : w1 = Value.ref f := e1
  obtain ⟨its, rv, hl, hz⟩ := I.list hs
  have hu := hr.units
  refine PySem.W.sorted_key_data (b := false) (fun r : Addr × Int => .int r.2) hl.isList (each_refs rv) (PySem.W.AllAlike.of fun _ _ => rfl) (PySem.W.Sortable.others fun _ => ⟨(fun z => nomatch z), (fun _ z => nomatch z)⟩) (sl hlen) (fun r _ => by show X.A.units + 2 + 0 < cLine; omega) (PyProof.Rows.ksk_s1 _ _) (fun _ => PyProof.Rows.ksk_l1 _ _) (fun _ => PyProof.Rows.ksk_t1 _ _) ?_ ?_
  · intro v r hv hr1 h1 tk hk
    subst hv
    obtain ⟨more, hm⟩ := hrow r hr1
    obtain ⟨its2, r2, ⟨o, ho, hc, n, hd⟩, _⟩ := I.tuple hm
    cases r2 with
    | @cons _ u _ us2 ru rest =>
      obtain ⟨t, rfl⟩ := ru
      refine first_call (s := { s with heap := h1, toks := tk }) F (I.kIn.keeps hk) (I.nolimit.keeps hk) (show X.A.depth < recursionLimit from hr.depth) ⟨o, hk _ _ ho, hc, n, hd⟩ (t := t) (by simp)
  · intro out c h1 tk hk hfr hnew hol hout
    have hperm : (rows.mergeSort (PySem.W.dataLe false fun r : Addr × Int => .int r.2)).Perm rows := List.mergeSort_perm _ _
    refine ⟨.ref _, upd H (s.heap.objs.size + 1) (.lst ((rows.mergeSort (PySem.W.dataLe false fun r : Addr × Int => .int r.2)).map fun r => V.ref r.1)), I.laid (t' := tk) hk (Nat.le_succ _) ⟨?_, out, c, refs_each hout, hnew⟩, rfl, q _ _ hperm (I.hok.fresh (Nat.le_succ _))⟩
    rw [List.length_map, hperm.length_eq]
    exact sl hlen
end Oh

set_option maxHeartbeats 4000000
/-! Oh, part 14: links between ports -/
namespace Oh
open PySem PySem.Spec PyProof.Rows L2
open Evl (Ex)
/-! ### dicts again, the values told by any relation -/
inductive DR {α β κ : Type} (f : α → κ) (R : V → β → Prop) : List (κ × V) → List (α × β) → Prop
  | nil : DR f R [] []
  | cons {a : α} {b : β} {v : V} {kvs : List (κ × V)} {L : List (α × β)} : R v b → DR f R kvs L → DR f R ((f a, v) :: kvs) ((a, b) :: L)
section
variable {α β κ : Type} [DecidableEq α] [DecidableEq κ] {f : α → κ} {R R' : V → β → Prop} {kvs : List (κ × V)} {L : List (α × β)}
omit [DecidableEq α] [DecidableEq κ] in
theorem DR.imp (h : DR f R kvs L) (t : ∀ v b, R v b → R' v b) : DR f R' kvs L := by
  induction h with
  | nil => exact .nil
  | cons h1 _ ih => exact .cons (t _ _ h1) ih
omit [DecidableEq α] [DecidableEq κ] in
theorem DR.len (h : DR f R kvs L) : kvs.length = L.length := by
  induction h with
  | nil => rfl
  | cons _ _ ih => rw [List.length_cons, List.length_cons, ih]
omit [DecidableEq α] [DecidableEq κ] in
theorem DR.keys (h : DR f R kvs L) : kvs.map (·.1) = L.map fun p => f p.1 := by
  induction h with
  | nil => rfl
  | cons _ _ ih => rw [List.map_cons, List.map_cons, ih]
omit [DecidableEq α] [DecidableEq κ] in
theorem DR.at {i : Nat} {k : κ} {v : V} (h : DR f R kvs L) (e : kvs[i]? = some (k, v)) : ∃ a b, L[i]? = some (a, b) ∧ k = f a ∧ R v b := by
  induction h generalizing i with
  | nil => simp at e
  | @cons a b w kvs L h1 _ ih =>
    cases i with
    | zero => simp at e; obtain ⟨rfl, rfl⟩ := e; exact ⟨a, b, rfl, rfl, h1⟩
    | succ i => simpa using ih (i := i) (by simpa using e)
theorem DR.get (inj : ∀ a b, f a = f b → a = b) {a : α} {b : β} (h : DR f R kvs L) (e : lookA L a = some b) : ∃ v, valV kvs (f a) = some v ∧ R v b := by
  induction h with
  | nil => cases e
  | @cons a' b' v kvs L h1 _ ih =>
    unfold lookA at e
    by_cases q : a' = a
    · rw [if_pos q] at e
      cases e
      exact ⟨v, by rw [valV_pos (by rw [q])], h1⟩
    · rw [if_neg q] at e
      obtain ⟨w, h2, h3⟩ := ih e
      exact ⟨w, by rw [valV_neg (fun z => q (inj _ _ z))]; exact h2, h3⟩
theorem DR.get0 (inj : ∀ a b, f a = f b → a = b) {a : α} (h : DR f R kvs L) (e : lookA L a = none) : valV kvs (f a) = none := by
  induction h with
  | nil => rfl
  | @cons a' b' v kvs L h1 _ ih =>
    unfold lookA at e
    by_cases q : a' = a
    · rw [if_pos q] at e; cases e
    · rw [if_neg q] at e
      rw [valV_neg (fun z => q (inj _ _ z))]
      exact ih e
theorem DR.put (inj : ∀ a b, f a = f b → a = b) {a : α} {b : β} {v : V} (h : DR f R kvs L) (hv : R v b) (nd : (L.map (·.1)).Nodup) : DR f R (putK kvs (f a) v) (putA L a b) := by
  induction h with
  | nil => exact .cons hv .nil
  | @cons a' b' w kvs L h1 h2 ih =>
    unfold putA
    by_cases q : a' = a
    · rw [if_pos q]
      have ndk : (((f a', w) :: kvs).map (·.1)).Nodup := by
        rw [List.map_cons, h2.keys]
        exact nodup_f inj nd
      rw [putK_pos ndk (by rw [q])]
      exact .cons hv h2
    · rw [if_neg q, putK_neg (fun z => q (inj _ _ z))]
      refine .cons h1 (ih ?_)
      rw [List.map_cons, List.nodup_cons] at nd
      exact nd.2
end
/-! ### ports, goals, links in the heap: their tuples are tracked -/
def PortAt (H : Hp) (v : V) (p : Port) : Prop := ∃ b, v = .ref b ∧ H b = some (.tup [.str p.1, .int p.2])
def GoalAt (H : Hp) (v : V) : Option Port → Prop
  | none => v = .non
  | some p => PortAt H v p
def LnkAt (K : PySem.W.Frag) (H : Hp) (v : V) (l : Lnk) : Prop := ∃ a g, v = .ref a ∧ SqT K H a [.str l.1, g] ∧ GoalAt H g l.2
abbrev LRel (K : PySem.W.Frag) (H : Hp) (kvs : List (List Key × V)) (L : Links) : Prop := DR portK (LnkAt K H) kvs L
/-- the tracked tuples stay -/
def Tt (H H' : Hp) : Prop := ∀ a xs, H a = some (.tup xs) → H' a = some (.tup xs)
section
variable {K : PySem.W.Frag} {H H' : Hp}
theorem tt (e : Ex H H') : Tt H H' := fun a xs h => e a _ h
theorem Tt.trans {H1 : Hp} (a : Tt H H1) (b : Tt H1 H') : Tt H H' := fun x o h => b x o (a x o h)
theorem Tt.upd {l : Addr} {o : HO} (h : NT (H l)) : Tt H (upd H l o) := fun a xs q => by
  rw [upd_ne (fun z => by subst z; rw [q] at h; exact h)]
  exact q
theorem PortAt.up {v : V} {p : Port} (h : PortAt H v p) (t : Tt H H') : PortAt H' v p := let ⟨b, e, q⟩ := h; ⟨b, e, t _ _ q⟩
theorem GoalAt.up {v : V} {g : Option Port} (h : GoalAt H v g) (t : Tt H H') : GoalAt H' v g := by
  cases g with
  | none => exact h
  | some p => exact PortAt.up h t
theorem LnkAt.up {v : V} {l : Lnk} (h : LnkAt K H v l) (t : Tt H H') (k : Tk K H H') : LnkAt K H' v l := let ⟨a, g, e, q, r⟩ := h; ⟨a, g, e, k _ _ q, r.up t⟩
theorem lrel_up {kvs : List (List Key × V)} {L : Links} (h : LRel K H kvs L) (t : Tt H H') (k : Tk K H H') : LRel K H' kvs L := h.imp fun _ _ q => q.up t k
theorem PortAt.ex {v : V} {p : Port} (h : PortAt H v p) (e : Ex H H') : PortAt H' v p := h.up (tt e)
theorem GoalAt.ex {v : V} {p : Option Port} (h : GoalAt H v p) (e : Ex H H') : GoalAt H' v p := h.up (tt e)
theorem LnkAt.ex {v : V} {p : Lnk} (h : LnkAt K H v p) (e : Ex H H') : LnkAt K H' v p := h.up (tt e) (tk e)
theorem lrel_ex {kvs : List (List Key × V)} {L : Links} (h : LRel K H kvs L) (e : Ex H H') : LRel K H' kvs L := lrel_up h (tt e) (tk e)
end
section
variable {P : Program} {w : World} {K : PySem.W.Frag} {mg : Str → Option Value} {base : Heap}
/-! ### named_links -/
abbrev sNamed : Stmt := top 35
theorem scNamed : FnScope ["name", "kind", "found", "end", "is_asked", "one", "other"] ["name", "kind"] (defScope sNamed) := ⟨rfl, rfl, rfl, by decide +kernel, rfl, by decide +kernel, by decide +kernel⟩
theorem namedGo_app (z : Str) : ∀ (l : List Bool) (e : Nat) (L : Links) (b : Bool), namedGo z e (l ++ [b]) L = putA (namedGo z e l L) (if b = true then ("", ((e + l.length : Nat) : Int)) else (z, ((e + l.length : Nat) : Int))) ("", some (if b = true then (z, ((e + l.length : Nat) : Int)) else ("", ((e + l.length : Nat) : Int))))
  | [], e, L, b => rfl
  | c :: l, e, L, b => by
    have q := namedGo_app z l (e + 1) (putA L (if c = true then ("", (e : Int)) else (z, (e : Int))) ("", some (if c = true then (z, (e : Int)) else ("", (e : Int))))) b
    have e1 : e + 1 + l.length = e + (c :: l).length := by rw [List.length_cons]; omega
    rw [e1] at q
    exact q
theorem namedGo_nodup (z : Str) : ∀ (l : List Bool) (e : Nat) (L : Links), (L.map (·.1)).Nodup → ((namedGo z e l L).map (·.1)).Nodup
  | [], e, L, h => h
  | c :: l, e, L, h => namedGo_nodup z l (e + 1) _ (nodup_put h)
theorem namedGo_len (z : Str) : ∀ (l : List Bool) (e : Nat) (L : Links), (namedGo z e l L).length ≤ L.length + l.length
  | [], e, L => Nat.le_refl _
  | c :: l, e, L => by
    have h1 := namedGo_len z l (e + 1) (putA L (if c = true then ("", (e : Int)) else (z, (e : Int))) ("", some (if c = true then (z, (e : Int)) else ("", (e : Int)))))
    have h2 := len_put (a := (if c = true then ("", (e : Int)) else (z, (e : Int)) : Port)) (b := (("", some (if c = true then (z, (e : Int)) else ("", (e : Int)))) : Lnk)) (L := L)
    rw [List.length_cons]
    show (namedGo z (e + 1) l _).length ≤ _
    omega
def spNamed (K : PySem.W.Frag) (n : Nat) : Sp := fun vs H Q _ => ∃ (z : Str) (y : V) (k : Kd), vs = [.str z, y] ∧ Im K H y k.d ∧ k.ends ≤ 60 ∧ k.dep ≤ n ∧ ∀ p kvs H', Ex H H' → H p = none → H' p = some (.dT kvs) → LRel K H' kvs (namedLinks z k) → Q (.ref p) H'
theorem kn_named (B : Std mg) (C : Cst K mg w) (n : Nat) (GS : KnD P w K mg base "signs_of" (n + 1) ["kind", "is_asked"] (spSigns K n) [.bl true]) (S : Src K mg "named_links" sNamed ["name", "kind"]) : Kn P w K mg base "named_links" (n + 2) ["name", "kind"] (spNamed K n) := by
  obtain ⟨to, mo⟩ := C.own
  refine S.kn scNamed (fun vs H Q E h => ?_) (fun f cdv A outer s H vs Q E hr h => ?_)
  · obtain ⟨z, y, k, rfl, _⟩ := h
    rfl
  obtain ⟨z, y, k, rfl, hy, hk, hdp, q⟩ := h
  have hu := hu_of hr
  refine ⟨_, pss_cons (ps_set (i := 2) scNamed.nd rfl (.inl rfl) pe_dnewT)
    (pss_cons (ps_for PassesOwn.never rfl (pi_enum (by rfl) B.enumerate (pa_cons (pe_knD GS hr (pa_cons (pv 1) pa_nil)) pa_nil)) (pg_tup (by rfl) (pgs_cons (pg_name (i := 3) scNamed.nd rfl (.inl rfl)) (pgs_cons (pg_name (i := 4) scNamed.nd rfl (.inl rfl)) pgs_nil)))
      (pss_cons (ps_par (i := 5) (j := 6) (by rfl) scNamed.nd rfl rfl (by decide) rfl rfl (pa_cons (pe_tup (pa_cons (pe_glob (v := .str "") rfl mo ⟨_, rfl⟩) (pa_cons (pv 3) pa_nil))) (pa_cons (pe_tup (pa_cons (pv 0) (pa_cons (pv 3) pa_nil))) pa_nil)) (by rfl))
      (pss_one (ps_dput hu (pv 2) (pe_ifExp (pt_val (pv 4)) (pv 5) (pv 6)) (pe_tup (pa_cons pe_str (pa_cons (pe_ifExp (pt_val (pv 4)) (pv 6) (pv 5)) pa_nil))) rfl))))
    (pss_one (ps_ret (pv 2)))), ?_⟩
  have s2 : 2 ≤ sizeLine := by decide
  intro d hd
  have e0 : Ex H (upd H d (.dT [])) := Ex.new hd
  refine ⟨_, rfl, y, k, true, rfl, hy.ex e0, by omega, hdp, fun ls H1 e1 hfl hls => ⟨ls, _, rfl, SqL.of hls, ?_⟩⟩
  have hsl := k.signs_len true
  refine for_it (walk_enum (xs := (k.signs true).map V.bl)) (fun i σ H' => ∃ (kvs : List (List Key × V)) (o3 o4 o5 o6 : Option V), σ = [some (.str z), some y, some (.ref d), o3, o4, o5, o6] ∧ Ex H H' ∧ H' ls = some (.lst ((k.signs true).map V.bl)) ∧ H' d = some (.dT kvs) ∧ LRel K H' kvs (namedGo z 0 ((k.signs true).take i) []))
    ⟨[], none, none, none, none, rfl, e0.trans e1, hls, e1 _ _ upd_same, .nil⟩ (fun i σ H' _ h => ?_) ?_ ?_
  · obtain ⟨_, _, _, _, _, _, _, h, _⟩ := h
    exact SqL.of h
  · rintro i v σ H2 H3 hi ⟨kvs, o3, o4, o5, o6, rfl, e2, hls2, hd2, hrel⟩ ⟨T, x1, x2, rfl, hT, rfl, hx1, hx2⟩
    obtain rfl := Option.some.inj hx1
    have hx2 : ((k.signs true).map V.bl)[i]? = some x2 := hx2
    rw [List.getElem?_map] at hx2
    cases eb : (k.signs true)[i]? with
    | none => rw [eb] at hx2; cases hx2
    | some b =>
      rw [eb] at hx2
      obtain rfl := Option.some.inj hx2
      have hil : i < (k.signs true).length := (List.getElem?_eq_some_iff.mp eb).1
      have e3 : Ex H2 (upd H2 T (.tup [.int (i : Nat), .bl b])) := Ex.new hT
      refine ⟨T, _, rfl, SqT.of upd_same, rfl, _, _, rfl, _, _, rfl, rfl, ?_⟩
      generalize upd H2 T (.tup [.int (i : Nat), .bl b]) = H3 at e3
      refine ⟨_, rfl, s2, fun p5 hp5 => ⟨_, rfl, _, rfl, s2, fun p6 hp6 => ⟨_, _, rfl, ?_⟩⟩⟩
      have e5 : Ex H3 (upd H3 p5 (.tup [.str "", .int (i : Nat)])) := Ex.new hp5
      have e6 : Ex (upd H3 p5 (.tup [.str "", .int (i : Nat)])) (upd (upd H3 p5 (.tup [.str "", .int (i : Nat)])) p6 (.tup [.str z, .int (i : Nat)])) := Ex.new hp6
      have h5 := e6 _ _ (upd_same (H := H3) (a := p5) (o := .tup [.str "", .int (i : Nat)]))
      have h6 : (upd (upd H3 p5 (.tup [.str "", .int (i : Nat)])) p6 (.tup [.str z, .int (i : Nat)])) p6 = some (.tup [.str z, .int (i : Nat)]) := upd_same
      have e36 := (e3.trans e5).trans e6
      generalize upd (upd H3 p5 (.tup [.str "", .int (i : Nat)])) p6 (.tup [.str z, .int (i : Nat)]) = H6 at e36 h5 h6
      have hrel6 := lrel_ex hrel e36
      have hd6 := e36 _ _ hd2
      have hls6 := e36 _ _ hls2
      have hkl : kvs.length < sizeLine := by
        rw [hrel.len]
        have := namedGo_len z ((k.signs true).take i) 0 []
        rw [List.length_take, List.length_nil] at this
        exact small1000 (by omega)
      have ndL : ((namedGo z 0 ((k.signs true).take i) []).map (·.1)).Nodup := namedGo_nodup z _ _ _ List.nodup_nil
      have hl0 : ((k.signs true).take i).length = i := by rw [List.length_take]; omega
      have htk : (k.signs true).take (i + 1) = (k.signs true).take i ++ [b] := by rw [List.take_add_one, eb]; rfl
      have step : ∀ (pk pg : Addr) (kp gp : Port), H6 pk = some (.tup [.str kp.1, .int kp.2]) → H6 pg = some (.tup [.str gp.1, .int gp.2]) → namedGo z 0 ((k.signs true).take (i + 1)) [] = putA (namedGo z 0 ((k.signs true).take i) []) kp ("", some gp) →
          ∀ g, H6 g = none → ∃ H4, DPut (upd H6 g (.tup [.str "", .ref pg])) d (.ref pk) (.ref g) H4 ∧ (∃ kvs', H4 d = some (.dT kvs') ∧ LRel K H4 kvs' (namedGo z 0 ((k.signs true).take (i + 1)) [])) ∧ Ex H H4 ∧ H4 ls = some (.lst ((k.signs true).map V.bl)) := by
        intro pk pg kp gp hpk hpg hgo g hg
        have e7 : Ex H6 (upd H6 g (.tup [.str "", .ref pg])) := Ex.new hg
        have hd7 := e7 _ _ hd6
        have t8 : Tt (upd H6 g (.tup [.str "", .ref pg])) (upd (upd H6 g (.tup [.str "", .ref pg])) d (.dT (putK kvs (portK kp) (.ref g)))) := Tt.upd (nt_dT hd7)
        have k8 : Tk K (upd H6 g (.tup [.str "", .ref pg])) (upd (upd H6 g (.tup [.str "", .ref pg])) d (.dT (putK kvs (portK kp) (.ref g)))) := Tk.upd (nt_dT hd7)
        refine ⟨_, DPut.t (k := portK kp) hd7 (e7 _ _ hpk) hkl, ⟨_, upd_same, ?_⟩, (e2.trans (e36.trans e7)).mut hd, ?_⟩
        · rw [hgo]
          refine (lrel_up (lrel_ex hrel6 e7) t8 k8).put portK_inj ?_ ndL
          exact LnkAt.up ⟨g, .ref pg, rfl, SqT.of upd_same, pg, rfl, e7 _ _ hpg⟩ t8 k8
        · rw [upd_ne (fun y => by rw [y] at hls6; rw [hd6] at hls6; cases hls6)]
          exact e7 _ _ hls6
      have hgo := namedGo_app z ((k.signs true).take i) 0 [] b
      rw [hl0, Nat.zero_add, ← htk] at hgo
      cases b with
      | true =>
        rw [if_pos rfl, if_pos rfl] at hgo
        refine ⟨_, rfl, _, rfl, iteT ⟨_, rfl, s2, fun g hg => ?_⟩⟩
        obtain ⟨H4, hp, ⟨kvs', h1, h2⟩, h3, h4⟩ := step p5 p6 ("", ((i : Nat) : Int)) (z, ((i : Nat) : Int)) h5 h6 hgo g hg
        exact ⟨_, rfl, _, rfl, _, rfl, iteT ⟨_, rfl, d, H4, rfl, hp, kvs', _, _, _, _, rfl, h3, h4, h1, h2⟩⟩
      | false =>
        rw [if_neg Bool.false_ne_true, if_neg Bool.false_ne_true] at hgo
        refine ⟨_, rfl, _, rfl, iteF ⟨_, rfl, s2, fun g hg => ?_⟩⟩
        obtain ⟨H4, hp, ⟨kvs', h1, h2⟩, h3, h4⟩ := step p6 p5 (z, ((i : Nat) : Int)) ("", ((i : Nat) : Int)) h6 h5 hgo g hg
        exact ⟨_, rfl, _, rfl, _, rfl, iteF ⟨_, rfl, d, H4, rfl, hp, kvs', _, _, _, _, rfl, h3, h4, h1, h2⟩⟩
  · rintro σ H2 ⟨kvs, o3, o4, o5, o6, rfl, e2, hls2, hd2, hrel⟩
    rw [List.length_map, List.take_length] at hrel
    exact ⟨_, rfl, q d kvs H2 e2 hd hd2 hrel⟩
end
end Oh

set_option maxHeartbeats 4000000
/-! Oh, part 15: links moved -/
namespace Oh
open PySem PySem.Spec PyProof.Rows L2
open Evl (Ex)
abbrev MRel (K : PySem.W.Frag) (H : Hp) (kvs : List (Key × V)) (m : Moves) : Prop := DRel K H (Sum.inr : Str → Key) portD kvs m
/-- a lock: the dict at d is read alone -/
theorem DGet.tr {H : Hp} {a b : Addr} {kvs : List (List Key × V)} {k : List Key} (e : Rd H a (.dT kvs)) (eb : H b = some (.tup (k.map kV))) : DGet H a (.ref b) (valV kvs k) := .inr ⟨kvs, k, b, e, rfl, eb, rfl⟩
section
variable {P : Program} {w : World} {K : PySem.W.Frag} {mg : Str → Option Value} {base : Heap}
/-! ### moved_port -/
abbrev sMovedP : Stmt := top 36
theorem scMovedP : FnScope ["port", "moves", "name", "far"] ["port", "moves"] (defScope sMovedP) := ⟨rfl, rfl, rfl, by decide +kernel, rfl, by decide +kernel, by decide +kernel⟩
def spMovedP (K : PySem.W.Frag) : Sp := fun vs H Q _ => ∃ (x : V) (g : Option Port) (d : Addr) (kvs : List (Key × V)) (m : Moves), vs = [x, .ref d] ∧ GoalAt H x g ∧ H d = some (.dK kvs) ∧ MRel K H kvs m ∧ ∀ r H', Ex H H' → GoalAt H' r (g.map (movedPort m)) → Q r H'
theorem kn_moved_port (S : Src K mg "moved_port" sMovedP ["port", "moves"]) : Kn P w K mg base "moved_port" 1 ["port", "moves"] (spMovedP K) := by
  refine S.kn scMovedP (fun vs H Q E h => ?_) (fun f cdv A outer s H vs Q E hr h => ?_)
  · obtain ⟨x, g, d, kvs, m, rfl, _⟩ := h
    rfl
  obtain ⟨x, g, d, kvs, m, rfl, hx, hd, hm, q⟩ := h
  have hu := hu_of hr
  refine ⟨_, pss_cons (ps_if (PW.pt (pw_or (pt_cmpR op_isN (pv 0) pe_non (nomark _)) (pw_or1 (pt_cmp (pc_dnotin hu (pe_ix ix_tup (pv 0) pe_int (fun _ _ => rfl)) (pv 1)))))) (pss_one (ps_ret (pv 0))) pss_nil)
    (pss_cons (ps_asg (pe_dget hu (pv 1) (pe_ix ix_tup (pv 0) pe_int (fun _ _ => rfl)) (fun _ _ => rfl)) (pg_tup (by rfl) (pgs_cons (pg_name (i := 2) scMovedP.nd rfl (.inl rfl)) (pgs_cons (pg_name (i := 3) scMovedP.nd rfl (.inl rfl)) pgs_nil))))
    (pss_one (ps_ret (pe_tup (pa_cons (pv 2) (pa_cons (pe_op op_add (pe_ix ix_tup (pv 0) pe_int (fun _ _ => rfl)) (pv 3)) pa_nil)))))), ?_⟩
  cases g with
  | none =>
    obtain rfl : x = .non := hx
    exact ⟨_, rfl, rfl, _, rfl, ifT rfl (iteT ⟨_, rfl, q _ H (Ex.refl H) rfl⟩)⟩
  | some p =>
    obtain ⟨b, rfl, hb⟩ := hx
    refine ⟨_, rfl, rfl, _, rfl, ifF (fun z => nomatch z) ⟨_, rfl, b, _, 0, _, rfl, rfl, SqT.of hb, atI_nat (j := 0) rfl, _, rfl, d, _, rfl, DGet.k (k := Sum.inr p.1) hd, _, rfl, ?_⟩⟩
    cases hl : lookA m p.1 with
    | none =>
      rw [hm.get0 inr_inj hl]
      refine iteT ⟨_, rfl, q _ H (Ex.refl H) ?_⟩
      have e : movedPort m p = p := by unfold movedPort; rw [hl]
      show GoalAt H _ (some (movedPort m p))
      rw [e]
      exact ⟨b, rfl, hb⟩
    | some nf =>
      obtain ⟨v, hv, hvp⟩ := hm.get inr_inj hl
      rw [hv]
      obtain ⟨c, y1, y2, rfl, hs, h1, h2⟩ := hvp.t2
      obtain rfl := h1.s
      obtain rfl := h2.i
      refine iteF ⟨_, rfl, _, rfl, b, _, 0, _, rfl, rfl, SqT.of hb, atI_nat (j := 0) rfl, d, _, rfl, by rw [← hv]; exact DGet.k (k := Sum.inr p.1) hd, c, _, rfl, hs, rfl, _, _, rfl, _, _, rfl, rfl, ?_⟩
      refine ⟨_, rfl, _, rfl, b, _, 1, _, rfl, rfl, SqT.of hb, atI_nat (j := 1) rfl, _, rfl, _, _, rfl, rfl, by show 2 ≤ sizeLine; decide, fun g hg => ?_⟩
      refine q _ _ (Ex.new hg) ?_
      have e : movedPort m p = (nf.1, p.2 + nf.2) := by unfold movedPort; rw [hl]
      show GoalAt _ _ (some (movedPort m p))
      rw [e]
      exact ⟨g, rfl, upd_same⟩
/-! ### moved_links -/
abbrev sMovedL : Stmt := top 37
theorem scMovedL : FnScope ["links", "moves", "found", "port", "word", "goal"] ["links", "moves"] (defScope sMovedL) := ⟨rfl, rfl, rfl, by decide +kernel, rfl, by decide +kernel, by decide +kernel⟩
def moveStep (m : Moves) (acc : Links) (q : Port × Lnk) : Links := putA acc (movedPort m q.1) (q.2.1, q.2.2.map (movedPort m))
theorem moved_nodup (m : Moves) : ∀ (L acc : Links), (acc.map (·.1)).Nodup → ((L.foldl (moveStep m) acc).map (·.1)).Nodup
  | [], acc, h => h
  | q :: L, acc, h => moved_nodup m L _ (nodup_put h)
theorem moved_len (m : Moves) : ∀ (L acc : Links), (L.foldl (moveStep m) acc).length ≤ acc.length + L.length
  | [], acc => Nat.le_refl _
  | q :: L, acc => by
    have h1 := moved_len m L (moveStep m acc q)
    have h2 : (moveStep m acc q).length ≤ acc.length + 1 := len_put
    rw [List.length_cons]
    show (L.foldl (moveStep m) (moveStep m acc q)).length ≤ _
    omega
def spMovedL (K : PySem.W.Frag) : Sp := fun vs H Q _ => ∃ (dl d : Addr) (kvl : List (List Key × V)) (L : Links) (kvs : List (Key × V)) (m : Moves), vs = [.ref dl, .ref d] ∧ H dl = some (.dT kvl) ∧ LRel K H kvl L ∧ (L.map (·.1)).Nodup ∧ L.length ≤ 200 ∧ H d = some (.dK kvs) ∧ MRel K H kvs m ∧
  ∀ p kv' H', Ex H H' → H p = none → H' p = some (.dT kv') → LRel K H' kv' (movedLinks m L) → Q (.ref p) H'
/-- behind a lock -/
theorem Ex.unlock {H H' : Hp} {d : Addr} {u o : HO} (h : H d = some u) (e : Ex (upd H d o) H') : Ex H (upd H' d u) := fun b ob hb => by
  by_cases z : b = d
  · subst z
    rw [upd_same]
    rw [h] at hb
    exact hb
  · rw [upd_ne z]
    exact e b ob (by rw [upd_ne z]; exact hb)
theorem kn_moved_links (G : Kn P w K mg base "moved_port" 1 ["port", "moves"] (spMovedP K)) (S : Src K mg "moved_links" sMovedL ["links", "moves"]) : Kn P w K mg base "moved_links" 2 ["links", "moves"] (spMovedL K) := by
  refine S.kn scMovedL (fun vs H Q E h => ?_) (fun f cdv A outer s H vs Q E hr h => ?_)
  · obtain ⟨dl, d, kvl, L, kvs, m, rfl, _⟩ := h
    rfl
  obtain ⟨dl, d, kvl, L, kvs, m, rfl, hdl, hL, hnd, hlen, hd, hm, q⟩ := h
  have hu := hu_of hr
  refine ⟨_, pss_cons (ps_set (i := 2) scMovedL.nd rfl (.inl rfl) pe_dnewT)
    (pss_cons (ps_lock (ps_for PassesOwn.never rfl (pi_keys (pv 0)) (pg_name (i := 3) scMovedL.nd rfl (.inl rfl))
      (pss_cons (ps_asg (pe_dget hu (pv 0) (pv 3) (fun _ _ => rfl)) (pg_tup (by rfl) (pgs_cons (pg_name (i := 4) scMovedL.nd rfl (.inl rfl)) (pgs_cons (pg_name (i := 5) scMovedL.nd rfl (.inl rfl)) pgs_nil))))
      (pss_one (ps_dput hu (pv 2) (pe_kn G hr (pa_cons (pv 3) (pa_cons (pv 1) pa_nil))) (pe_tup (pa_cons (pv 4) (pa_cons (pe_kn G hr (pa_cons (pv 5) (pa_cons (pv 1) pa_nil))) pa_nil))) rfl)))))
    (pss_one (ps_ret (pv 2)))), ?_⟩
  intro df hdf
  have e0 : Ex H (upd H df (.dT [])) := Ex.new hdf
  have ndf : dl ≠ df := ne_of_none hdl hdf
  refine ⟨dl, .dT kvl, e0 _ _ hdl, trivial, fun od => ?_⟩
  have t1 : Tt H (upd (upd H df (.dT [])) dl (.frz od (.dT kvl))) := (tt e0).trans (Tt.upd (nt_dT (e0 _ _ hdl)))
  have k1 : Tk K H (upd (upd H df (.dT [])) dl (.frz od (.dT kvl))) := (tk e0).trans (Tk.upd (nt_dT (e0 _ _ hdl)))
  have hd1 : (upd (upd H df (.dT [])) dl (.frz od (.dT kvl))) d = some (.dK kvs) := by
    rw [upd_ne (fun z => by rw [z, hdl] at hd; cases hd)]
    exact e0 _ _ hd
  have hdf1 : (upd (upd H df (.dT [])) dl (.frz od (.dT kvl))) df = some (.dT []) := by rw [upd_ne ndf.symm]; exact upd_same
  have hdl1 : (upd (upd H df (.dT [])) dl (.frz od (.dT kvl))) dl = some (.frz od (.dT kvl)) := upd_same
  have hL1 := lrel_up hL t1 k1
  have hm1 := hm.up k1
  have eU : Ex H (upd (upd (upd H df (.dT [])) dl (.frz od (.dT kvl))) dl (.dT kvl)) := Ex.unlock (H := upd H df (.dT [])) (e0 _ _ hdl) (Ex.refl _) |> fun e => Ex.trans e0 e
  have off : ∀ b o, H b = some o → b ≠ dl → (upd (upd H df (.dT [])) dl (.frz od (.dT kvl))) b = some o := fun b o hb hn => by rw [upd_ne hn]; exact e0 _ _ hb
  generalize hH1 : upd (upd H df (.dT [])) dl (.frz od (.dT kvl)) = H1 at hd1 hdf1 hdl1 hL1 hm1 off
  refine ⟨_, rfl, dl, od, rfl, .inr ⟨kvl, hdl1, ?_⟩⟩
  -- the invariant: what stood stands, found is fresh
  refine for_it walk_keysT (fun i σ H' => ∃ (kvf : List (List Key × V)) (o3 o4 o5 : Option V), σ = [some (.ref dl), some (.ref d), some (.ref df), o3, o4, o5] ∧ ExB df H1 H' ∧ H' df = some (.dT kvf) ∧ LRel K H' kvf ((L.take i).foldl (moveStep m) []))
    ⟨[], none, none, none, rfl, ExB.refl, hdf1, .nil⟩ (fun i σ H' _ z => ?_) ?_ ?_
  · obtain ⟨_, _, _, _, _, z, _⟩ := z
    exact z _ _ hdl1 ndf
  · rintro i v σ H2 H2' hi ⟨kvf, o3, o4, o5, rfl, e2, hdf2, hrel⟩ ⟨rfl, key, vl, pq, hkv, rfl, hpq⟩
    obtain ⟨pt, lk, hLi, rfl, _⟩ := hL1.at hkv
    have t2 : Tt H1 H2' := fun a xs h => e2 a _ h (fun z => by rw [z, hdf1] at h; cases h)
    have k2 : Tk K H1 H2' := e2.tk (nt_dT hdf1)
    have hL2 := lrel_up hL1 t2 k2
    have hlk : lookA L pt = some lk := lookA_of hnd (List.mem_of_getElem? hLi)
    obtain ⟨v2, hv2, hv2l⟩ := hL2.get portK_inj hlk
    have hdl2 : H2' dl = some (.frz od (.dT kvl)) := e2 _ _ hdl1 ndf
    obtain ⟨a2, g2, rfl, hs2, hg2⟩ := hv2l
    have hd2 : H2' d = some (.dK kvs) := e2 _ _ hd1 (fun z => by rw [z, hdf1] at hd1; cases hd1)
    have hil : i < L.length := (List.getElem?_eq_some_iff.mp hLi).1
    refine ⟨_, rfl, _, rfl, dl, _, rfl, by rw [← hv2]; exact DGet.tr (.inr ⟨od, hdl2⟩) hpq, a2, _, rfl, hs2, rfl, _, _, rfl, _, _, rfl, rfl, ?_⟩
    refine ⟨_, rfl, _, rfl, _, rfl, g2, lk.2, d, kvs, m, rfl, hg2, hd2, hm1.up k2, fun r3 H3 e3 hr3 => ⟨by show 2 ≤ sizeLine; decide, fun g hg => ?_⟩⟩
    have e4 : Ex H3 (upd H3 g (.tup [.str lk.1, r3])) := Ex.new hg
    have e34 := Ex.trans e3 e4
    refine ⟨_, rfl, _, rfl, _, rfl, .ref pq, some pt, d, kvs, m, rfl, ⟨pq, rfl, e34 _ _ hpq⟩, e34 _ _ hd2, (hm1.up k2).up (tk e34), fun r5 H5 e5 hr5 => ?_⟩
    obtain ⟨b5, rfl, hb5⟩ := hr5
    have e35 := Ex.trans e34 e5
    have hdf5 := e35 _ _ hdf2
    have hkl : kvf.length < sizeLine := by
      rw [hrel.len]
      have := moved_len m (L.take i) []
      rw [List.length_take, List.length_nil] at this
      exact small1000 (by omega)
    refine ⟨df, _, rfl, DPut.t (k := portK (movedPort m pt)) hdf5 hb5 hkl, ?_⟩
    have t6 : Tt H5 (upd H5 df (.dT (putK kvf (portK (movedPort m pt)) (.ref g)))) := Tt.upd (nt_dT hdf5)
    have k6 : Tk K H5 (upd H5 df (.dT (putK kvf (portK (movedPort m pt)) (.ref g)))) := Tk.upd (nt_dT hdf5)
    have hnew : LnkAt K (upd H3 g (.tup [.str lk.1, r3])) (.ref g) (lk.1, lk.2.map (movedPort m)) := ⟨g, r3, rfl, SqT.of upd_same, hr3.ex e4⟩
    refine ⟨_, _, _, _, rfl, (e2.trans (.of e35)).self, upd_same, ?_⟩
    rw [List.take_add_one, hLi, List.foldl_append]
    exact (lrel_up (lrel_ex hrel e35) t6 k6).put portK_inj ((hnew.ex e5).up t6 k6) (moved_nodup m _ _ List.nodup_nil)
  · rintro σ H2 ⟨kvf, o3, o4, o5, rfl, e2, hdf2, hrel⟩
    have hln : kvl.length = L.length := hL.len
    rw [hln, List.take_length] at hrel
    have hdl2 : H2 dl = some (.frz od (.dT kvl)) := e2 _ _ hdl1 ndf
    refine ⟨hdl2, _, rfl, ?_⟩
    have t3 : Tt H2 (upd H2 dl (.dT kvl)) := Tt.upd (nt_frzT hdl2)
    have k3 : Tk K H2 (upd H2 dl (.dT kvl)) := Tk.upd (nt_frzT hdl2)
    refine q df kvf _ (fun b o hb => ?_) hdf (by rw [upd_ne ndf.symm]; exact hdf2) (lrel_up hrel t3 k3)
    by_cases z : b = dl
    · subst z
      rw [upd_same]
      rw [hdl] at hb
      exact hb
    · rw [upd_ne z]
      exact e2 b o (off b o hb z) (ne_of_none hb hdf)
end
end Oh

set_option maxHeartbeats 4000000
/-! Oh, part 16: two halves meet -/
namespace Oh
open PySem PySem.Spec PyProof.Rows L2
open Evl (Ex)
section
variable {P : Program} {w : World} {K : PySem.W.Frag} {mg : Str → Option Value} {base : Heap}
/-! ### is_inner, outer -/
abbrev sInner : Stmt := top 39
theorem scInner : FnScope ["port", "half", "first", "room"] ["port", "half", "first", "room"] (defScope sInner) := ⟨rfl, rfl, rfl, by decide +kernel, rfl, by decide +kernel, by decide +kernel⟩
def spInner (K : PySem.W.Frag) : Sp := fun vs H Q _ => ∃ (x : V) (p : Port) (half first room : Int), vs = [x, .int half, .int first, .int room] ∧ PortAt H x p ∧ Q (.bl (isInner p half first room)) H
theorem dec_str (a b : Str) : decide (V.str a = V.str b) = decide (a = b) := by
  by_cases h : a = b
  · subst h; simp
  · rw [decide_eq_false h, decide_eq_false (fun z => h (V.str.inj z))]
theorem dec_int (a b : Int) : decide (V.int a = V.int b) = decide (a = b) := by
  by_cases h : a = b
  · subst h; simp
  · rw [decide_eq_false h, decide_eq_false (fun z => h (V.int.inj z))]
theorem kn_inner (C : Cst K mg w) (S : Src K mg "is_inner" sInner ["port", "half", "first", "room"]) : Kn P w K mg base "is_inner" 1 ["port", "half", "first", "room"] (spInner K) := by
  obtain ⟨to, mo⟩ := C.own
  refine S.kn scInner (fun vs H Q E h => ?_) (fun f cdv A outer s H vs Q E hr h => ?_)
  · obtain ⟨x, p, half, first, room, rfl, _⟩ := h
    rfl
  obtain ⟨x, p, half, first, room, rfl, hx, q⟩ := h
  refine ⟨_, pss_one (ps_ret (pe_and (pe_cmpR op_eq (pe_ix ix_tup (pv 0) pe_int (fun _ _ => rfl)) (pe_glob (v := .str "") rfl mo ⟨_, rfl⟩) (nomark _)) (pe_one (pe_or (pe_cmpR op_eq (pv 1) pe_int (nomark _)) (pe_one (pe_chain op_le op_lt (pv 2) (pe_ix ix_tup (pv 0) pe_int (fun _ _ => rfl)) (pe_op op_add (pv 2) (pv 3)))))))), ?_⟩
  obtain ⟨b, rfl, hb⟩ := hx
  refine ⟨_, rfl, b, _, 0, _, rfl, rfl, SqT.of hb, atI_nat (j := 0) rfl, rfl, _, rfl, ?_⟩
  unfold isInner at q
  rw [dec_str]
  by_cases h1 : p.1 = ""
  · rw [decide_eq_true h1, Bool.true_and] at q
    refine ifT h1 ⟨_, rfl, rfl, _, rfl, ?_⟩
    rw [dec_int]
    by_cases h2 : half = 1
    · rw [decide_eq_true h2, Bool.true_or] at q
      exact ifT h2 q
    · rw [decide_eq_false h2, Bool.false_or] at q
      refine ifF h2 ⟨_, rfl, _, rfl, b, _, 1, _, rfl, rfl, SqT.of hb, atI_nat (j := 1) rfl, _, _, rfl, rfl, _, rfl, ?_⟩
      by_cases h3 : first ≤ p.2
      · rw [decide_eq_true h3, Bool.true_and] at q
        exact ifT h3 ⟨_, rfl, _, rfl, _, _, rfl, rfl, _, _, rfl, rfl, q⟩
      · rw [decide_eq_false h3, Bool.false_and] at q
        exact ifF h3 q
  · rw [decide_eq_false h1, Bool.false_and] at q
    exact ifF h1 q
abbrev sOuter : Stmt := top 40
theorem scOuter : FnScope ["port", "half", "first", "room"] ["port", "half", "first", "room"] (defScope sOuter) := ⟨rfl, rfl, rfl, by decide +kernel, rfl, by decide +kernel, by decide +kernel⟩
def spOuter (K : PySem.W.Frag) : Sp := fun vs H Q _ => ∃ (x : V) (p : Port) (half first room : Int), vs = [x, .int half, .int first, .int room] ∧ PortAt H x p ∧ ∀ r H', Ex H H' → PortAt H' r (outerP p half first room) → Q r H'
theorem kn_outer (C : Cst K mg w) (S : Src K mg "outer" sOuter ["port", "half", "first", "room"]) : Kn P w K mg base "outer" 1 ["port", "half", "first", "room"] (spOuter K) := by
  obtain ⟨to, mo⟩ := C.own
  refine S.kn scOuter (fun vs H Q E h => ?_) (fun f cdv A outer s H vs Q E hr h => ?_)
  · obtain ⟨x, p, half, first, room, rfl, _⟩ := h
    rfl
  obtain ⟨x, p, half, first, room, rfl, hx, q⟩ := h
  refine ⟨_, pss_cons (ps_if (PW.pt (pw_and (pt_cmpR op_eq (pe_ix ix_tup (pv 0) pe_int (fun _ _ => rfl)) (pe_glob (v := .str "") rfl mo ⟨_, rfl⟩) (nomark _)) (pw_and (pt_cmpR op_eq (pv 1) pe_int (nomark _)) (pw_and1 (pt_cmpR op_ge (pe_ix ix_tup (pv 0) pe_int (fun _ _ => rfl)) (pe_op op_add (pv 2) (pv 3)) (nomark _))))))
      (pss_one (ps_ret (pe_tup (pa_cons (pe_glob (v := .str "") rfl mo ⟨_, rfl⟩) (pa_cons (pe_op op_sub (pe_ix ix_tup (pv 0) pe_int (fun _ _ => rfl)) (pv 3)) pa_nil))))) pss_nil)
    (pss_one (ps_ret (pv 0))), ?_⟩
  obtain ⟨b, rfl, hb⟩ := hx
  have no : ¬ (p.1 = "" ∧ half = 0 ∧ first + room ≤ p.2) → Q (.ref b) H := fun h => q _ H (Ex.refl H) (by unfold outerP; rw [if_neg h]; exact ⟨b, rfl, hb⟩)
  refine ⟨_, rfl, b, _, 0, _, rfl, rfl, SqT.of hb, atI_nat (j := 0) rfl, rfl, _, rfl, ?_⟩
  rw [dec_str]
  by_cases h1 : p.1 = ""
  · refine ifT h1 ⟨_, rfl, rfl, _, rfl, ?_⟩
    rw [dec_int]
    by_cases h2 : half = 0
    · refine ifT h2 ⟨_, rfl, b, _, 1, _, rfl, rfl, SqT.of hb, atI_nat (j := 1) rfl, _, rfl, _, rfl, _, _, rfl, rfl, _, _, rfl, rfl, _, rfl, ?_⟩
      by_cases h3 : first + room ≤ p.2
      · refine ifT h3 ⟨_, rfl, b, _, 1, _, rfl, rfl, SqT.of hb, atI_nat (j := 1) rfl, _, rfl, _, _, rfl, rfl, by show 2 ≤ sizeLine; decide, fun g hg => ?_⟩
        exact q _ _ (Ex.new hg) (by unfold outerP; rw [if_pos ⟨h1, h2, h3⟩]; exact ⟨g, rfl, upd_same⟩)
      · exact ifF h3 ⟨_, rfl, no fun z => h3 z.2.2⟩
    · exact ifF h2 (iteF ⟨_, rfl, no fun z => h2 z.2.1⟩)
  · exact ifF h1 (iteF ⟨_, rfl, no fun z => h1 z.1⟩)
/-! ### walk_ports -/
theorem join_list (ys : List Str) : (PySem.Txt.join "" ys).cps.toList = ys.flatMap fun w => w.cps.toList := by
  have e : PySem.Txt.join "" ys = Str.join "" ys := PySem.StrLaws.glued_eq_join "" ys
  rw [e]
  induction ys with
  | nil => rfl
  | cons x r ih =>
    cases r with
    | nil =>
      show x.cps.toList = _
      simp
    | cons y r =>
      show ((x ++ ("" : Str)) ++ Str.join "" (y :: r)).cps.toList = _
      have e2 : ((x ++ ("" : Str)) ++ Str.join "" (y :: r)).cps.toList = (x.cps ++ ("" : Str).cps ++ (Str.join "" (y :: r)).cps).toList := rfl
      rw [e2, Array.toList_append, Array.toList_append, ih (PySem.StrLaws.glued_eq_join "" (y :: r))]
      have e3 : ("" : Str).cps.toList = [] := rfl
      rw [e3, List.append_nil]
      simp only [List.flatMap_cons]
theorem join_eq (ys : List Str) : PySem.Txt.join "" ys = joinStr ys := by
  have h := join_list ys
  unfold joinStr
  cases hq : PySem.Txt.join "" ys with
  | mk c =>
    rw [hq] at h
    rw [← h]
theorem joinStr_len (ys : List Str) : (joinStr ys).length = (ys.map (·.length)).sum := by
  unfold joinStr
  show ((ys.flatMap fun w => w.cps.toList).toArray).size = _
  rw [List.size_toArray, List.length_flatMap]
  rfl
abbrev sWalkP : Stmt := top 41
theorem scWalkP : FnScope ["halves", "half", "port", "first", "room", "words", "word"] ["halves", "half", "port", "first", "room"] (defScope sWalkP) := ⟨rfl, rfl, rfl, by decide +kernel, rfl, by decide +kernel, by decide +kernel⟩
def hN (h : Bool) : Int := if h = true then 1 else 0
def WalkIs (K : PySem.W.Frag) (H : Hp) (v : V) : Option (List Str × Option Port) → Prop
  | none => v = .non
  | some (ws, g) => LnkAt K H v (joinStr ws, g)
def short : Option (List Str × Option Port) → Prop
  | none => True
  | some (ws, _) => (joinStr ws).length ≤ 1000
def spWalkP (K : PySem.W.Frag) : Sp := fun vs H Q _ => ∃ (hl d1 d2 : Addr) (kv1 kv2 : List (List Key × V)) (one other : Links) (h : Bool) (x : V) (p : Port) (first room : Int) (r : Option (List Str × Option Port)), vs = [.ref hl, .int (hN h), x, .int first, .int room] ∧
  SqL K H hl [.ref d1, .ref d2] ∧ Rd H d1 (.dT kv1) ∧ Rd H d2 (.dT kv2) ∧ LRel K H kv1 one ∧ LRel K H kv2 other ∧ PortAt H x p ∧ walkPorts one other 20 h p first room [] = some r ∧ short r ∧ ∀ v H', Ex H H' → WalkIs K H' v r → Q v H'
def walkPW (hl : Addr) (one other : Links) (first room : Int) (r : Option (List Str × Option Port)) (H : Hp) : Nat → L2.St → Hp → Prop := fun n σ H1 => ∃ (h : Bool) (x : V) (p : Port) (ws : List Str) (lw : Addr) (o : Option V),
  σ = [some (.ref hl), some (.int (hN h)), some x, some (.int first), some (.int room), some (.ref lw), o] ∧ PortAt H1 x p ∧ H1 lw = some (.lst (ws.map V.str)) ∧ Ex H H1 ∧ H lw = none ∧ walkPorts one other n h p first room ws = some r ∧ ws.length + n = 20
theorem rd_ex {H H' : Hp} {a : Addr} {u : HO} (h : Rd H a u) (e : Ex H H') : Rd H' a u := h.elim (fun q => .inl (e _ _ q)) fun ⟨o, q⟩ => .inr ⟨o, e _ _ q⟩
theorem kn_walk_ports (C : Cst K mg w) (GI : Kn P w K mg base "is_inner" 1 ["port", "half", "first", "room"] (spInner K)) (GO : Kn P w K mg base "outer" 1 ["port", "half", "first", "room"] (spOuter K)) (S : Src K mg "walk_ports" sWalkP ["halves", "half", "port", "first", "room"]) : Kn P w K mg base "walk_ports" 2 ["halves", "half", "port", "first", "room"] (spWalkP K) := by
  obtain ⟨to, mo⟩ := C.own
  refine S.kn scWalkP (fun vs H Q E h => ?_) (fun f cdv A outer s H vs Q E hr h => ?_)
  · obtain ⟨hl, d1, d2, kv1, kv2, one, other, h, x, p, first, room, r, rfl, _⟩ := h
    rfl
  obtain ⟨hl, d1, d2, kv1, kv2, one, other, h, x, p, first, room, r, rfl, hhl, hd1, hd2, hr1, hr2, hx, hwk, hsh, q⟩ := h
  have hu := hu_of hr
  refine ⟨_, pss_cons (ps_set (i := 5) scWalkP.nd rfl (.inl rfl) (pe_lst pa_nil))
    (pss_cons (ps_while PassesOwn.never (pt_cmp (pc_din hu (pv 2) (pe_ix ix_list (pv 0) (pv 1) (fun _ _ => rfl))))
      (pss_cons (ps_asg (pe_dget hu (pe_ix ix_list (pv 0) (pv 1) (fun _ _ => rfl)) (pv 2) (fun _ _ => rfl)) (pg_tup (by rfl) (pgs_cons (pg_name (i := 6) scWalkP.nd rfl (.inl rfl)) (pgs_cons (pg_name (i := 2) scWalkP.nd rfl (.inl rfl)) pgs_nil))))
      (pss_cons (ps_expr (pe_bm PySem.F.plainAttrs_list PySem.F.slot_list_append PySem.F.type_list_append mt_append (pv 5) (pa_cons (pv 6) pa_nil)))
      (pss_cons (ps_if (pt_cmpR op_isN (pv 2) pe_non (nomark _)) (pss_one (ps_ret (pe_tup (pa_cons (pe_join pe_str (pv 5)) (pa_cons pe_non pa_nil))))) pss_nil)
      (pss_cons (ps_if (pt_not (pt_val (pe_kn GI hr (pa_cons (pv 2) (pa_cons (pv 1) (pa_cons (pv 3) (pa_cons (pv 4) pa_nil))))))) (pss_one (ps_ret (pe_tup (pa_cons (pe_join pe_str (pv 5)) (pa_cons (pe_kn GO hr (pa_cons (pv 2) (pa_cons (pv 1) (pa_cons (pv 3) (pa_cons (pv 4) pa_nil))))) pa_nil))))) pss_nil)
      (pss_one (ps_par (i := 2) (j := 1) (by rfl) scWalkP.nd rfl rfl (by decide) rfl rfl (pa_cons (pe_tup (pa_cons (pe_glob (v := .str "") rfl mo ⟨_, rfl⟩) (pa_cons (pe_op op_add (pe_ix ix_tup (pv 2) pe_int (fun _ _ => rfl)) (pe_ifExp (pt_cmpR op_eq (pv 1) pe_int (nomark _)) (pv 3) (pe_un un_neg (pv 3)))) pa_nil))) (pa_cons (pe_op op_sub pe_int (pv 1)) pa_nil)) (by rfl))))))))
    (pss_one (ps_ret pe_non))), ?_⟩
  have s0 : 0 ≤ sizeLine := by decide
  have s2 : 2 ≤ sizeLine := by decide
  refine ⟨s0, fun l0 hl0 => ?_⟩
  have e0 : Ex H (upd H l0 (.lst [])) := Ex.new hl0
  refine ⟨walkPW hl one other first room r H, ⟨20, h, x, p, [], l0, none, rfl, hx.ex e0, upd_same, e0, hl0, hwk, rfl⟩, ?_⟩
  rintro n σ H1 ⟨h, x, p, ws, lw, o, rfl, hx, hlw, e1, hf, hwk, hlen⟩
  have hhl1 : SqL K H1 hl [.ref d1, .ref d2] := Evl.ex_l e1 hhl
  have hat : atI [V.ref d1, V.ref d2] (hN h) = some (.ref (if h = true then d2 else d1)) := by cases h <;> rfl
  obtain ⟨b, rfl, hb⟩ := hx
  have hget : DGet H1 (if h = true then d2 else d1) (.ref b) (valV (if h = true then kv2 else kv1) (portK p)) := by
    cases h with
    | true => exact DGet.tr (rd_ex hd2 e1) hb
    | false => exact DGet.tr (rd_ex hd1 e1) hb
  have hrel : LRel K H1 (if h = true then kv2 else kv1) (if h = true then other else one) := by
    cases h with
    | true => exact lrel_ex hr2 e1
    | false => exact lrel_ex hr1 e1
  refine ⟨_, rfl, _, rfl, _, rfl, hl, _, _, _, rfl, rfl, hhl1, hat, _, _, rfl, hget, _, rfl, ?_⟩
  cases n with
  | zero => cases hwk
  | succ n =>
    unfold walkPorts at hwk
    cases hlk : lookA (if h = true then other else one) p with
    | none =>
      rw [hlk] at hwk
      obtain rfl := Option.some.inj hwk
      rw [hrel.get0 portK_inj hlk]
      exact iteF (q _ H1 e1 rfl)
    | some lk =>
      obtain ⟨v, hv, hvl⟩ := hrel.get portK_inj hlk
      rw [hlk] at hwk
      rw [hv]
      obtain ⟨a2, g2, rfl, hs2, hg2⟩ := hvl
      obtain ⟨wd, g⟩ := lk
      refine iteT ⟨_, fun _ _ z => z, ?_⟩
      refine ⟨_, rfl, _, rfl, hl, _, _, _, rfl, rfl, hhl1, hat, _, rfl, _, _, rfl, by rw [← hv]; exact hget, a2, _, rfl, hs2, rfl, _, _, rfl, _, _, rfl, rfl, ?_⟩
      refine ⟨_, rfl, .inl ⟨rfl, _, SqL.of hlw⟩, _, rfl, lw, _, _, rfl, rfl, hlw, small1000 (by rw [List.length_map]; omega), ?_⟩
      have t2 : Tt H1 (upd H1 lw (.lst (ws.map V.str ++ [.str wd]))) := Tt.upd (nt_lst hlw)
      have e2 : Ex H (upd H1 lw (.lst (ws.map V.str ++ [.str wd]))) := e1.mut hf
      have hlw2 : (upd H1 lw (.lst (ws.map V.str ++ [.str wd]))) lw = some (.lst ((ws ++ [wd]).map V.str)) := by rw [upd_same, List.map_append]; rfl
      have hg3 := hg2.up t2
      generalize upd H1 lw (.lst (ws.map V.str ++ [.str wd])) = H2 at e2 hlw2 hg3
      have cost : (joinStr (ws ++ [wd])).length ≤ 1000 → ((ws ++ [wd]).map (·.length)).sum + (ws ++ [wd]).length * ("" : Str).length ≤ 16777216 := fun hj => by
        rw [joinStr_len] at hj
        have : ("" : Str).length = 0 := rfl
        rw [this]
        omega
      cases g with
      | none =>
        obtain rfl : g2 = .non := hg3
        obtain rfl := Option.some.inj hwk
        have hc := cost hsh
        refine ⟨_, rfl, rfl, _, rfl, ifT rfl ⟨⟨_, rfl⟩, _, rfl, _, lw, _, rfl, rfl, .inl (SqL.of hlw2), hc, s2, fun g hg => ?_⟩⟩
        refine q _ _ (Ex.trans e2 (Ex.new hg)) ⟨g, .non, rfl, ?_, rfl⟩
        rw [join_eq]
        exact SqT.of upd_same
      | some pp =>
        obtain ⟨b2, rfl, hb2⟩ := hg3
        refine ⟨_, rfl, rfl, _, rfl, ifF (fun z => nomatch z) ⟨_, rfl, _, rfl, _, rfl, _, rfl, .ref b2, pp, hN h, first, room, rfl, ⟨b2, rfl, hb2⟩, _, rfl, ?_⟩⟩
        simp only at hwk
        have hN' : (if h = true then (1 : Int) else 0) = hN h := rfl
        rw [hN'] at hwk
        by_cases hin : isInner pp (hN h) first room = false
        · rw [if_pos hin] at hwk
          obtain rfl := Option.some.inj hwk
          have hc := cost hsh
          rw [hin]
          refine iteT ⟨⟨_, rfl⟩, _, rfl, _, lw, _, rfl, rfl, .inl (SqL.of hlw2), hc, ?_⟩
          refine ⟨_, rfl, _, rfl, _, rfl, _, rfl, .ref b2, pp, hN h, first, room, rfl, ⟨b2, rfl, hb2⟩, fun rv H3 e3 hrv => ⟨s2, fun g hg => ?_⟩⟩
          refine q _ _ ((Ex.trans e2 e3).trans (Ex.new hg)) ⟨g, rv, rfl, ?_, hrv.ex (Ex.new hg)⟩
          rw [join_eq]
          exact SqT.of upd_same
        · rw [if_neg hin] at hwk
          have hin' : isInner pp (hN h) first room = true := by
            cases hz : isInner pp (hN h) first room with
            | true => rfl
            | false => exact absurd hz hin
          rw [hin']
          refine iteF ⟨_, rfl, b2, _, 1, _, rfl, rfl, SqT.of hb2, atI_nat (j := 1) rfl, ?_⟩
          refine ⟨_, rfl, rfl, _, rfl, ?_⟩
          rw [dec_int]
          have fin : ∀ z : Int, z = (if h = true then first else -first) → ∀ g, H2 g = none → ∃ m', m' < n + 1 ∧ walkPW hl one other first room r H m' [some (.ref hl), some (.int (1 - hN h)), some (.ref g), some (.int first), some (.int room), some (.ref lw), some (.str wd)] (upd H2 g (.tup [.str "", .int (pp.2 + z)])) := by
            intro z hz g hg
            subst hz
            have e3 : Ex H2 (upd H2 g (.tup [.str "", .int (pp.2 + (if h = true then first else -first))])) := Ex.new hg
            refine ⟨n, Nat.lt_succ_self n, !h, .ref g, ("", pp.2 + (if h = true then first else -first)), ws ++ [wd], lw, some (.str wd), ?_, ⟨g, rfl, upd_same⟩, e3 _ _ hlw2, Ex.trans e2 e3, hf, hwk, by rw [List.length_append, List.length_singleton]; omega⟩
            cases h <;> rfl
          cases h with
          | true => exact ifT rfl ⟨_, rfl, _, _, rfl, rfl, s2, fun g hg => ⟨_, rfl, _, _, rfl, rfl, _, _, rfl, fin first rfl g hg⟩⟩
          | false => exact ifF (by decide) ⟨_, rfl, _, rfl, _, _, rfl, rfl, s2, fun g hg => ⟨_, rfl, _, _, rfl, rfl, _, _, rfl, fin (-first) rfl g hg⟩⟩
end
end Oh

set_option maxHeartbeats 4000000
/-! Oh, part 17: joined_links -/
namespace Oh
open PySem PySem.Spec PyProof.Rows L2
open Evl (Ex)
theorem fold_none (one other : Links) (h : Bool) (first room : Int) : ∀ L : Links, L.foldl (joinStep one other h first room) none = none
  | [] => rfl
  | _ :: L => fold_none one other h first room L
theorem fold_take {one other : Links} {h : Bool} {first room : Int} {L : Links} {acc : Option Links} {J : Links} (e : L.foldl (joinStep one other h first room) acc = some J) (n : Nat) : ∃ M, (L.take n).foldl (joinStep one other h first room) acc = some M := by
  rw [← List.take_append_drop n L, List.foldl_append] at e
  cases q : (L.take n).foldl (joinStep one other h first room) acc with
  | some M => exact ⟨M, rfl⟩
  | none => rw [q, fold_none] at e; cases e
theorem step_cases {one other : Links} {h : Bool} {first room : Int} {M M2 : Links} {q : Port × Lnk} (e : joinStep one other h first room (some M) q = some M2) :
    (isInner q.1 (hN h) first room = true ∧ M2 = M) ∨ (isInner q.1 (hN h) first room = false ∧ ∃ r, walkPorts one other 20 h q.1 first room [] = some r ∧ ((r = none ∧ M2 = M) ∨ ∃ ws g, r = some (ws, g) ∧ (joinStr ws).length ≤ 1000 ∧ M2 = putA M (outerP q.1 (hN h) first room) (joinStr ws, g))) := by
  unfold joinStep at e
  simp only at e
  have hh : (if h = true then (1 : Int) else 0) = hN h := rfl
  rw [hh] at e
  by_cases h1 : isInner q.1 (hN h) first room = true
  · rw [if_pos h1] at e
    exact .inl ⟨h1, (Option.some.inj e).symm⟩
  · rw [if_neg h1] at e
    refine .inr ⟨by simpa using h1, ?_⟩
    cases hw : walkPorts one other 20 h q.1 first room [] with
    | none => rw [hw] at e; cases e
    | some r =>
      rw [hw] at e
      refine ⟨r, rfl, ?_⟩
      cases r with
      | none => exact .inl ⟨rfl, (Option.some.inj e).symm⟩
      | some wg =>
        obtain ⟨ws, g⟩ := wg
        simp only at e
        by_cases h2 : (joinStr ws).length ≤ 1000
        · rw [if_pos h2] at e
          exact .inr ⟨ws, g, rfl, h2, (Option.some.inj e).symm⟩
        · rw [if_neg h2] at e; cases e
theorem fold_nodup {one other : Links} {h : Bool} {first room : Int} : ∀ {L acc J : Links}, L.foldl (joinStep one other h first room) (some acc) = some J → (acc.map (·.1)).Nodup → (J.map (·.1)).Nodup ∧ J.length ≤ acc.length + L.length
  | [], acc, J, e, nd => by
    obtain rfl := Option.some.inj e
    exact ⟨nd, Nat.le_refl _⟩
  | q :: L, acc, J, e, nd => by
    have e : L.foldl (joinStep one other h first room) (joinStep one other h first room (some acc) q) = some J := e
    cases hq : joinStep one other h first room (some acc) q with
    | none => rw [hq, fold_none] at e; cases e
    | some M =>
      rw [hq] at e
      have key : (M.map (·.1)).Nodup ∧ M.length ≤ acc.length + 1 := by
        rcases step_cases hq with ⟨_, rfl⟩ | ⟨_, r, _, ⟨_, rfl⟩ | ⟨ws, g, _, _, rfl⟩⟩
        · exact ⟨nd, Nat.le_succ _⟩
        · exact ⟨nd, Nat.le_succ _⟩
        · exact ⟨nodup_put nd, len_put⟩
      obtain ⟨h1, h2⟩ := fold_nodup e key.1
      refine ⟨h1, ?_⟩
      rw [List.length_cons]
      have := key.2
      omega
def jAt (one other : Links) (first room : Int) : Nat → Option Links
  | 0 => some []
  | 1 => one.foldl (joinStep one other false first room) (some [])
  | _ => joinedLinks one other first room
section
variable {P : Program} {w : World} {K : PySem.W.Frag} {mg : Str → Option Value} {base : Heap}
abbrev sJoined : Stmt := top 38
theorem scJoined : FnScope ["one", "other", "first", "room", "halves", "found", "half", "port", "walked"] ["one", "other", "first", "room"] (defScope sJoined) := ⟨rfl, rfl, rfl, by decide +kernel, rfl, by decide +kernel, by decide +kernel⟩
def spJoined (K : PySem.W.Frag) : Sp := fun vs H Q _ => ∃ (d1 d2 : Addr) (kv1 kv2 : List (List Key × V)) (one other : Links) (first room : Int) (J : Links), vs = [.ref d1, .ref d2, .int first, .int room] ∧
  H d1 = some (.dT kv1) ∧ H d2 = some (.dT kv2) ∧ LRel K H kv1 one ∧ LRel K H kv2 other ∧ one.length ≤ 200 ∧ other.length ≤ 200 ∧ joinedLinks one other first room = some J ∧
  ∀ p kv' H', Ex H H' → H p = none → H' p = some (.dT kv') → LRel K H' kv' J → Q (.ref p) H'
theorem rd_lock {H : Hp} {d dl : Addr} {u o : HO} {od : Obj} (h : H d = some o) (hl : H dl = some u) : Rd (upd H dl (.frz od u)) d o := by
  by_cases z : d = dl
  · subst z
    rw [h] at hl
    obtain rfl := Option.some.inj hl
    exact .inr ⟨od, upd_same⟩
  · exact .inl (by rw [upd_ne z]; exact h)
theorem rd_exB {df : Addr} {H H' : Hp} {a : Addr} {u : HO} (h : Rd H a u) (e : ExB df H H') (n : a ≠ df) : Rd H' a u := h.elim (fun q => .inl (e _ _ q n)) fun ⟨o, q⟩ => .inr ⟨o, e _ _ q n⟩
theorem kn_joined (GI : Kn P w K mg base "is_inner" 1 ["port", "half", "first", "room"] (spInner K)) (GO : Kn P w K mg base "outer" 1 ["port", "half", "first", "room"] (spOuter K)) (GW : Kn P w K mg base "walk_ports" 2 ["halves", "half", "port", "first", "room"] (spWalkP K)) (S : Src K mg "joined_links" sJoined ["one", "other", "first", "room"]) : Kn P w K mg base "joined_links" 3 ["one", "other", "first", "room"] (spJoined K) := by
  refine S.kn scJoined (fun vs H Q E h => ?_) (fun f cdv A outer s H vs Q E hr h => ?_)
  · obtain ⟨d1, d2, kv1, kv2, one, other, first, room, J, rfl, _⟩ := h
    rfl
  obtain ⟨d1, d2, kv1, kv2, one, other, first, room, J, rfl, hd1, hd2, hr1, hr2, hl1, hl2, hJ, q⟩ := h
  have hu := hu_of hr
  have hr' : Room 1 _ := hr.mono (by decide)
  refine ⟨_, pss_cons (ps_par (i := 4) (j := 5) (by rfl) scJoined.nd rfl rfl (by decide) rfl rfl (pa_cons (pe_lst (pa_cons (pv 0) (pa_cons (pv 1) pa_nil))) (pa_cons pe_dnewT pa_nil)) (by rfl))
    (pss_cons (ps_for PassesOwn.never rfl (pi_list (pe_lst (pa_cons pe_int (pa_cons pe_int pa_nil)))) (pg_name (i := 6) scJoined.nd rfl (.inl rfl))
      (pss_one (ps_lock (ps_for PassesOwn.never rfl (pi_keys (pe_ix ix_list (pv 4) (pv 6) (fun _ _ => rfl))) (pg_name (i := 7) scJoined.nd rfl (.inl rfl))
        (pss_one (ps_if (pt_not (pt_val (pe_kn GI hr' (pa_cons (pv 7) (pa_cons (pv 6) (pa_cons (pv 2) (pa_cons (pv 3) pa_nil)))))))
          (pss_cons (ps_set (i := 8) scJoined.nd rfl (.inl rfl) (pe_kn GW hr (pa_cons (pv 4) (pa_cons (pv 6) (pa_cons (pv 7) (pa_cons (pv 2) (pa_cons (pv 3) pa_nil)))))))
          (pss_one (ps_if (pt_cmpR op_notN (pv 8) pe_non (nomark _)) (pss_one (ps_dput hu (pv 5) (pe_kn GO hr' (pa_cons (pv 7) (pa_cons (pv 6) (pa_cons (pv 2) (pa_cons (pv 3) pa_nil))))) (pv 8) rfl)) pss_nil))) pss_nil))))))
    (pss_one (ps_ret (pv 5)))), ?_⟩
  have s2 : 2 ≤ sizeLine := by decide
  refine ⟨_, rfl, _, rfl, s2, fun lh hlh => fun df hdf => ⟨_, _, rfl, s2, fun lx hlx => ⟨lx, rfl, ⟨_, SqL.of upd_same⟩, ?_⟩⟩⟩
  have e0 : Ex H (upd H lh (.lst [.ref d1, .ref d2])) := Ex.new hlh
  have hdfH : H df = none := Evl.fresh_back e0 hdf
  have e1 : Ex (upd H lh (.lst [.ref d1, .ref d2])) (upd (upd H lh (.lst [.ref d1, .ref d2])) df (.dT [])) := Ex.new hdf
  have e2 : Ex (upd (upd H lh (.lst [.ref d1, .ref d2])) df (.dT [])) (upd (upd (upd H lh (.lst [.ref d1, .ref d2])) df (.dT [])) lx (.lst [.int 0, .int 1])) := Ex.new hlx
  have e02 := Ex.trans (Ex.trans e0 e1) e2
  have hlh2 := e2 _ _ (e1 _ _ (upd_same (H := H) (a := lh) (o := .lst [.ref d1, .ref d2])))
  have hdf2 := e2 _ _ (upd_same (H := upd H lh (.lst [.ref d1, .ref d2])) (a := df) (o := .dT []))
  have hlx2 : (upd (upd (upd H lh (.lst [.ref d1, .ref d2])) df (.dT [])) lx (.lst [.int 0, .int 1])) lx = some (.lst [.int 0, .int 1]) := upd_same
  generalize upd (upd (upd H lh (.lst [.ref d1, .ref d2])) df (.dT [])) lx (.lst [.int 0, .int 1]) = HB at e02 hlh2 hdf2 hlx2
  have hd1B := e02 _ _ hd1
  have hd2B := e02 _ _ hd2
  have hr1B := lrel_ex hr1 e02
  have hr2B := lrel_ex hr2 e02
  have n1 : d1 ≠ df := ne_of_none hd1 hdfH
  have n2 : d2 ≠ df := ne_of_none hd2 hdfH
  have nlh : lh ≠ df := fun z => by rw [z, hdf2] at hlh2; cases hlh2
  have nlx : lx ≠ df := fun z => by rw [z, hdf2] at hlx2; cases hlx2
  refine for_it (walk_list (xs := [.int 0, .int 1])) (fun i σ H' => ∃ (kvf : List (List Key × V)) (M : Links) (o6 o7 o8 : Option V), σ = [some (.ref d1), some (.ref d2), some (.int first), some (.int room), some (.ref lh), some (.ref df), o6, o7, o8] ∧ ExB df HB H' ∧ H' df = some (.dT kvf) ∧ LRel K H' kvf M ∧ jAt one other first room i = some M ∧ (M.map (·.1)).Nodup ∧ M.length ≤ 200 * i)
    ⟨[], [], none, none, none, rfl, ExB.refl, hdf2, .nil, rfl, List.nodup_nil, Nat.le_refl _⟩ (fun i σ H' _ z => ?_) ?_ ?_
  · obtain ⟨_, _, _, _, _, _, z, _⟩ := z
    exact SqL.of (z _ _ hlx2 nlx)
  · rintro i v σ H2 H2' hi ⟨kvf, M, o6, o7, o8, rfl, e3, hdf3, hrel, hM, hMn, hMl⟩ ⟨rfl, hv⟩
    obtain ⟨h, rfl, hih⟩ : ∃ h : Bool, v = .int (hN h) ∧ i = (if h = true then 1 else 0) := by
      match i, hv with
      | 0, hv => exact ⟨false, (Option.some.inj hv).symm, rfl⟩
      | 1, hv => exact ⟨true, (Option.some.inj hv).symm, rfl⟩
    have t3 : Tt HB H2' := fun a xs h => e3 a _ h (fun z => by rw [z, hdf2] at h; cases h)
    have k3 : Tk K HB H2' := e3.tk (nt_dT hdf2)
    have hd1' := e3 _ _ hd1B n1
    have hd2' := e3 _ _ hd2B n2
    have hlh3 := e3 _ _ hlh2 nlh
    obtain ⟨dh, kvh, Lh, hat, hdh, hrh, hlen, ndh, hfold⟩ : ∃ (dh : Addr) (kvh : List (List Key × V)) (Lh : Links), atI [V.ref d1, V.ref d2] (hN h) = some (.ref dh) ∧ H2' dh = some (.dT kvh) ∧ LRel K H2' kvh Lh ∧ Lh.length ≤ 200 ∧ dh ≠ df ∧ jAt one other first room (i + 1) = Lh.foldl (joinStep one other h first room) (some M) := by
      cases h with
      | false =>
        subst hih
        obtain rfl := Option.some.inj hM
        exact ⟨d1, kv1, one, rfl, hd1', lrel_up hr1B t3 k3, hl1, n1, rfl⟩
      | true =>
        subst hih
        refine ⟨d2, kv2, other, rfl, hd2', lrel_up hr2B t3 k3, hl2, n2, ?_⟩
        rw [← hM]
        rfl
    obtain ⟨M', hM'⟩ : ∃ M', jAt one other first room (i + 1) = some M' := by
      cases h with
      | true => subst hih; exact ⟨J, hJ⟩
      | false =>
        subst hih
        cases hq : jAt one other first room 1 with
        | some M' => exact ⟨M', hq⟩
        | none =>
          have hJ' : other.foldl (joinStep one other true first room) (jAt one other first room 1) = some J := hJ
          rw [hq, fold_none] at hJ'
          cases hJ'
    rw [hM'] at hfold
    have hfold := hfold.symm
    have hr1' := lrel_up hr1B t3 k3
    have hr2' := lrel_up hr2B t3 k3
    refine ⟨dh, .dT kvh, hdh, trivial, fun od => ?_⟩
    have t4 : Tt H2' (upd H2' dh (.frz od (.dT kvh))) := Tt.upd (nt_dT hdh)
    have k4 : Tk K H2' (upd H2' dh (.frz od (.dT kvh))) := Tk.upd (nt_dT hdh)
    have hdh4 : (upd H2' dh (.frz od (.dT kvh))) dh = some (.frz od (.dT kvh)) := upd_same
    have hrd1 : Rd (upd H2' dh (.frz od (.dT kvh))) d1 (.dT kv1) := rd_lock hd1' hdh
    have hrd2 : Rd (upd H2' dh (.frz od (.dT kvh))) d2 (.dT kv2) := rd_lock hd2' hdh
    have hlh4 : (upd H2' dh (.frz od (.dT kvh))) lh = some (.lst [.ref d1, .ref d2]) := by
      rw [upd_ne (fun z => by rw [z, hdh] at hlh3; cases hlh3)]
      exact hlh3
    have hdf4 : (upd H2' dh (.frz od (.dT kvh))) df = some (.dT kvf) := by rw [upd_ne ndh.symm]; exact hdf3
    have hr1' := lrel_up hr1' t4 k4
    have hr2' := lrel_up hr2' t4 k4
    have hrh' := lrel_up hrh t4 k4
    have hrel' := lrel_up hrel t4 k4
    have off : ∀ b o, H2' b = some o → b ≠ dh → (upd H2' dh (.frz od (.dT kvh))) b = some o := fun b o hb hn => by rw [upd_ne hn]; exact hb
    generalize hH4 : upd H2' dh (.frz od (.dT kvh)) = H4 at hdh4 hrd1 hrd2 hlh4 hdf4 hr1' hr2' hrh' hrel' off
    refine ⟨_, rfl, _, rfl, lh, _, _, _, rfl, rfl, SqL.of hlh4, hat, dh, od, rfl, .inr ⟨kvh, hdh4, ?_⟩⟩
    refine for_it walk_keysT (fun j σ H' => ∃ (kvg : List (List Key × V)) (N : Links) (o7 o8 : Option V), σ = [some (.ref d1), some (.ref d2), some (.int first), some (.int room), some (.ref lh), some (.ref df), some (.int (hN h)), o7, o8] ∧ ExB df H4 H' ∧ H' df = some (.dT kvg) ∧ LRel K H' kvg N ∧ (Lh.take j).foldl (joinStep one other h first room) (some M) = some N)
      ⟨kvf, M, o7, o8, rfl, ExB.refl, hdf4, hrel', rfl⟩ (fun j σ H' _ z => ?_) ?_ ?_
    · obtain ⟨_, _, _, _, _, z, _⟩ := z
      exact z _ _ hdh4 ndh
    · rintro j v σ H5 H5' hj ⟨kvg, N, o7, o8, rfl, e5, hdf5, hrelN, hN'⟩ ⟨rfl, key, vl, pq, hkv, rfl, hpq⟩
      obtain ⟨pt, lk, hLi, rfl, _⟩ := hrh'.at hkv
      obtain ⟨N2, hN2⟩ := fold_take hfold (j + 1)
      have hst : joinStep one other h first room (some N) (pt, lk) = some N2 := by
        rw [List.take_add_one, hLi, List.foldl_append, hN'] at hN2
        exact hN2
      have t5 : Tt H4 H5' := fun a xs h => e5 a _ h (fun z => by rw [z, hdf4] at h; cases h)
      have k5 : Tk K H4 H5' := e5.tk (nt_dT hdf4)
      have nd := fold_nodup hN' hMn
      have hil : j < Lh.length := (List.getElem?_eq_some_iff.mp hLi).1
      refine ⟨_, rfl, _, rfl, _, rfl, _, rfl, .ref pq, pt, hN h, first, room, rfl, ⟨pq, rfl, hpq⟩, _, rfl, ?_⟩
      rcases step_cases hst with ⟨hin, rfl⟩ | ⟨hin, r, hwk, hcase⟩
      · rw [show isInner pt (hN h) first room = true from hin]
        exact iteF ⟨_, _, _, _, rfl, e5, hdf5, hrelN, hN2⟩
      · rw [show isInner pt (hN h) first room = false from hin]
        have hsh : short r := by
          rcases hcase with ⟨rfl, _⟩ | ⟨ws, g, rfl, h2, _⟩
          · trivial
          · exact h2
        refine iteT ⟨_, rfl, _, rfl, _, rfl, _, rfl, _, rfl, lh, d1, d2, kv1, kv2, one, other, h, .ref pq, pt, first, room, r, rfl, SqL.of (e5 _ _ hlh4 nlh), rd_exB hrd1 e5 n1, rd_exB hrd2 e5 n2, lrel_up hr1' t5 k5, lrel_up hr2' t5 k5, ⟨pq, rfl, hpq⟩, hwk, hsh, fun v H6 e6 hv => ⟨_, rfl, rfl, _, rfl, ?_⟩⟩
        rcases hcase with ⟨rfl, rfl⟩ | ⟨ws, g, rfl, h2, rfl⟩
        · obtain rfl : v = .non := hv
          exact ifNF rfl ⟨_, _, _, _, rfl, e5.trans (.of e6), e6 _ _ hdf5, lrel_ex hrelN e6, hN2⟩
        · obtain ⟨a, gv, rfl, hs, hg⟩ : LnkAt K H6 v (joinStr ws, g) := hv
          refine ifNT (fun z => nomatch z) ⟨_, rfl, _, rfl, _, rfl, _, rfl, _, rfl, _, rfl, .ref pq, pt, hN h, first, room, rfl, ⟨pq, rfl, e6 _ _ hpq⟩, fun rv H7 e7 hrv => ?_⟩
          obtain ⟨b7, rfl, hb7⟩ := hrv
          have e67 := Ex.trans e6 e7
          have hdf7 := e67 _ _ hdf5
          have hkl : kvg.length < sizeLine := by
            rw [hrelN.len]
            have h1 := nd.2
            rw [List.length_take] at h1
            have hi2 : i ≤ 1 := by rw [hih]; split <;> omega
            exact small1000 (by omega)
          refine ⟨df, _, rfl, DPut.t (k := portK (outerP pt (hN h) first room)) hdf7 hb7 hkl, ?_⟩
          have t8 : Tt H7 (upd H7 df (.dT (putK kvg (portK (outerP pt (hN h) first room)) (.ref a)))) := Tt.upd (nt_dT hdf7)
          have k8 : Tk K H7 (upd H7 df (.dT (putK kvg (portK (outerP pt (hN h) first room)) (.ref a)))) := Tk.upd (nt_dT hdf7)
          refine ⟨_, _, _, _, rfl, (e5.trans (.of e67)).self, upd_same, ?_, hN2⟩
          exact (lrel_up (lrel_ex hrelN e67) t8 k8).put portK_inj ((LnkAt.ex ⟨a, gv, rfl, hs, hg⟩ e7).up t8 k8) nd.1
    · rintro σ H6 ⟨kvg, N, o7, o8, rfl, e6, hdf6, hrelN, hN'⟩
      have hln : kvh.length = Lh.length := hrh'.len
      rw [hln, List.take_length, hfold] at hN'
      obtain rfl := Option.some.inj hN'
      have hdh6 : H6 dh = some (.frz od (.dT kvh)) := e6 _ _ hdh4 ndh
      have t9 : Tt H6 (upd H6 dh (.dT kvh)) := Tt.upd (nt_frzT hdh6)
      have k9 : Tk K H6 (upd H6 dh (.dT kvh)) := Tk.upd (nt_frzT hdh6)
      have nd := fold_nodup hfold hMn
      refine ⟨hdh6, kvg, M', _, _, _, rfl, fun b o hb hn => ?_, by rw [upd_ne ndh.symm]; exact hdf6, lrel_up hrelN t9 k9, hM', nd.1, by omega⟩
      have hb2 := e3 b o hb hn
      by_cases z : b = dh
      · subst z
        rw [upd_same]
        rw [hdh] at hb2
        exact hb2
      · rw [upd_ne z]
        exact e6 b o (off b o hb2 z) hn
  · rintro σ H2 ⟨kvf, M, o6, o7, o8, rfl, e3, hdf3, hrel, hM, hMn, hMl⟩
    have hM2 : joinedLinks one other first room = some M := hM
    rw [hJ] at hM2
    obtain rfl := Option.some.inj hM2
    refine ⟨_, rfl, q df kvf H2 (fun b o hb => e3 b o (e02 _ _ hb) (ne_of_none hb hdfH)) hdfH hdf3 hrel⟩
end
end Oh

set_option maxHeartbeats 4000000
/-! Oh, part 18: links_of -/
namespace Oh
open PySem PySem.Spec PyProof.Rows L2
open Evl (Ex)
theorem chk_some {k k2 : Kd} {L L2 : Links} (h : chk k L = some (k2, L2)) : k2 = k ∧ L2 = L ∧ k.ends ≤ 60 ∧ k.dep ≤ 10 ∧ L.length ≤ 200 ∧ (L.map (·.1)).Nodup := by
  unfold chk at h
  split at h
  · rename_i c
    obtain ⟨rfl, rfl⟩ := Prod.mk.inj (Option.some.inj h)
    exact ⟨rfl, rfl, c.1, c.2.1, c.2.2.1, c.2.2.2⟩
  · cases h
def Good (k : Kd) (L : Links) : Prop := k.ends ≤ 60 ∧ k.dep ≤ 10 ∧ L.length ≤ 200 ∧ (L.map (·.1)).Nodup
theorem chk_good {k k2 : Kd} {L L2 : Links} (h : chk k L = some (k2, L2)) : Good k2 L2 := by
  obtain ⟨rfl, rfl, h1, h2, h3, h4⟩ := chk_some h
  exact ⟨h1, h2, h3, h4⟩
theorem Tm.links_good (t : Tm) (n : KEnv) (k : Kd) (L : Links) (h : t.links n = some (k, L)) : Good k L := by
  cases t with
  | nm x =>
    unfold Tm.links at h
    split at h
    · cases h
    · exact chk_good h
  | en =>
    unfold Tm.links at h
    obtain ⟨rfl, rfl⟩ := Prod.mk.inj (Option.some.inj h)
    exact ⟨by decide, by decide, by decide, by decide⟩
  | pt b e =>
    unfold Tm.links at h
    split at h
    · cases h
    · split at h
      · cases h
      · split at h
        · exact chk_good h
        · cases h
  | fn x A e =>
    unfold Tm.links at h
    split at h
    · split at h
      · cases h
      · exact chk_good h
    · cases h
  | cl e f =>
    unfold Tm.links at h
    split at h
    · split at h
      · cases h
      · exact chk_good h
    · cases h
section
variable {P : Program} {w : World} {K : PySem.W.Frag} {mg : Str → Option Value} {base : Heap}
abbrev sLinks : Stmt := top 42
theorem scLinks : FnScope ["term", "names", "word", "kind", "links", "inner", "one", "other"] ["term", "names"] (defScope sLinks) := ⟨rfl, rfl, rfl, by decide +kernel, rfl, by decide +kernel, by decide +kernel⟩
def spLinks (K : PySem.W.Frag) (m : Nat) : Sp := fun vs H Q _ => ∃ (x : V) (t : Tm) (d : Addr) (kvs : List (Key × V)) (n : KEnv) (k : Kd) (L : Links), vs = [x, .ref d] ∧ Im K H x t.d ∧ H d = some (.dK kvs) ∧ ERel K H kvs n ∧ (n.map (·.1)).Nodup ∧ n.length + t.size ≤ 500 ∧ t.links n = some (k, L) ∧ t.dep ≤ m ∧
  ∀ p y dl kv H', Ex H H' → H' p = some (.tup [y, .ref dl]) → Im K H' y k.d → H dl = none → H' dl = some (.dT kv) → LRel K H' kv L → Q (.ref p) H'
theorem kn_links (B : Std mg) (C : Cst K mg w) (GN : Kn P w K mg base "named_links" 12 ["name", "kind"] (spNamed K 10)) (GM : Kn P w K mg base "many_ends" 11 ["kind"] (spMany K 10)) (GL : Kn P w K mg base "moved_links" 2 ["links", "moves"] (spMovedL K)) (GJ : Kn P w K mg base "joined_links" 3 ["one", "other", "first", "room"] (spJoined K)) (S : Src K mg "links_of" sLinks ["term", "names"]) : ∀ m : Nat, Kn P w K mg base "links_of" (m + 13) ["term", "names"] (spLinks K m)
  | 0 => S.kn0 fun vs H Q E h => by
    obtain ⟨x, t, _, _, _, _, _, _, _, _, _, _, _, _, hd, _⟩ := h
    cases t <;> simp [Tm.dep] at hd
  | m + 1 => by
    have G := kn_links B C GN GM GL GJ S m
    obtain ⟨aT, mT, hT⟩ := C.text
    obtain ⟨to, mo⟩ := C.own
    refine S.kn scLinks (fun vs H Q E h => ?_) (fun f cdv A outer s H vs Q E hr h => ?_)
    · obtain ⟨x, t, d, kvs, n, k, L, rfl, _⟩ := h
      rfl
    obtain ⟨x, t, d, kvs, n, k, L, rfl, hx, hd, hn, hnd, hlen, hk, hdp, q⟩ := h
    have hu := hu_of hr
    have hr12 : Room 12 _ := hr.mono (show 12 ≤ m + 13 by omega)
    have hr11 : Room 11 _ := hr.mono (show 11 ≤ m + 13 by omega)
    have hr3 : Room 3 _ := hr.mono (show 3 ≤ m + 13 by omega)
    have hr2 : Room 2 _ := hr.mono (show 2 ≤ m + 13 by omega)
    refine ⟨_, (pss_cons (ps_set (i := 2) scLinks.nd rfl (.inl rfl) ((pe_ix ix_tup (pv 0) pe_int (fun _ _ => rfl)))) (pss_cons (ps_if (pt_cmpR op_eq (pv 2) (pe_str) (nomark _)) (pss_one (ps_ret (pe_tup (pa_cons ((pe_dget hu (pv 1) ((pe_ix ix_tup (pv 0) pe_int (fun _ _ => rfl))) (fun _ _ => rfl))) (pa_cons ((pe_kn GN hr12 (pa_cons ((pe_ix ix_tup (pv 0) pe_int (fun _ _ => rfl))) (pa_cons ((pe_dget hu (pv 1) ((pe_ix ix_tup (pv 0) pe_int (fun _ _ => rfl))) (fun _ _ => rfl))) pa_nil)))) pa_nil))))) pss_nil) (pss_cons (ps_if (pt_cmpR op_eq (pv 2) (pe_str) (nomark _)) (pss_one (ps_ret (pe_tup (pa_cons (pe_glob (v := .ref aT) rfl mT rfl) (pa_cons (pe_dispT hu (pe_tup (pa_cons (pe_glob (v := .str "") rfl mo ⟨_, rfl⟩) (pa_cons (pe_int) pa_nil))) (pe_tup (pa_cons (pe_str) (pa_cons (pe_non) pa_nil)))) pa_nil))))) pss_nil) (pss_cons (ps_if (pt_cmpR op_eq (pv 2) (pe_str) (nomark _)) (pss_cons (ps_asg (pe_kn G hr (pa_cons ((pe_ix ix_tup (pv 0) pe_int (fun _ _ => rfl))) (pa_cons (pv 1) pa_nil))) (pg_tup (by rfl) (pgs_cons ((pg_name (i := 3) scLinks.nd rfl (.inl rfl))) (pgs_cons ((pg_name (i := 4) scLinks.nd rfl (.inl rfl))) pgs_nil)))) (pss_cons (ps_dput hu (pv 4) (pe_tup (pa_cons (pe_glob (v := .str "") rfl mo ⟨_, rfl⟩) (pa_cons (pe_int) pa_nil))) (pe_tup (pa_cons ((pe_op op_add_str ((pe_ix ix_tup (pv 0) pe_int (fun _ _ => rfl))) ((pe_ix ix_tup ((pe_dget hu (pv 4) ((pe_tup (pa_cons (pe_glob (v := .str "") rfl mo ⟨_, rfl⟩) (pa_cons (pe_int) pa_nil)))) (fun _ _ => rfl))) pe_int (fun _ _ => rfl))))) (pa_cons ((pe_ix ix_tup ((pe_dget hu (pv 4) ((pe_tup (pa_cons (pe_glob (v := .str "") rfl mo ⟨_, rfl⟩) (pa_cons (pe_int) pa_nil)))) (fun _ _ => rfl))) pe_int (fun _ _ => rfl))) pa_nil))) rfl) (pss_one (ps_ret (pe_tup (pa_cons (pv 3) (pa_cons (pv 4) pa_nil))))))) pss_nil) (pss_cons (ps_if (pt_cmpR op_eq (pv 2) (pe_str) (nomark _)) (pss_cons (ps_set (i := 5) scLinks.nd rfl (.inl rfl) (pe_callTy (call_dictP (by rfl)) rfl B.dict (by decide +kernel) (pa_cons (LiI.pe_listItems (by rfl) (pv 1) rfl B.list (by decide +kernel)) pa_nil))) (pss_cons (ps_dput hu (pv 5) (pe_ix ix_tup (pv 0) pe_int (fun _ _ => rfl)) (pe_ix ix_tup (pv 0) pe_int (fun _ _ => rfl)) rfl) (pss_cons (ps_asg (pe_kn G hr (pa_cons ((pe_ix ix_tup (pv 0) pe_int (fun _ _ => rfl))) (pa_cons (pv 5) pa_nil))) (pg_tup (by rfl) (pgs_cons ((pg_name (i := 3) scLinks.nd rfl (.inl rfl))) (pgs_cons ((pg_name (i := 4) scLinks.nd rfl (.inl rfl))) pgs_nil)))) (pss_one (ps_ret (pe_tup (pa_cons ((pe_tup (pa_cons (pe_str) (pa_cons ((pe_ix ix_tup (pv 0) pe_int (fun _ _ => rfl))) (pa_cons (pv 3) pa_nil))))) (pa_cons ((pe_kn GL hr2 (pa_cons (pv 4) (pa_cons (pe_disp (pps_cons (pe_glob (v := .str "") rfl mo ⟨_, rfl⟩) (pe_tup (pa_cons (pe_glob (v := .str "") rfl mo ⟨_, rfl⟩) (pa_cons ((pe_kn GM hr11 (pa_cons ((pe_ix ix_tup (pv 0) pe_int (fun _ _ => rfl))) pa_nil))) pa_nil))) (pps_cons (pe_ix ix_tup (pv 0) pe_int (fun _ _ => rfl)) (pe_tup (pa_cons (pe_glob (v := .str "") rfl mo ⟨_, rfl⟩) (pa_cons (pe_int) pa_nil))) pps_nil)) (by rfl) (by rfl) (by simp) (by decide)) pa_nil)))) pa_nil)))))))) pss_nil) (pss_cons (ps_asg (pe_kn G hr (pa_cons ((pe_ix ix_tup (pv 0) pe_int (fun _ _ => rfl))) (pa_cons (pv 1) pa_nil))) (pg_tup (by rfl) (pgs_cons ((pg_name (i := 3) scLinks.nd rfl (.inl rfl))) (pgs_cons ((pg_name (i := 6) scLinks.nd rfl (.inl rfl))) pgs_nil)))) (pss_cons (ps_set (i := 7) scLinks.nd rfl (.inl rfl) ((pe_ix ix_tup ((pe_kn G hr (pa_cons ((pe_ix ix_tup (pv 0) pe_int (fun _ _ => rfl))) (pa_cons (pv 1) pa_nil)))) pe_int (fun _ _ => rfl)))) (pss_one (ps_ret (pe_tup (pa_cons ((pe_ix ix_tup (pv 3) pe_int (fun _ _ => rfl))) (pa_cons ((pe_kn GJ hr3 (pa_cons (pv 6) (pa_cons (pv 7) (pa_cons (pe_int) (pa_cons ((pe_kn GM hr11 (pa_cons ((pe_ix ix_tup (pv 3) pe_int (fun _ _ => rfl))) pa_nil))) pa_nil)))))) pa_nil)))))))))))), ?_⟩
    have s2 : 2 ≤ sizeLine := by decide
    have s3 : 3 ≤ sizeLine := by decide
    obtain ⟨a, r, rfl, hs, _⟩ := Tm.node hx
    refine ⟨_, rfl, a, _, 0, _, rfl, rfl, hs, atI_nat (j := 0) rfl, _, rfl, rfl, _, rfl, ?_⟩
    cases t with
    | nm z =>
      obtain ⟨b, u, v, eb, hs', _, h1⟩ := hx.t2
      cases eb
      obtain rfl := h1.s
      unfold Tm.links at hk
      cases hl : lookA n z with
      | none => rw [hl] at hk; cases hk
      | some k0 =>
        rw [hl] at hk
        obtain ⟨rfl, rfl, c1, c2, c3, c4⟩ := chk_some hk
        obtain ⟨v, hv1, hv2⟩ := hn.get inr_inj hl
        have hget : DGet H d (.str z) (some v) := by rw [← hv1]; exact DGet.k (k := Sum.inr z) hd
        refine ifT rfl ⟨_, rfl, _, rfl, a, _, 1, _, rfl, rfl, hs', atI_nat (j := 1) rfl, d, v, rfl, hget, _, rfl, a, _, 1, _, rfl, rfl, hs', atI_nat (j := 1) rfl, _, rfl, _, rfl, a, _, 1, _, rfl, rfl, hs', atI_nat (j := 1) rfl, d, v, rfl, hget, z, v, k, rfl, hv2, c1, c2, fun p kv' H1 e1 hp0 hp1 hrel => ⟨s2, fun g hg => ?_⟩⟩
        have e2 : Ex H1 (upd H1 g (.tup [v, .ref p])) := Ex.new hg
        exact q g v p kv' _ (e1.trans e2) upd_same (hv2.ex (e1.trans e2)) hp0 (e2 _ _ hp1) (lrel_ex hrel e2)
    | en =>
      unfold Tm.links at hk
      obtain ⟨rfl, rfl⟩ := Prod.mk.inj (Option.some.inj hk)
      refine ifF (vne rfl) ⟨_, rfl, rfl, _, rfl, ifT rfl fun p hp => ⟨s2, fun g1 hg1 => ⟨s2, fun g2 hg2 => ?_⟩⟩⟩
      have e1 : Ex H (upd H p (.dT [])) := Ex.new hp
      have e2 : Ex (upd H p (.dT [])) (upd (upd H p (.dT [])) g1 (.tup [.str "", .int 0])) := Ex.new hg1
      have e3 : Ex (upd (upd H p (.dT [])) g1 (.tup [.str "", .int 0])) (upd (upd (upd H p (.dT [])) g1 (.tup [.str "", .int 0])) g2 (.tup [.str "", .non])) := Ex.new hg2
      have hp3 := (e2.trans e3) _ _ (upd_same (H := H) (a := p) (o := .dT []))
      have hg13 := e3 _ _ (upd_same (H := upd H p (.dT [])) (a := g1) (o := .tup [.str "", .int 0]))
      have hg23 : (upd (upd (upd H p (.dT [])) g1 (.tup [.str "", .int 0])) g2 (.tup [.str "", .non])) g2 = some (.tup [.str "", .non]) := upd_same
      have e03 := (e1.trans e2).trans e3
      generalize upd (upd (upd H p (.dT [])) g1 (.tup [.str "", .int 0])) g2 (.tup [.str "", .non]) = H3 at e03 hp3 hg13 hg23
      refine ⟨hp3, g1, portK ("", 0), rfl, hg13, s2, fun g hg => ?_⟩
      have e4 : Ex (upd H3 p (.dT [(portK ("", 0), .ref g2)])) (upd (upd H3 p (.dT [(portK ("", 0), .ref g2)])) g (.tup [.ref aT, .ref p])) := Ex.new hg
      have t4 : Tk K H3 (upd H3 p (.dT [(portK ("", 0), .ref g2)])) := Tk.upd (nt_dT hp3)
      refine q g (.ref aT) p [(portK ("", 0), .ref g2)] _ (Ex.trans (e03.mut hp) e4) upd_same (.tup (hT _) (.cons (.str _) .nil)) hp (e4 _ _ upd_same) (.cons ?_ .nil)
      exact ⟨g2, .non, rfl, (tk e4) _ _ (t4 _ _ (SqT.of hg23)), rfl⟩
    | pt b0 e =>
      obtain ⟨b, u, v1, v2, eb, hs', _, h1, h2⟩ := hx.t3
      cases eb
      obtain rfl := h1.s
      unfold Tm.links at hk
      cases he : e.links n with
      | none => rw [he] at hk; cases hk
      | some kl =>
        obtain ⟨k0, L0⟩ := kl
        rw [he] at hk
        simp only at hk
        cases hl : lookA L0 ("", 0) with
        | none => rw [hl] at hk; cases hk
        | some wg =>
          obtain ⟨w1, g0⟩ := wg
          rw [hl] at hk
          simp only at hk
          split at hk
          · rename_i hlen2
            obtain ⟨rfl, rfl, c1, c2, c3, c4⟩ := chk_some hk
            have hg0 := Tm.links_good e n _ _ he
            have hsz : n.length + (e.size + 1) ≤ 500 := hlen
            have hdp' : e.dep + 1 ≤ m + 1 := hdp
            refine ifF (vne rfl) ⟨_, rfl, rfl, _, rfl, ifF (vne rfl) ⟨_, rfl, rfl, _, rfl, ifT rfl ⟨_, rfl, a, _, 2, _, rfl, rfl, hs', atI_nat (j := 2) rfl, _, rfl, v2, e, d, kvs, n, k, L0, rfl, h2, hd, hn, hnd, by omega, he, by omega, fun p y dl kv H1 e1 hp hy hdl0 hdl1 hrel => ?_⟩⟩⟩
            refine ⟨p, _, rfl, SqT.of hp, rfl, _, _, rfl, _, _, rfl, rfl, ?_⟩
            have hs1 := tk e1 _ _ hs'
            obtain ⟨v0, hv0, hvl⟩ := hrel.get portK_inj hl
            obtain ⟨a2, gv, rfl, hsa, hgv⟩ := hvl
            refine ⟨_, rfl, a, _, 1, _, rfl, rfl, hs1, atI_nat (j := 1) rfl, _, rfl, s2, fun g1 hg1 => ?_⟩
            have f1 : Ex H1 (upd H1 g1 (.tup [.str "", .int 0])) := Ex.new hg1
            have hg1' : (upd H1 g1 (.tup [.str "", .int 0])) g1 = some (.tup [.str "", .int 0]) := upd_same
            generalize upd H1 g1 (.tup [.str "", .int 0]) = H2 at f1 hg1'
            refine ⟨dl, .ref a2, rfl, by rw [← hv0]; exact DGet.tr (.inl (f1 _ _ hdl1)) hg1', a2, _, 0, _, rfl, rfl, tk f1 _ _ hsa, atI_nat (j := 0) rfl, b0, w1, rfl, rfl, sl (by have := hlen2; rw [PySem.Str.length_append] at this; exact this), ?_⟩
            refine ⟨_, rfl, s2, fun g2 hg2 => ?_⟩
            have f2 : Ex H2 (upd H2 g2 (.tup [.str "", .int 0])) := Ex.new hg2
            have hg2' : (upd H2 g2 (.tup [.str "", .int 0])) g2 = some (.tup [.str "", .int 0]) := upd_same
            generalize upd H2 g2 (.tup [.str "", .int 0]) = H3 at f2 hg2'
            have f12 := f1.trans f2
            refine ⟨dl, .ref a2, rfl, by rw [← hv0]; exact DGet.tr (.inl (f12 _ _ hdl1)) hg2', a2, _, 1, _, rfl, rfl, tk f12 _ _ hsa, atI_nat (j := 1) rfl, s2, fun g3 hg3 => ⟨_, rfl, s2, fun g4 hg4 => ?_⟩⟩
            have f3 : Ex H3 (upd H3 g3 (.tup [.str (b0 ++ w1), gv])) := Ex.new hg3
            have hg3' : (upd H3 g3 (.tup [.str (b0 ++ w1), gv])) g3 = some (.tup [.str (b0 ++ w1), gv]) := upd_same
            generalize upd H3 g3 (.tup [.str (b0 ++ w1), gv]) = H4 at f3 hg3' hg4
            have f4 : Ex H4 (upd H4 g4 (.tup [.str "", .int 0])) := Ex.new hg4
            have hg4' : (upd H4 g4 (.tup [.str "", .int 0])) g4 = some (.tup [.str "", .int 0]) := upd_same
            generalize upd H4 g4 (.tup [.str "", .int 0]) = H5 at f4 hg4'
            have f35 := f3.trans f4
            have f15 := f12.trans f35
            have hdl5 := f15 _ _ hdl1
            refine ⟨dl, _, rfl, DPut.t (k := portK ("", 0)) hdl5 hg4' (small1000 (by rw [hrel.len]; have := hg0.2.2.1; omega)), _, rfl, _, rfl, s2, fun g5 hg5 => ?_⟩
            have t6 : Tt H5 (upd H5 dl (.dT (putK kv (portK ("", 0)) (.ref g3)))) := Tt.upd (nt_dT hdl5)
            have k6 : Tk K H5 (upd H5 dl (.dT (putK kv (portK ("", 0)) (.ref g3)))) := Tk.upd (nt_dT hdl5)
            have e6 : Ex H (upd H5 dl (.dT (putK kv (portK ("", 0)) (.ref g3)))) := (e1.trans f15).mut hdl0
            have hdl6 : (upd H5 dl (.dT (putK kv (portK ("", 0)) (.ref g3)))) dl = some (.dT (putK kv (portK ("", 0)) (.ref g3))) := upd_same
            have hr6 := lrel_up (lrel_ex hrel f15) t6 k6
            have hy6 := (hy.ex f15).up k6
            have hl6 : LnkAt K (upd H5 dl (.dT (putK kv (portK ("", 0)) (.ref g3)))) (.ref g3) (b0 ++ w1, g0) := LnkAt.up ⟨g3, gv, rfl, SqT.of (f4 _ _ hg3'), (hgv.ex f12).ex f35⟩ t6 k6
            generalize upd H5 dl (.dT (putK kv (portK ("", 0)) (.ref g3))) = H6 at e6 hdl6 hr6 hy6 hl6 hg5
            have e7 : Ex H6 (upd H6 g5 (.tup [y, .ref dl])) := Ex.new hg5
            exact q g5 y dl _ _ (e6.trans e7) upd_same (hy6.ex e7) hdl0 (e7 _ _ hdl6) (lrel_ex (hr6.put portK_inj hl6 hg0.2.2.2) e7)
          · cases hk
    | fn z A0 e =>
      obtain ⟨b, u, v1, v2, v3, eb, hs', _, h1, h2, h3⟩ := hx.t4
      cases eb
      obtain rfl := h1.s
      unfold Tm.links at hk
      split at hk
      · rename_i hc
        cases he : e.links (putA n z A0) with
        | none => rw [he] at hk; cases hk
        | some kl =>
          obtain ⟨k0, L0⟩ := kl
          rw [he] at hk
          simp only at hk
          obtain ⟨rfl, rfl, c1, c2, c3, c4⟩ := chk_some hk
          have hg0 := Tm.links_good e _ _ _ he
          have hsz : n.length + (e.size + 1) ≤ 500 := hlen
          have hdp' : e.dep + 1 ≤ m + 1 := hdp
          have hpl := len_put (a := z) (b := A0) (L := n)
          refine ifF (vne rfl) ⟨_, rfl, rfl, _, rfl, ifF (vne rfl) ⟨_, rfl, rfl, _, rfl, ifF (vne rfl) ⟨_, rfl, rfl, _, rfl, ifT rfl ⟨_, rfl, d, kvs, rfl, hd, fun H1 p ts e1 hp hts hpt hp1 hpair => ⟨p, ts, kvs, rfl, SqL.of hp1, drel_pairs hpair, fun g hg => ?_⟩⟩⟩⟩⟩
          have e1 : Ex H H1 := e1
          have hnk : (kvs.map (·.1)).Nodup := by rw [hn.keys]; exact nodup_f inr_inj hnd
          rw [merge_nil hnk]
          have e2 : Ex H1 (upd H1 g (.dK kvs)) := Ex.new hg
          have e12 : Ex H (upd H1 g (.dK kvs)) := Ex.trans (H1 := H1) e1 e2
          have hgH : H g = none := Evl.fresh_back e1 hg
          have hg2 : (upd H1 g (.dK kvs)) g = some (.dK kvs) := upd_same
          generalize upd H1 g (.dK kvs) = H2 at e12 hg2
          have hs2 := tk e12 _ _ hs'
          refine ⟨_, rfl, a, _, 2, _, rfl, rfl, hs2, atI_nat (j := 2) rfl, _, rfl, _, rfl, a, _, 1, _, rfl, rfl, hs2, atI_nat (j := 1) rfl, g, _, rfl, DPut.k (k := Sum.inr z) hg2 (small1000 (by rw [hn.len]; omega)), ?_⟩
          have k3 : Tk K H2 (upd H2 g (.dK (putK kvs (Sum.inr z) v2))) := Tk.upd (nt_dK hg2)
          have e3 : Ex H (upd H2 g (.dK (putK kvs (Sum.inr z) v2))) := e12.mut hgH
          have hg3 : (upd H2 g (.dK (putK kvs (Sum.inr z) v2))) g = some (.dK (putK kvs (Sum.inr z) v2)) := upd_same
          have hn3 : ERel K _ (putK kvs (Sum.inr z) v2) (putA n z A0) := ((hn.up (tk e12)).up k3).put inr_inj ((h2.ex e12).up k3) hnd
          generalize upd H2 g (.dK (putK kvs (Sum.inr z) v2)) = H3 at e3 hg3 hn3
          have hs3 := tk e3 _ _ hs'
          refine ⟨_, rfl, a, _, 3, _, rfl, rfl, hs3, atI_nat (j := 3) rfl, _, rfl, v3, e, g, _, putA n z A0, k0, L0, rfl, h3.ex e3, hg3, hn3, nodup_put hnd, by omega, he, by omega, fun p1 y dl kv H4 e4 hp4 hy4 hdl3 hdl4 hrel4 => ?_⟩
          have e04 := e3.trans e4
          have hs4 := tk e04 _ _ hs'
          refine ⟨p1, _, rfl, SqT.of hp4, rfl, _, _, rfl, _, _, rfl, rfl, ?_⟩
          refine ⟨_, rfl, a, _, 2, _, rfl, rfl, hs4, atI_nat (j := 2) rfl, _, rfl, s3, fun g5 hg5 => ?_⟩
          have e5 : Ex H4 (upd H4 g5 (.tup [.str "to", v2, y])) := Ex.new hg5
          have hto : Im K (upd H4 g5 (.tup [.str "to", v2, y])) (.ref g5) (Kd.to A0 k0).d := Im.mk3 upd_same (.str _) (h2.ex (e04.trans e5)) (hy4.ex e5)
          have hdl5 := e5 _ _ hdl4
          have hrel5 := lrel_ex hrel4 e5
          have e05 := e04.trans e5
          generalize upd H4 g5 (.tup [.str "to", v2, y]) = H5 at hto hdl5 hrel5 e05
          refine ⟨_, rfl, fun pd hpd => ?_⟩
          have e6 : Ex H5 (upd H5 pd (.dK [])) := Ex.new hpd
          have hpd6 : (upd H5 pd (.dK [])) pd = some (.dK []) := upd_same
          generalize upd H5 pd (.dK []) = H6 at e6 hpd6
          have e06 := e05.trans e6
          have hs6 := tk e06 _ _ hs'
          refine ⟨_, rfl, a, _, 2, _, rfl, rfl, hs6, atI_nat (j := 2) rfl, v2, A0, rfl, h2.ex e06, by omega, hc.2.1, fun H7 e7 => ⟨s2, fun g8 hg8 => ?_⟩⟩
          have e8 : Ex H7 (upd H7 g8 (.tup [.str "", .int A0.ends])) := Ex.new hg8
          have hg8' : (upd H7 g8 (.tup [.str "", .int A0.ends])) g8 = some (.tup [.str "", .int A0.ends]) := upd_same
          generalize upd H7 g8 (.tup [.str "", .int A0.ends]) = H8 at e8 hg8'
          have e78 := e7.trans e8
          have hs8 := tk (e06.trans e78) _ _ hs'
          refine ⟨_, rfl, a, _, 1, _, rfl, rfl, hs8, atI_nat (j := 1) rfl, s2, fun g9 hg9 => ?_⟩
          have e9 : Ex H8 (upd H8 g9 (.tup [.str "", .int 0])) := Ex.new hg9
          have hg9' : (upd H8 g9 (.tup [.str "", .int 0])) g9 = some (.tup [.str "", .int 0]) := upd_same
          generalize upd H8 g9 (.tup [.str "", .int 0]) = H9 at e9 hg9'
          have e69 := e78.trans e9
          have hpd9 := e69 _ _ hpd6
          have hpdH : H pd = none := Evl.fresh_back e05 hpd
          have ndz : (([(Sum.inr "", V.ref g8), (Sum.inr z, V.ref g9)] : List (Key × V)).map (·.1)).Nodup := by
            refine List.nodup_cons.mpr ⟨fun hm => ?_, List.nodup_cons.mpr ⟨by simp, List.nodup_nil⟩⟩
            rw [List.map_cons, List.map_nil, List.mem_singleton] at hm
            exact hc.2.2 (Sum.inr.inj hm).symm
          refine ⟨hpd9, [(Sum.inr "", .ref g8), (Sum.inr z, .ref g9)], rfl, by show 2 ≤ 15; decide, ?_⟩
          rw [merge_nil ndz]
          have kA : Tk K H9 (upd H9 pd (.dK [(Sum.inr "", .ref g8), (Sum.inr z, .ref g9)])) := Tk.upd (nt_dK hpd9)
          have tA : Tt H9 (upd H9 pd (.dK [(Sum.inr "", .ref g8), (Sum.inr z, .ref g9)])) := Tt.upd (nt_dK hpd9)
          have eA : Ex H5 (upd H9 pd (.dK [(Sum.inr "", .ref g8), (Sum.inr z, .ref g9)])) := (e6.trans e69).mut hpd
          have hpdA : (upd H9 pd (.dK [(Sum.inr "", .ref g8), (Sum.inr z, .ref g9)])) pd = some (.dK [(Sum.inr "", .ref g8), (Sum.inr z, .ref g9)]) := upd_same
          have hg8A := tA _ _ (e9 _ _ hg8')
          have hg9A := tA _ _ hg9'
          generalize upd H9 pd (.dK [(Sum.inr "", .ref g8), (Sum.inr z, .ref g9)]) = HA at eA hpdA hg8A hg9A
          refine ⟨dl, pd, kv, L0, _, [("", ("", (A0.ends : Int))), (z, ("", 0))], rfl, eA _ _ hdl5, lrel_ex hrel5 eA, hg0.2.2.2, hg0.2.2.1, hpdA, .cons (Im.mk2 hg8A (.str _) (.int _)) (.cons (Im.mk2 hg9A (.str _) (.int _)) .nil), fun pB kvB HB eB hpB hpB1 hrelB => ⟨s2, fun gC hgC => ?_⟩⟩
          have eC : Ex HB (upd HB gC (.tup [.ref g5, .ref pB])) := Ex.new hgC
          have eAB := eA.trans eB
          exact q gC (.ref g5) pB kvB _ ((e05.trans eAB).trans eC) upd_same (hto.ex (eAB.trans eC)) (Evl.fresh_back (e05.trans eA) hpB) (eC _ _ hpB1) (lrel_ex hrelB eC)
      · cases hk
    | cl e f =>
      obtain ⟨b, u, v1, v2, eb, hs', _, h1, h2⟩ := hx.t3
      cases eb
      unfold Tm.links at hk
      split at hk
      · rename_i A0 B0 L1 k2 L2 he hf
        cases hj : joinedLinks L1 L2 0 A0.ends with
        | none => rw [hj] at hk; cases hk
        | some J =>
          rw [hj] at hk
          obtain ⟨rfl, rfl, c1, c2, c3, c4⟩ := chk_some hk
          have hg1 := Tm.links_good e _ _ _ he
          have hg2 := Tm.links_good f _ _ _ hf
          have hsz : n.length + (e.size + f.size + 1) ≤ 500 := hlen
          have hdp' : max e.dep f.dep + 1 ≤ m + 1 := hdp
          have hAB : A0.ends + k.ends ≤ 60 := hg1.1
          have hABd : max A0.dep k.dep + 1 ≤ 10 := hg1.2.1
          refine ifF (vne rfl) ⟨_, rfl, rfl, _, rfl, ifF (vne rfl) ⟨_, rfl, rfl, _, rfl, ifF (vne rfl) ⟨_, rfl, rfl, _, rfl, ifF (vne rfl) ?_⟩⟩⟩
          refine ⟨_, rfl, a, _, 1, _, rfl, rfl, hs', atI_nat (j := 1) rfl, _, rfl, v1, e, d, kvs, n, .to A0 k, L1, rfl, h1, hd, hn, hnd, by omega, he, by omega, fun p1 y1 dl1 kv1 H1 e1 hp1 hy1 hz1 hdl1 hrel1 => ?_⟩
          refine ⟨p1, _, rfl, SqT.of hp1, rfl, _, _, rfl, _, _, rfl, rfl, ?_⟩
          refine ⟨_, rfl, a, _, 2, _, rfl, rfl, tk e1 _ _ hs', atI_nat (j := 2) rfl, _, rfl, v2, f, d, kvs, n, k2, L2, rfl, h2.ex e1, e1 _ _ hd, hn.up (tk e1), hnd, by omega, hf, by omega, fun p2 y2 dl2 kv2 H2 e2 hp2 hy2 hz2 hdl2 hrel2 => ?_⟩
          refine ⟨p2, _, 1, _, rfl, rfl, SqT.of hp2, atI_nat (j := 1) rfl, ?_⟩
          obtain ⟨pk, w0, va, vb, rfl, hsk, hw0, hva, hvb⟩ := hy1.t3
          have hsk2 := tk e2 _ _ hsk
          refine ⟨_, rfl, pk, _, 2, _, rfl, rfl, hsk2, atI_nat (j := 2) rfl, _, rfl, _, rfl, _, rfl, pk, _, 1, _, rfl, rfl, hsk2, atI_nat (j := 1) rfl, va, A0, rfl, hva.ex e2, by omega, by omega, fun H3 e3 => ?_⟩
          refine ⟨dl1, dl2, kv1, kv2, L1, L2, 0, A0.ends, L, rfl, (e2.trans e3) _ _ hdl1, e3 _ _ hdl2, lrel_ex hrel1 (e2.trans e3), lrel_ex hrel2 e3, hg1.2.2.1, hg2.2.2.1, hj, fun p4 kv4 H4 e4 hp4 hp4' hrel4 => ⟨s2, fun g hg => ?_⟩⟩
          have e5 : Ex H4 (upd H4 g (.tup [vb, .ref p4])) := Ex.new hg
          have e03 := (e1.trans e2).trans e3
          exact q g vb p4 kv4 _ ((e03.trans e4).trans e5) upd_same (hvb.ex (((e2.trans e3).trans e4).trans e5)) (Evl.fresh_back e03 hp4) (e5 _ _ hp4') (lrel_ex hrel4 e5)
      · cases hk
end
end Oh

set_option maxHeartbeats 4000000
/-! Oh, part 19: tables -/
namespace Oh
open PySem PySem.Spec PyProof.Rows L2
open Evl (Ex)
theorem prune_nil {D : PartsD} {L : Links} {m : Nat} {found T : Tab} (h : pruneGo D L m [] found = some T) : T = found := by
  cases m with
  | zero => cases h
  | succ n => exact (Option.some.inj h).symm
theorem prune_len {D : PartsD} {L : Links} {m : Nat} {left : List Int} {found T : Tab} (h : pruneGo D L m left found = some T) : left.length ≤ 100 ∧ 1 ≤ m := by
  cases m with
  | zero => cases h
  | succ n =>
    unfold pruneGo at h
    split at h
    · cases h
    · rename_i hl
      exact ⟨by omega, by omega⟩
theorem prune_snoc {D : PartsD} {L : Links} {m : Nat} {left : List Int} {e : Int} {found T : Tab} (h : pruneGo D L m (left ++ [e]) found = some T) :
    ∃ n w g, m = n + 1 ∧ lookA L ("", e) = some (w, g) ∧ ((g = none ∧ pruneGo D L n left (found ++ [(e, w, none)]) = some T) ∨ ∃ q more, g = some q ∧ lookA D q.2 = some more ∧ pruneGo D L n (left ++ more) (found ++ [(e, w, some q.2)]) = some T) := by
  cases m with
  | zero => cases h
  | succ n =>
    unfold pruneGo at h
    split at h
    · cases h
    · rw [List.getLast?_concat] at h
      simp only at h
      cases hl : lookA L ("", e) with
      | none => rw [hl] at h; cases h
      | some wg =>
        obtain ⟨w, g⟩ := wg
        rw [hl] at h
        simp only at h
        refine ⟨n, w, g, rfl, rfl, ?_⟩
        cases g with
        | none =>
          simp only [List.dropLast_concat] at h
          exact .inl ⟨rfl, h⟩
        | some q =>
          simp only at h
          cases hm : lookA D q.2 with
          | none => rw [hm] at h; cases h
          | some more =>
            rw [hm] at h
            simp only [List.dropLast_concat] at h
            exact .inr ⟨q, more, rfl, hm, h⟩
theorem perm_map {α β : Type} {f : α → β} {m m' : List β} (h : m.Perm m') : ∀ l : List α, m' = l.map f → ∃ l' : List α, l'.Perm l ∧ m = l'.map f := by
  induction h with
  | nil =>
    intro l e
    exact ⟨l, .refl _, e⟩
  | @cons x a b h ih =>
    intro l e
    cases l with
    | nil => cases e
    | cons y l =>
      rw [List.map_cons] at e
      injection e with e1 e2
      obtain ⟨l', h1, h2⟩ := ih l e2
      exact ⟨y :: l', h1.cons y, by rw [List.map_cons, ← h2, e1]⟩
  | swap x y r =>
    intro l e
    match l, e with
    | p :: q :: l, e =>
      rw [List.map_cons, List.map_cons] at e
      injection e with e1 e2
      injection e2 with e2 e3
      exact ⟨q :: p :: l, .swap _ _ _, by rw [List.map_cons, List.map_cons, e1, e2, e3]⟩
    | [_], e => simp at e
    | [], e => simp at e
  | trans h1 h2 ih1 ih2 =>
    intro l e
    obtain ⟨l2, p2, e2⟩ := ih2 l e
    obtain ⟨l1, p1, e1⟩ := ih1 l2 e2
    exact ⟨l1, p1.trans p2, e1⟩
section
variable {P : Program} {w : World} {K : PySem.W.Frag} {mg : Str → Option Value} {base : Heap}
theorem imA_rows {H : Hp} : ∀ {rows : List (Addr × Row)}, (∀ r ∈ rows, Im K H (.ref r.1) (rowD r.2)) → ImA K H (rows.map fun r => V.ref r.1) ((rows.map (·.2)).map rowD)
  | [], _ => .nil
  | r :: rows, h => .cons (h r List.mem_cons_self) (imA_rows fun q hq => h q (List.mem_cons_of_mem _ hq))
theorem imA_ints {H : Hp} : ∀ {l : List Int} {vs : List V}, ImA K H vs (l.map PyData.int) → vs = l.map V.int
  | [], _, h => h.e
  | i :: l, _, h => by
    obtain ⟨v, r, rfl, h1, h2⟩ := h.c
    rw [h1.i, imA_ints h2]; rfl
abbrev sPruned : Stmt := top 43
theorem scPruned : FnScope ["kind", "links", "parts", "found", "left", "end", "word", "goal"] ["kind", "links"] (defScope sPruned) := ⟨rfl, rfl, rfl, by decide +kernel, rfl, by decide +kernel, by decide +kernel⟩
def spPruned (K : PySem.W.Frag) : Sp := fun vs H Q _ => ∃ (x : V) (k : Kd) (dl : Addr) (kv : List (List Key × V)) (L : Links) (T : Tab), vs = [x, .ref dl] ∧ Im K H x k.d ∧ k.ends ≤ 60 ∧ k.dep ≤ 10 ∧ H dl = some (.dT kv) ∧ LRel K H kv L ∧ pruned k L = some T ∧
  ∀ a T' H', Ex H H' → T'.Perm T → Im K H' (.ref a) (tabD T') → Q (.ref a) H'
def prunedW (K : PySem.W.Frag) (H : Hp) (x : V) (k : Kd) (dl p lf ll : Addr) (kvp : List (Key × V)) (D : PartsD) (L : Links) (T : Tab) : Nat → L2.St → Hp → Prop := fun m σ H1 => ∃ (left : List Int) (rows : List (Addr × Row)) (o5 o6 o7 : Option V),
  σ = [some x, some (.ref dl), some (.ref p), some (.ref lf), some (.ref ll), o5, o6, o7] ∧ Ex H H1 ∧ H1 p = some (.dK kvp) ∧ PRel K H1 kvp D ∧ H1 lf = some (.lst (rows.map fun r => V.ref r.1)) ∧ H1 ll = some (.lst (left.map V.int)) ∧ (∀ r ∈ rows, Im K H1 (.ref r.1) (rowD r.2)) ∧ pruneGo (partsOf k) L m left (rows.map (·.2)) = some T ∧ rows.length + m ≤ 20
theorem kn_pruned (B : Std mg) (C : Cst K mg w) (GP : Kn P w K mg base "parts_of_ends" 13 ["kind"] (spParts K 10)) (GM : Kn P w K mg base "many_ends" 11 ["kind"] (spMany K 10)) (SF : Src K mg "first_of" sFirst ["link"]) (S : Src K mg "pruned" sPruned ["kind", "links"]) : Kn P w K mg base "pruned" 14 ["kind", "links"] (spPruned K) := by
  obtain ⟨to, mo⟩ := C.own
  obtain ⟨ff, fd, FF, mf, _⟩ := SF.ex
  refine S.kn scPruned (fun vs H Q E h => ?_) (fun f cdv A outer s H vs Q E hr h => ?_)
  · obtain ⟨x, k, dl, kv, L, T, rfl, _⟩ := h
    rfl
  obtain ⟨x, k, dl, kv, L, T, rfl, hx, hk, hdp, hdl, hrel, hT, q⟩ := h
  have hu := hu_of hr
  have hr11 : Room 11 _ := hr.mono (show 11 ≤ 13 by omega)
  refine ⟨_, (pss_cons (ps_par3 (i := 2) (j := 3) (l := 4) (by rfl) scPruned.nd rfl rfl rfl (by decide) (by decide) (by decide) rfl rfl rfl (pa_cons ((pe_kn GP hr (pa_cons (pv 0) pa_nil))) (pa_cons (pe_lst pa_nil) (pa_cons ((pe_lst (pa_cons ((pe_op op_sub ((pe_kn GM hr11 (pa_cons (pv 0) pa_nil))) (pe_int))) pa_nil))) pa_nil))) (by rfl)) (pss_cons (ps_while PassesOwn.never (pt_cmpR (op_neNil hu) (pv 4) (pe_lst pa_nil) (nomark _)) (pss_cons (ps_set (i := 5) scPruned.nd rfl (.inl rfl) (pe_bm0 PySem.F.plainAttrs_list PySem.F.slot_list_pop PySem.F.type_list_pop mt_pop (pv 4))) (pss_cons (ps_asg (pe_dget hu (pv 1) ((pe_tup (pa_cons (pe_glob (v := .str "") rfl mo ⟨_, rfl⟩) (pa_cons (pv 5) pa_nil)))) (fun _ _ => rfl)) (pg_tup (by rfl) (pgs_cons ((pg_name (i := 6) scPruned.nd rfl (.inl rfl))) (pgs_cons ((pg_name (i := 7) scPruned.nd rfl (.inl rfl))) pgs_nil)))) (pss_cons (ps_expr (pe_bm PySem.F.plainAttrs_list PySem.F.slot_list_append PySem.F.type_list_append mt_append (pv 3) (pa_cons ((pe_tup (pa_cons (pv 5) (pa_cons (pv 6) (pa_cons (pe_ifExp (pt_cmpR op_isN (pv 7) (pe_non) (nomark _)) pe_non (pe_ix ix_tup (pv 7) pe_int (fun _ _ => rfl))) pa_nil))))) pa_nil))) (pss_one (ps_expr (pe_bm PySem.F.plainAttrs_list PySem.F.slot_list_extend PySem.F.type_list_extend mt_extendA (pv 4) (pa_cons (pe_ifExp (pt_cmpR op_isN (pv 7) (pe_non) (nomark _)) (pe_lst pa_nil) (pe_dget hu (pv 2) ((pe_ix ix_tup (pv 7) pe_int (fun _ _ => rfl))) (fun _ _ => rfl))) pa_nil)))))))) (pss_one (ps_ret (pe_callTy call_tuple_of rfl B.tuple PyProof.Rows.boot_tuple (pa_cons (pe_callBK (cr_sortF FF hr) rfl B.sorted (by decide +kernel) (pa_cons (pv 3) pa_nil) (pk_cons (pe_glob (v := .ref ff) rfl mf rfl) pk_nil)) pa_nil)))))), ?_⟩
  have s0 : 0 ≤ sizeLine := by decide
  have s1 : 1 ≤ sizeLine := by decide
  have s2 : 2 ≤ sizeLine := by decide
  have s3 : 3 ≤ sizeLine := by decide
  unfold pruned at hT
  cases hgo : pruneGo (partsOf k) L 20 [(k.ends : Int) - 1] [] with
  | none => rw [hgo] at hT; cases hT
  | some T0 =>
  rw [hgo] at hT
  obtain rfl : T = T0 := by
    simp only at hT
    split at hT
    · exact (Option.some.inj hT).symm
    · cases hT
  refine ⟨_, rfl, x, k, rfl, hx, hk, hdp, fun p kvp D H1 e1 hp hD hDl => ⟨s0, fun lf hlf => ?_⟩⟩
  have f1 : Ex H1 (upd H1 lf (.lst [])) := Ex.new hlf
  have hlfH : H lf = none := Evl.fresh_back e1 hlf
  have hlf1 : (upd H1 lf (.lst [])) lf = some (.lst []) := upd_same
  generalize upd H1 lf (.lst []) = H2 at f1 hlf1
  have e2 := e1.trans f1
  refine ⟨_, rfl, x, k, rfl, hx.ex e2, by omega, hdp, fun H3 f3 => ⟨_, _, rfl, rfl, s1, fun ll hll => ?_⟩⟩
  have f4 : Ex H3 (upd H3 ll (.lst [.int ((k.ends : Int) - 1)])) := Ex.new hll
  have e3 := e2.trans f3
  have hllH : H ll = none := Evl.fresh_back e3 hll
  have hll4 : (upd H3 ll (.lst [.int ((k.ends : Int) - 1)])) ll = some (.lst [.int ((k.ends : Int) - 1)]) := upd_same
  have hne : lf ≠ ll := ne_of_none (f3 _ _ hlf1) hll
  generalize upd H3 ll (.lst [.int ((k.ends : Int) - 1)]) = H4 at f4 hll4
  have f34 := f3.trans f4
  refine ⟨_, _, _, rfl, prunedW K H x k dl p lf ll kvp D L T, ⟨20, [(k.ends : Int) - 1], [], none, none, none, rfl, e2.trans f34, (f1.trans f34) _ _ hp, (hD.up (tk (f1.trans f34))), f34 _ _ hlf1, hll4, (fun r h => nomatch h), hgo, by decide⟩, ?_⟩
  rintro m σ HA ⟨left, rows, o5, o6, o7, rfl, eA, hpA, hDA, hlfA, hllA, hrows, hgoA, hlen⟩
  refine ⟨_, rfl, s0, fun pz hpz => ?_⟩
  have fA : Ex HA (upd HA pz (.lst [])) := Ex.new hpz
  have hpz' : (upd HA pz (.lst [])) pz = some (.lst []) := upd_same
  generalize upd HA pz (.lst []) = HB at fA hpz'
  have eB := eA.trans fA
  have hpB := fA _ _ hpA
  have hDB := hDA.up (tk fA)
  have hlfB := fA _ _ hlfA
  have hllB := fA _ _ hllA
  have hrowsB : ∀ r ∈ rows, Im K HB (.ref r.1) (rowD r.2) := fun r h => (hrows r h).ex fA
  refine ⟨ll, pz, _, rfl, rfl, hllB, hpz', _, rfl, ?_⟩
  by_cases ez : left = []
  · subst ez
    obtain rfl := prune_nil hgoA
    refine iteF ⟨_, rfl, lf, rows.map fun r => (r.1, r.2.1), rfl, rfl, by rw [List.map_map]; exact SqL.of hlfB, ?_, ?_, ?_⟩
    · intro r hr2
      obtain ⟨r0, hr0, rfl⟩ := List.mem_map.mp hr2
      obtain ⟨b, x1, x2, x3, eb, hs, h1, _⟩ := (hrowsB r0 hr0).t3
      cases eb
      obtain rfl := h1.i
      exact ⟨_, hs⟩
    · rw [List.length_map]; omega
    · intro rows' pp hperm hpp
      obtain ⟨rr, hrr, rfl⟩ := perm_map hperm rows rfl
      refine ⟨pp, _, rfl, .inl ⟨SqL.of upd_same, fun l hl => ?_⟩⟩
      rw [List.map_map] at hl ⊢
      have e5 : Ex HB (upd HB pp (.lst (rr.map ((fun r => V.ref r.1) ∘ fun r : Addr × Row => (r.1, r.2.1))))) := Ex.new hpp
      generalize upd HB pp (.lst (rr.map ((fun r => V.ref r.1) ∘ fun r : Addr × Row => (r.1, r.2.1)))) = HC at e5 hl
      have e6 : Ex HC (upd HC l (.tup (rr.map ((fun r => V.ref r.1) ∘ fun r : Addr × Row => (r.1, r.2.1))))) := Ex.new hl
      have hk6 : SqT K (upd HC l (.tup (rr.map ((fun r => V.ref r.1) ∘ fun r : Addr × Row => (r.1, r.2.1))))) l (rr.map fun r => V.ref r.1) := SqT.of upd_same
      exact q l (rr.map (·.2)) _ (eB.trans (e5.trans e6)) (hrr.map _) (.tup hk6 (imA_rows fun r h => (hrowsB r (hrr.mem_iff.mp h)).ex (e5.trans e6)))
  obtain ⟨left', e, rfl⟩ := eq_of_last ez
  refine ifB (by simp) ⟨_, fun _ _ z => z, ?_⟩
  rw [List.map_append] at hllB
  obtain ⟨n, w1, g, rfl, hl, hcase⟩ := prune_snoc hgoA
  have hdl' : (left'.map V.int ++ [V.int e]).dropLast = left'.map V.int := List.dropLast_concat
  refine ⟨_, rfl, .inl ⟨rfl, _, SqL.of hllB⟩, ll, _, _, rfl, rfl, hllB, pop_last (left'.map V.int) (.int e), ?_⟩
  rw [show (left'.map V.int ++ [e].map V.int).dropLast = left'.map V.int from hdl']
  have k5 : Tk K HB (upd HB ll (.lst (left'.map V.int))) := Tk.upd (nt_lst hllB)
  have t5 : Tt HB (upd HB ll (.lst (left'.map V.int))) := Tt.upd (nt_lst hllB)
  have eC : Ex H (upd HB ll (.lst (left'.map V.int))) := eB.mut hllH
  have hllC : (upd HB ll (.lst (left'.map V.int))) ll = some (.lst (left'.map V.int)) := upd_same
  have hlfC : (upd HB ll (.lst (left'.map V.int))) lf = some (.lst (rows.map fun r => V.ref r.1)) := by rw [upd_ne hne]; exact hlfB
  have hpC : (upd HB ll (.lst (left'.map V.int))) p = some (.dK kvp) := by rw [upd_ne (fun z => by rw [z, hllB] at hpB; cases hpB)]; exact hpB
  have hDC := hDB.up k5
  have hrowsC : ∀ r ∈ rows, Im K (upd HB ll (.lst (left'.map V.int))) (.ref r.1) (rowD r.2) := fun r h => (hrowsB r h).up k5
  generalize upd HB ll (.lst (left'.map V.int)) = HC at eC hllC hlfC hpC hDC hrowsC
  refine ⟨_, rfl, _, rfl, s2, fun g1 hg1 => ?_⟩
  have f6 : Ex HC (upd HC g1 (.tup [.str "", .int e])) := Ex.new hg1
  have hg1' : (upd HC g1 (.tup [.str "", .int e])) g1 = some (.tup [.str "", .int e]) := upd_same
  generalize upd HC g1 (.tup [.str "", .int e]) = HD at f6 hg1'
  have eD := eC.trans f6
  have hrelD := lrel_ex hrel eD
  obtain ⟨v0, hv0, hvl⟩ := hrelD.get portK_inj hl
  obtain ⟨a2, gv, rfl, hsa, hgv⟩ := hvl
  refine ⟨dl, .ref a2, rfl, by rw [← hv0]; exact DGet.tr (k := portK ("", e)) (.inl (eD _ _ hdl)) hg1', a2, _, rfl, hsa, rfl, _, _, rfl, _, _, rfl, rfl, ?_⟩
  have fin : ∀ (y : V) (gi : Option Int) (more : List Int), Im K HD y (goalI gi) → pruneGo (partsOf k) L n (left' ++ more) (rows.map (·.2) ++ [(e, w1, gi)]) = some T →
      ∀ g2, HD g2 = none → ∀ HE, HE = upd HD g2 (.tup [.int e, .str w1, y]) → ∀ HF, HF = upd HE lf (.lst ((rows ++ [(g2, (e, w1, gi))]).map fun r => V.ref r.1)) → Ex H HF ∧ Tk K HD HF ∧ Tt HD HF ∧ HF p = some (.dK kvp) ∧ HF ll = some (.lst (left'.map V.int)) ∧
      ∀ HG, Ex HF HG → ∃ m', m' < n + 1 ∧ prunedW K H x k dl p lf ll kvp D L T m' [some x, some (.ref dl), some (.ref p), some (.ref lf), some (.ref ll), some (.int e), some (.str w1), some gv] (upd HG ll (.lst (left'.map V.int ++ more.map V.int))) := by
    intro y gi more hy hgo2 g2 hg2 HE hHE HF hHF
    have f7 : Ex HD HE := by rw [hHE]; exact Ex.new hg2
    have hlfE := (f6.trans f7) _ _ hlfC
    have k8 : Tk K HE HF := by rw [hHF]; exact Tk.upd (nt_lst hlfE)
    have t8 : Tt HE HF := by rw [hHF]; exact Tt.upd (nt_lst hlfE)
    have eF : Ex H HF := by rw [hHF]; exact (eD.trans f7).mut hlfH
    have hpF : HF p = some (.dK kvp) := by
      rw [hHF, upd_ne (fun z => by rw [z, hlfC] at hpC; cases hpC)]
      exact (f6.trans f7) _ _ hpC
    have hllF : HF ll = some (.lst (left'.map V.int)) := by
      rw [hHF, upd_ne hne.symm]
      exact (f6.trans f7) _ _ hllC
    have hlfF : HF lf = some (.lst ((rows ++ [(g2, (e, w1, gi))]).map fun r => V.ref r.1)) := by rw [hHF]; exact upd_same
    have hnew : Im K HF (.ref g2) (rowD (e, w1, gi)) := Im.up (Im.mk3 (by rw [hHE]; exact upd_same) (.int _) (.str _) (hy.ex f7)) k8
    refine ⟨eF, (tk f7).trans k8, (tt f7).trans t8, hpF, hllF, fun HG fG => ⟨n, Nat.lt_succ_self n, left' ++ more, rows ++ [(g2, (e, w1, gi))], _, _, _, rfl, (eF.trans fG).mut hllH, ?_, ?_, ?_, ?_, ?_, ?_, ?_⟩⟩
    · rw [upd_ne (fun z => by rw [z, hllF] at hpF; cases hpF)]
      exact fG _ _ hpF
    · exact (((((hDC.up (tk f6)).up (tk f7)).up k8).up (tk fG))).up (Tk.upd (nt_lst (fG _ _ hllF)))
    · rw [upd_ne hne]; exact fG _ _ hlfF
    · rw [List.map_append]; exact upd_same
    · intro r hr2
      rcases List.mem_append.mp hr2 with h | h
      · exact ((((hrowsC r h).ex (f6.trans f7)).up k8).ex fG).up (Tk.upd (nt_lst (fG _ _ hllF)))
      · rw [List.mem_singleton.mp h]
        exact (hnew.ex fG).up (Tk.upd (nt_lst (fG _ _ hllF)))
    · rw [List.map_append]; exact hgo2
    · rw [List.length_append, List.length_singleton]; omega
  have hrl : rows.length < sizeLine := small1000 (by omega)
  refine ⟨_, rfl, .inl ⟨rfl, _, SqL.of (f6 _ _ hlfC)⟩, _, rfl, _, rfl, _, rfl, rfl, _, rfl, ?_⟩
  rcases hcase with ⟨rfl, hgo2⟩ | ⟨qq, more, rfl, hmore, hgo2⟩
  · obtain rfl : gv = .non := hgv
    refine ifT rfl ⟨s3, fun g2 hg2 => ?_⟩
    obtain ⟨eF, kF, tF, hpF, hllF, wF⟩ := fin .non none [] .non (by rw [List.append_nil]; exact hgo2) g2 hg2 _ rfl _ rfl
    have hlfE : (upd HD g2 (.tup [.int e, .str w1, .non])) lf = some (.lst (rows.map fun r => V.ref r.1)) := (Ex.new hg2) _ _ (f6 _ _ hlfC)
    refine ⟨lf, _, _, rfl, rfl, hlfE, by rw [List.length_map]; exact hrl, ?_⟩
    rw [show rows.map (fun r => V.ref r.1) ++ [V.ref g2] = (rows ++ [(g2, ((e, w1, none) : Row))]).map fun r => V.ref r.1 by rw [List.map_append]; rfl]
    generalize upd (upd HD g2 (.tup [.int e, .str w1, .non])) lf (.lst ((rows ++ [(g2, ((e, w1, none) : Row))]).map fun r => V.ref r.1)) = HF at eF kF tF hpF hllF wF
    refine ⟨_, rfl, .inl ⟨rfl, _, SqL.of hllF⟩, _, rfl, rfl, _, rfl, ifT rfl ⟨s0, fun g3 hg3 => ?_⟩⟩
    have f9 : Ex HF (upd HF g3 (.lst [])) := Ex.new hg3
    exact .inl ⟨ll, g3, _, _, rfl, rfl, f9 _ _ hllF, upd_same, by rw [List.length_map]; have h1 := (prune_len hgoA).1; rw [List.length_append] at h1; exact sl (by show left'.length + 0 ≤ 1000; omega), wF _ f9⟩
  · obtain ⟨b, rfl, hb⟩ := hgv
    refine ifF (fun z => nomatch z) ⟨_, rfl, b, _, 1, _, rfl, rfl, SqT.of hb, atI_nat (j := 1) rfl, s3, fun g2 hg2 => ?_⟩
    obtain ⟨eF, kF, tF, hpF, hllF, wF⟩ := fin (.int qq.2) (some qq.2) more (.int _) hgo2 g2 hg2 _ rfl _ rfl
    have hlfE : (upd HD g2 (.tup [.int e, .str w1, .int qq.2])) lf = some (.lst (rows.map fun r => V.ref r.1)) := (Ex.new hg2) _ _ (f6 _ _ hlfC)
    refine ⟨lf, _, _, rfl, rfl, hlfE, by rw [List.length_map]; exact hrl, ?_⟩
    rw [show rows.map (fun r => V.ref r.1) ++ [V.ref g2] = (rows ++ [(g2, ((e, w1, some qq.2) : Row))]).map fun r => V.ref r.1 by rw [List.map_append]; rfl]
    have hDF := (hDC.up (tk f6)).up kF
    have hbF := tF _ _ hb
    generalize upd (upd HD g2 (.tup [.int e, .str w1, .int qq.2])) lf (.lst ((rows ++ [(g2, ((e, w1, some qq.2) : Row))]).map fun r => V.ref r.1)) = HF at eF hpF hllF wF hDF hbF
    obtain ⟨v2, hv2, hvm⟩ := hDF.get inl_inj (show lookA D qq.2 = some more by rw [hDl]; exact hmore)
    obtain ⟨a3, xs3, rfl, hs3, ha3⟩ := hvm.t
    obtain rfl := imA_ints ha3
    refine ⟨_, rfl, .inl ⟨rfl, _, SqL.of hllF⟩, _, rfl, rfl, _, rfl, ifF (fun z => nomatch z) ⟨_, rfl, _, rfl, b, _, 1, _, rfl, rfl, SqT.of hbF, atI_nat (j := 1) rfl, p, _, rfl, by rw [← hv2]; exact DGet.k (k := Sum.inl qq.2) hpF, ?_⟩⟩
    refine .inr ⟨ll, a3, _, _, rfl, rfl, hllF, hs3, ?_, wF _ (Ex.refl _)⟩
    have h1 := (prune_len hgo2).1
    rw [List.length_append] at h1
    exact sl (by rw [List.length_map, List.length_map]; omega)
end
end Oh

set_option maxHeartbeats 4000000
/-! Oh, part 20: table_of; programs -/
namespace Oh
open PySem PySem.Spec PyProof.Rows L2
open Evl (Ex)
section
variable {P : Program} {w : World} {K : PySem.W.Frag} {mg : Str → Option Value} {base : Heap}
abbrev sTable : Stmt := top 45
theorem scTable : FnScope ["term", "kind", "links"] ["term"] (defScope sTable) := ⟨rfl, rfl, rfl, by decide +kernel, rfl, by decide +kernel, by decide +kernel⟩
def spTable (K : PySem.W.Frag) : Sp := fun vs H Q _ => ∃ (x : V) (t : Tm) (T : Tab), vs = [x] ∧ Im K H x t.d ∧ t.dep ≤ 20 ∧ t.size ≤ 400 ∧ t.table = some T ∧ ∀ a T' H', Ex H H' → T'.Perm T → Im K H' (.ref a) (tabD T') → Q (.ref a) H'
theorem kn_table (GL : Kn P w K mg base "links_of" 33 ["term", "names"] (spLinks K 20)) (GP : Kn P w K mg base "pruned" 14 ["kind", "links"] (spPruned K)) (S : Src K mg "table_of" sTable ["term"]) : Kn P w K mg base "table_of" 34 ["term"] (spTable K) := by
  refine S.kn scTable (fun vs H Q E h => ?_) (fun f cdv A outer s H vs Q E hr h => ?_)
  · obtain ⟨x, t, T, rfl, _⟩ := h
    rfl
  obtain ⟨x, t, T, rfl, hx, hdp, hsz, hT, q⟩ := h
  have hr14 : Room 14 _ := hr.mono (show 14 ≤ 33 by omega)
  refine ⟨_, (pss_cons (ps_asg (pe_kn GL hr (pa_cons (pv 0) (pa_cons (pe_dnewK) pa_nil))) (pg_tup (by rfl) (pgs_cons ((pg_name (i := 1) scTable.nd rfl (.inl rfl))) (pgs_cons ((pg_name (i := 2) scTable.nd rfl (.inl rfl))) pgs_nil)))) (pss_one (ps_ret (pe_kn GP hr14 (pa_cons (pv 1) (pa_cons (pv 2) pa_nil)))))), ?_⟩
  unfold Tm.table at hT
  cases hl : t.links [] with
  | none => rw [hl] at hT; cases hT
  | some kl =>
    obtain ⟨k, L⟩ := kl
    rw [hl] at hT
    have hg := Tm.links_good t _ _ _ hl
    refine ⟨_, rfl, fun d hd => ⟨x, t, d, [], [], k, L, rfl, hx.ex (Ex.new hd), upd_same, .nil, List.nodup_nil, by rw [List.length_nil]; omega, hl, hdp, fun p y dl kv H1 e1 hp hy hz hdl hrel => ?_⟩⟩
    refine ⟨p, _, rfl, SqT.of hp, rfl, _, _, rfl, _, _, rfl, rfl, _, rfl, _, rfl, y, k, dl, kv, L, T, rfl, hy, hg.1, hg.2.1, hdl, hrel, hT, fun a T' H2 e2 hperm hT' => ?_⟩
    exact q a T' H2 (((Ex.new hd).trans e1).trans e2) hperm hT'
/-! ### are_steps -/
abbrev sSteps : Stmt := top 49
theorem scSteps : FnScope ["value", "pair", "k"] ["value"] (defScope sSteps) := ⟨rfl, rfl, rfl, by decide +kernel, rfl, by decide +kernel, by decide +kernel⟩
def spSteps (K : PySem.W.Frag) : Sp := fun vs H Q _ => ∃ (x : V) (st : List (Str × Tm)), vs = [x] ∧ Im K H x (.tuple (st.map stepD)) ∧ 1 ≤ st.length ∧ st.length ≤ 4 ∧ (∀ q ∈ st, isLetter q.1 = true) ∧ ascB (st.map (·.1)) = true ∧ ∀ H', Ex H H' → Q (.bl true) H'
theorem ascB_at : ∀ {l : List Str}, ascB l = true → ∀ i x y, l[i]? = some x → l[i + 1]? = some y → x.cps.toList < y.cps.toList
  | [], _, _, _, _, h, _ => by simp at h
  | [_], _, i, _, _, _, h => by simp at h
  | a :: b :: r, h, 0, x, y, hx, hy => by
    simp at hx hy
    subst hx hy
    exact of_decide_eq_true (Bool.and_eq_true_iff.mp (show (decide (a.cps.toList < b.cps.toList) && ascB (b :: r)) = true from h)).1
  | a :: b :: r, h, i + 1, x, y, hx, hy => ascB_at (l := b :: r) (Bool.and_eq_true_iff.mp (show (decide (a.cps.toList < b.cps.toList) && ascB (b :: r)) = true from h)).2 i x y (by simpa using hx) (by simpa using hy)
theorem all_true (n : Nat) : (List.replicate n true).all id = true := by
  rw [List.all_eq_true]
  intro x hx
  rw [(List.mem_replicate.mp hx).2]; rfl
theorem rep_snoc (n : Nat) : (List.replicate n true).map V.bl ++ [.bl true] = (List.replicate (n + 1) true).map V.bl := by
  rw [List.replicate_succ', List.map_append]; rfl
theorem kn_steps (B : Std mg) (C : Cst K mg w) (G : Kn P w K mg base "is_letter" 2 ["value"] (spIsLetter K)) (S : Src K mg "are_steps" sSteps ["value"]) : Kn P w K mg base "are_steps" 3 ["value"] (spSteps K) := by
  obtain ⟨ts, ms⟩ := C.steps
  refine S.kn scSteps (fun vs H Q E h => ?_) (fun f cdv A outer s H vs Q E hr h => ?_)
  · obtain ⟨x, st, rfl, _⟩ := h
    rfl
  obtain ⟨x, st, rfl, hx, h1, h4, hlet, hasc, q⟩ := h
  refine ⟨_, (pss_cons (ps_if (PW.pt (pw_or (pt_not (pt_val (pe_isTup B (pv 0)))) (pw_or1 (pt_not (pt_chain op_le op_le pe_int (pe_len B (pv 0)) (pe_glob (v := .int 4) rfl ms ⟨_, rfl⟩)))))) (pss_one (ps_ret pe_bl)) pss_nil) (pss_cons (ps_if (pt_not (pt_val (pe_callB (cr_all (by rfl)) rfl B.all (by decide +kernel) (pa_cons ((pe_lc (own := [("pair", 1)]) (g := gName 1) (tt := tYes) (te := tAndV (tCB (rIsi K) _) (tAndV (tOp _ (tCB (rLen K) _) _) (tCall (spIsLetter K) [] E0 (tCons (tOp (rIxT K) _ _) tNil)))) (by rfl) scSteps.nd (pi_tup (pv 0)) (blkOk_by (N := ["value", "pair", "k"]) (sc := defScope sSteps) (by decide +kernel)) (fun _ _ _ _ _ => pg_name (i := 1) scSteps.nd rfl (.inl rfl)) (fun _ _ _ _ _ => pts_nil) (fun _ _ _ _ _ => (pe_and (pe_isTup B (pv 1)) (pe_and ((pe_cmpR op_eq (pe_len B (pv 1)) (pe_int) (nomark _))) (pe_one ((pe_kn G hr (pa_cons ((pe_ix ix_tup (pv 1) pe_int (fun _ _ => rfl))) pa_nil))))))))) pa_nil)))) (pss_one (ps_ret pe_bl)) pss_nil) (pss_one (ps_ret (pe_callB (cr_all (by rfl)) rfl B.all (by decide +kernel) (pa_cons ((pe_lc (own := [("k", 2)]) (g := gName 2) (tt := tYes) (te := tOp _ (tOp (rIxT K) (tOp (rIxT K) _ _) _) (tOp (rIxT K) (tOp (rIxT K) _ _) _)) (by rfl) scSteps.nd (pi_range1 rfl B.range (pa_cons ((pe_op op_sub (pe_len B (pv 0)) (pe_int))) pa_nil)) (blkOk_by (N := ["value", "pair", "k"]) (sc := defScope sSteps) (by decide +kernel)) (fun _ _ _ _ _ => pg_name (i := 2) scSteps.nd rfl (.inl rfl)) (fun _ _ _ _ _ => pts_nil) (fun _ _ _ _ _ => (pe_cmpR op_lt_str ((pe_ix ix_tup (pe_ix ix_tup (pv 0) (pv 2) (fun _ _ => rfl)) pe_int (fun _ _ => rfl))) ((pe_ix ix_tup (pe_ix ix_tup (pv 0) (pe_op op_add (pv 2) (pe_int)) (fun _ _ => rfl)) pe_int (fun _ _ => rfl))) (nomark _))))) pa_nil)))))), ?_⟩
  obtain ⟨a, xs, rfl, hs, hxs⟩ := hx.t
  have hlen : xs.length = st.length := by rw [hxs.len, List.length_map]
  refine ⟨_, rfl, _, _, _, _, _, rfl, .ty _, SqT.ty hs, kit_tt, _, rfl, iteF ?_⟩
  refine ⟨_, rfl, _, _, rfl, .inr ⟨_, hs, rfl⟩, _, _, rfl, rfl, _, rfl, ifT (by show (1 : Int) ≤ (xs.length : Nat); omega) ⟨_, _, rfl, rfl, _, rfl, ifNF (by show ((xs.length : Nat) : Int) ≤ 4; omega) ?_⟩⟩
  refine ⟨_, rfl, a, rfl, ⟨_, hs⟩, fun D hD => ?_⟩
  refine lc_tup (K := K) (a := a) (xs := xs) (fun i H' => Ex H H' ∧ H' D = some (.lst ((List.replicate i true).map V.bl))) ⟨Ex.new hD, upd_same⟩ (fun i H' _ z => tk z.1 _ _ hs) ?_ ?_
  · rintro i v H1 hv ⟨e1, hD1⟩
    have hil : i < xs.length := (List.getElem?_eq_some_iff.mp hv).1
    obtain ⟨dd, hdd, hvd⟩ := (hxs.ex e1).get hv
    rw [List.getElem?_map] at hdd
    cases ep : st[i]? with
    | none => rw [ep] at hdd; cases hdd
    | some pp =>
      rw [ep] at hdd
      obtain rfl := Option.some.inj hdd
      obtain ⟨pa, v1, v2, rfl, hsa, hv1, _⟩ := hvd.t2
      obtain rfl := hv1.s
      refine ⟨rfl, yes_if ⟨_, rfl, _, _, _, _, _, rfl, .ty _, SqT.ty hsa, kit_tt, _, rfl, iteT ⟨_, rfl, _, _, rfl, .inr ⟨_, hsa, rfl⟩, rfl, _, rfl, ifT rfl ⟨_, rfl, pa, _, 0, _, rfl, rfl, hsa, atI_nat (j := 0) rfl, pp.1, rfl, hlet pp (List.mem_of_getElem? ep), fun H2 e2 => ?_⟩⟩⟩⟩
      refine ⟨_, e2 _ _ hD1, small1000 (by rw [List.length_map, List.length_replicate]; omega), (e1.trans e2).mut hD, ?_⟩
      rw [upd_same, rep_snoc]
  · rintro H1 ⟨e1, hD1⟩
    refine ⟨D, _, rfl, SqL.of hD1, ?_⟩
    rw [all_true]
    refine ⟨_, rfl, iteF ?_⟩
    refine ⟨_, rfl, _, _, rfl, .inr ⟨_, tk e1 _ _ hs, rfl⟩, _, _, rfl, rfl, _, rfl, by omega, by omega, fun D2 hD2 => ?_⟩
    have hn : (((xs.length : Nat) : Int) - 1).toNat = st.length - 1 := by omega
    rw [hn]
    refine lc_range (fun i H' => Ex H H' ∧ H' D2 = some (.lst ((List.replicate i true).map V.bl))) ⟨e1.trans (Ex.new hD2), upd_same⟩ ?_ ?_
    · rintro i H2 hi ⟨e2, hD2'⟩
      have hs2 := tk e2 _ _ hs
      have hxs2 := hxs.ex e2
      have g1 : i < st.length := by omega
      have g2 : i + 1 < st.length := by omega
      obtain ⟨v1, hv1, hm1⟩ := hxs2.get' (show (st.map stepD)[i]? = some (stepD st[i]) by rw [List.getElem?_map, List.getElem?_eq_getElem g1]; rfl)
      obtain ⟨v2, hv2, hm2⟩ := hxs2.get' (show (st.map stepD)[i + 1]? = some (stepD st[i + 1]) by rw [List.getElem?_map, List.getElem?_eq_getElem g2]; rfl)
      obtain ⟨p1, x1, y1, rfl, hp1, hx1, _⟩ := hm1.t2
      obtain ⟨p2, x2, y2, rfl, hp2, hx2, _⟩ := hm2.t2
      obtain rfl := hx1.s
      obtain rfl := hx2.s
      have hlt := ascB_at hasc i st[i].1 st[i + 1].1 (by rw [List.getElem?_map, List.getElem?_eq_getElem g1]; rfl) (by rw [List.getElem?_map, List.getElem?_eq_getElem g2]; rfl)
      have a1 : atI xs (0 + (i : Nat)) = some (.ref p1) := by rw [Int.zero_add]; exact atI_nat hv1
      have a2 : atI xs (0 + (i : Nat) + 1) = some (.ref p2) := by rw [Int.zero_add]; exact atI_nat (j := i + 1) hv2
      refine ⟨rfl, yes_if ⟨_, rfl, _, rfl, a, _, _, _, rfl, rfl, hs2, a1, p1, _, 0, _, rfl, rfl, hp1, atI_nat (j := 0) rfl, _, rfl, _, rfl, _, _, rfl, rfl, a, _, _, _, rfl, rfl, hs2, a2, p2, _, 0, _, rfl, rfl, hp2, atI_nat (j := 0) rfl, _, _, rfl, rfl, ?_⟩⟩
      refine ⟨_, hD2', small1000 (by rw [List.length_map, List.length_replicate]; omega), e2.mut (Evl.fresh_back e1 hD2), ?_⟩
      rw [upd_same, decide_eq_true hlt, rep_snoc]
    · rintro H2 ⟨e2, hD2'⟩
      refine ⟨D2, _, rfl, SqL.of hD2', ?_⟩
      rw [all_true]
      exact q H2 e2
end
end Oh

set_option maxHeartbeats 4000000
/-! Oh, part 21: a program, its letters, its tables -/
namespace Oh
open PySem PySem.Spec PyProof.Rows L2
open Evl (Ex)
/-- a program as is_program asks, no larger than these proofs can walk -/
structure PGood (p : Prog) : Prop where
  ends : 2 * p.k.ends ≤ 60
  dep : p.k.dep ≤ 8
  one : 1 ≤ p.steps.length
  four : p.steps.length ≤ 4
  lets : ∀ q ∈ p.steps, isLetter q.1 = true
  asc : ascB (p.steps.map (·.1)) = true
  init : p.init.has p.k = true
  last : p.last.has (.to p.k .tx) = true
  step : ∀ q ∈ p.steps, q.2.has (.to p.k p.k) = true
  initD : p.init.dep ≤ 20
  lastD : p.last.dep ≤ 20
  stepD : ∀ q ∈ p.steps, q.2.dep ≤ 20
section
variable {P : Program} {w : World} {K : PySem.W.Frag} {mg : Str → Option Value} {base : Heap}
abbrev sFrame : Stmt := top 50
theorem scFrame : FnScope ["value", "word"] ["value", "word"] (defScope sFrame) := ⟨rfl, rfl, rfl, by decide +kernel, rfl, by decide +kernel, by decide +kernel⟩
def spFrame (K : PySem.W.Frag) : Sp := fun vs H Q _ => ∃ (x : V) (p : Prog), vs = [x, .str "program"] ∧ Im K H x p.d ∧ PGood p ∧ ∀ H', Ex H H' → Q (.bl true) H'
theorem kn_frame (B : Std mg) (C : Cst K mg w) (GK : Kn P w K mg base "is_kind" 2 ["value"] (spIsKind K)) (GM : Kn P w K mg base "many_ends" 11 ["kind"] (spMany K 10)) (GS : Kn P w K mg base "are_steps" 3 ["value"] (spSteps K)) (S : Src K mg "is_frame" sFrame ["value", "word"]) : Kn P w K mg base "is_frame" 12 ["value", "word"] (spFrame K) := by
  obtain ⟨te, me⟩ := C.most60
  refine S.kn scFrame (fun vs H Q E h => ?_) (fun f cdv A outer s H vs Q E hr h => ?_)
  · obtain ⟨x, p, rfl, _⟩ := h
    rfl
  obtain ⟨x, p, rfl, hx, hp, q⟩ := h
  have hr2 : Room 2 _ := hr.mono (show 2 ≤ 11 by omega)
  have hr3 : Room 3 _ := hr.mono (show 3 ≤ 11 by omega)
  refine ⟨_, (pss_cons (ps_if (PW.pt (pw_or (pt_not (pt_val (pe_isTup B (pv 0)))) (pw_or ((pt_cmpR op_ne (pe_len B (pv 0)) (pe_int) (nomark _))) (pw_or (pt_not (pt_val (pe_isStr B (pe_ix ix_tup (pv 0) pe_int (fun _ _ => rfl))))) (pw_or1 ((pt_cmpR op_ne ((pe_ix ix_tup (pv 0) pe_int (fun _ _ => rfl))) (pv 1) (nomark _)))))))) (pss_one (ps_ret pe_bl)) pss_nil) (pss_one (ps_ret (pe_and ((pe_kn GK hr2 (pa_cons ((pe_ix ix_tup (pv 0) pe_int (fun _ _ => rfl))) pa_nil))) (pe_and ((pe_cmpR op_le ((pe_op op_mul (pe_int) ((pe_kn GM hr (pa_cons ((pe_ix ix_tup (pv 0) pe_int (fun _ _ => rfl))) pa_nil))))) (pe_glob (v := .int 60) rfl me ⟨_, rfl⟩) (nomark _))) (pe_one ((pe_kn GS hr3 (pa_cons ((pe_ix ix_tup (pv 0) pe_int (fun _ _ => rfl))) pa_nil))))))))), ?_⟩
  obtain ⟨a, x0, x1, x2, x3, x4, rfl, hs, h0, h1, h2, h3, h4⟩ := hx.t5
  obtain rfl := h0.s
  refine ⟨_, rfl, _, _, _, _, _, rfl, .ty _, SqT.ty hs, kit_tt, _, rfl, iteF ?_⟩
  refine ⟨_, rfl, _, _, rfl, .inr ⟨_, hs, rfl⟩, rfl, _, rfl, iteF ?_⟩
  refine ⟨_, rfl, a, _, 0, _, rfl, rfl, hs, atI_nat (j := 0) rfl, _, _, _, _, _, rfl, .ty _, .base (.str _), kit_ss, _, rfl, iteF ?_⟩
  refine ⟨_, rfl, a, _, 0, _, rfl, rfl, hs, atI_nat (j := 0) rfl, _, rfl, rfl, _, rfl, ifNF rfl ?_⟩
  have he := hp.ends
  refine ⟨_, rfl, a, _, 1, _, rfl, rfl, hs, atI_nat (j := 1) rfl, x1, p.k, rfl, h1, by omega, fun H1 e1 => ⟨_, rfl, iteT ?_⟩⟩
  refine ⟨_, rfl, a, _, 1, _, rfl, rfl, tk e1 _ _ hs, atI_nat (j := 1) rfl, x1, p.k, rfl, h1.ex e1, by omega, by have := hp.dep; omega, fun H2 e2 => ?_⟩
  have e12 := e1.trans e2
  refine ⟨_, _, rfl, rfl, .inl ⟨by decide, by decide⟩, _, _, rfl, rfl, _, rfl, ifT (by show (2 : Int) * (p.k.ends : Nat) ≤ 60; omega) ?_⟩
  exact ⟨_, rfl, a, _, 3, _, rfl, rfl, tk e12 _ _ hs, atI_nat (j := 3) rfl, x3, p.steps, rfl, h3.ex e12, hp.one, hp.four, hp.lets, hp.asc, fun H3 e3 => q H3 (e12.trans e3)⟩
abbrev sProg : Stmt := top 51
theorem scProg : FnScope ["value", "kind", "letter", "step"] ["value"] (defScope sProg) := ⟨rfl, rfl, rfl, by decide +kernel, rfl, by decide +kernel, by decide +kernel⟩
def spProg (K : PySem.W.Frag) : Sp := fun vs H Q _ => ∃ (x : V) (p : Prog), vs = [x] ∧ Im K H x p.d ∧ PGood p ∧ ∀ H', Ex H H' → Q (.bl true) H'
theorem kn_prog (B : Std mg) (C : Cst K mg w) (GF : Kn P w K mg base "is_frame" 12 ["value", "word"] (spFrame K)) (GH : Kn P w K mg base "has_kind" 23 ["value", "kind"] (spHas K)) (S : Src K mg "is_program" sProg ["value"]) : Kn P w K mg base "is_program" 24 ["value"] (spProg K) := by
  obtain ⟨aT, mT, hT⟩ := C.text
  refine S.kn scProg (fun vs H Q E h => ?_) (fun f cdv A outer s H vs Q E hr h => ?_)
  · obtain ⟨x, p, rfl, _⟩ := h
    rfl
  obtain ⟨x, p, rfl, hx, hp, q⟩ := h
  have hr12 : Room 12 _ := hr.mono (show 12 ≤ 23 by omega)
  refine ⟨_, (pss_cons (ps_if (pt_not (pt_val (pe_kn GF hr12 (pa_cons (pv 0) (pa_cons (pe_str) pa_nil))))) (pss_one (ps_ret pe_bl)) pss_nil) (pss_cons (ps_set (i := 1) scProg.nd rfl (.inr rfl) ((pe_ix ix_tup (pv 0) pe_int (fun _ _ => rfl)))) (pss_cons (ps_if (PW.pt (pw_or (pt_not (pt_val (pe_kn GH hr (pa_cons ((pe_ix ix_tup (pv 0) pe_int (fun _ _ => rfl))) (pa_cons (pv 1) pa_nil))))) (pw_or1 (pt_not (pt_val (pe_kn GH hr (pa_cons ((pe_ix ix_tup (pv 0) pe_int (fun _ _ => rfl))) (pa_cons ((pe_tup (pa_cons (pe_str) (pa_cons (pv 1) (pa_cons (pe_glob (v := .ref aT) rfl mT rfl) pa_nil))))) pa_nil)))))))) (pss_one (ps_ret pe_bl)) pss_nil) (pss_one (ps_ret (pe_callB (cr_all (by rfl)) rfl B.all (by decide +kernel) (pa_cons ((pe_lc (own := [("letter", 2), ("step", 3)]) (g := gTup K 2 (gCons (gName 2) (gCons (gName 3) gNil))) (tt := tYes) (te := tCall (spHas K) [] E0 _) (by rfl) scProg.nd (pi_tup (pe_ix ix_tup (pv 0) pe_int (fun _ _ => rfl))) (blkOk_by (N := ["value", "kind", "letter", "step"]) (sc := defScope sProg) (by decide +kernel)) (fun _ _ _ _ _ => pg_tup (by rfl) (pgs_cons (pg_name (i := 2) scProg.nd rfl (.inl rfl)) (pgs_cons (pg_name (i := 3) scProg.nd rfl (.inl rfl)) pgs_nil))) (fun _ _ _ _ _ => pts_nil) (fun _ _ _ _ _ => (pe_kn GH hr (pa_cons (pv 3) (pa_cons ((pe_tup (pa_cons (pe_str) (pa_cons (pv 1) (pa_cons (pv 1) pa_nil))))) pa_nil)))))) pa_nil))))))), ?_⟩
  have s3 : 3 ≤ sizeLine := by decide
  obtain ⟨a, x0, x1, x2, x3, x4, rfl, hs, h0, h1, h2, h3, h4⟩ := hx.t5
  refine ⟨_, rfl, .ref a, p, rfl, hx, hp, fun H1 e1 => ⟨_, rfl, iteF ?_⟩⟩
  refine ⟨_, rfl, a, _, 1, _, rfl, rfl, tk e1 _ _ hs, atI_nat (j := 1) rfl, ?_⟩
  refine ⟨_, rfl, a, _, 2, _, rfl, rfl, tk e1 _ _ hs, atI_nat (j := 2) rfl, _, rfl, x2, x1, p.init, p.k, rfl, h2.ex e1, h1.ex e1, hp.init, hp.initD, fun H2 e2 => ⟨_, rfl, iteF ?_⟩⟩
  have e12 := e1.trans e2
  refine ⟨_, rfl, a, _, 4, _, rfl, rfl, tk e12 _ _ hs, atI_nat (j := 4) rfl, _, rfl, s3, fun g hg => ?_⟩
  have e3 : Ex H2 (upd H2 g (.tup [.str "to", x1, .ref aT])) := Ex.new hg
  have hto : Im K (upd H2 g (.tup [.str "to", x1, .ref aT])) (.ref g) (Kd.to p.k .tx).d := Im.mk3 upd_same (.str _) (h1.ex (e12.trans e3)) (.tup (hT _) (.cons (.str _) .nil))
  generalize upd H2 g (.tup [.str "to", x1, .ref aT]) = H3 at e3 hto
  have e13 := e12.trans e3
  refine ⟨x4, .ref g, p.last, .to p.k .tx, rfl, h4.ex e13, hto, hp.last, hp.lastD, fun H4 e4 => ⟨_, rfl, iteF ?_⟩⟩
  have e14 := e13.trans e4
  obtain ⟨a3, xs, rfl, hs3, hxs⟩ := h3.t
  have hlen : xs.length = p.steps.length := by rw [hxs.len, List.length_map]
  have h4s := hp.four
  refine ⟨_, rfl, a, _, 3, _, rfl, rfl, tk e14 _ _ hs, atI_nat (j := 3) rfl, a3, rfl, ⟨_, tk e14 _ _ hs3⟩, fun D hD => ?_⟩
  refine lc_tup (K := K) (a := a3) (xs := xs) (fun i H' => Ex H4 H' ∧ H' D = some (.lst ((List.replicate i true).map V.bl))) ⟨Ex.new hD, upd_same⟩ (fun i H' _ z => tk (e14.trans z.1) _ _ hs3) ?_ ?_
  · rintro i v H5 hv ⟨e5, hD5⟩
    have hil : i < xs.length := (List.getElem?_eq_some_iff.mp hv).1
    obtain ⟨dd, hdd, hvd⟩ := (hxs.ex (e14.trans e5)).get hv
    rw [List.getElem?_map] at hdd
    cases ep : p.steps[i]? with
    | none => rw [ep] at hdd; cases hdd
    | some pp =>
      rw [ep] at hdd
      obtain rfl := Option.some.inj hdd
      obtain ⟨pa, v1, v2, rfl, hsa, hv1, hv2⟩ := hvd.t2
      have hmem := List.mem_of_getElem? ep
      refine ⟨pa, _, rfl, hsa, rfl, _, _, rfl, _, _, rfl, rfl, rfl, yes_if ⟨_, rfl, _, rfl, _, rfl, s3, fun g2 hg2 => ?_⟩⟩
      have e6 : Ex H5 (upd H5 g2 (.tup [.str "to", x1, x1])) := Ex.new hg2
      have e16 := (e14.trans e5).trans e6
      refine ⟨v2, .ref g2, pp.2, .to p.k p.k, rfl, hv2.ex e6, Im.mk3 upd_same (.str _) (h1.ex e16) (h1.ex e16), hp.step pp hmem, hp.stepD pp hmem, fun H7 e7 => ?_⟩
      refine ⟨_, (e6.trans e7) _ _ hD5, small1000 (by rw [List.length_map, List.length_replicate]; omega), ((e5.trans e6).trans e7).mut hD, ?_⟩
      rw [upd_same, rep_snoc]
  · rintro H5 ⟨e5, hD5⟩
    refine ⟨D, _, rfl, SqL.of hD5, ?_⟩
    rw [all_true]
    exact q H5 (e14.trans e5)
abbrev sNeedP : Stmt := top 52
theorem scNeedP : FnScope ["value"] ["value"] (defScope sNeedP) := ⟨rfl, rfl, rfl, by decide +kernel, rfl, by decide +kernel, by decide +kernel⟩
def spNeedP (K : PySem.W.Frag) : Sp := fun vs H Q _ => ∃ (x : V) (p : Prog), vs = [x] ∧ Im K H x p.d ∧ PGood p ∧ ∀ H', Ex H H' → Q .non H'
theorem kn_need_p (G : Kn P w K mg base "is_program" 24 ["value"] (spProg K)) (S : Src K mg "need_program" sNeedP ["value"]) : Kn P w K mg base "need_program" 25 ["value"] (spNeedP K) := by
  refine S.kn scNeedP (fun vs H Q E h => ?_) (fun f cdv A outer s H vs Q E hr h => ?_)
  · obtain ⟨x, p, rfl, _⟩ := h
    rfl
  obtain ⟨x, p, rfl, hx, hp, q⟩ := h
  refine ⟨_, (pss_one (ps_if (pt_not (pt_val (pe_kn G hr (pa_cons (pv 0) pa_nil)))) pss_never pss_nil)), ?_⟩
  exact ⟨_, rfl, x, p, rfl, hx, hp, fun H1 e1 => ⟨_, rfl, iteF (q H1 e1)⟩⟩
abbrev sLettersOf : Stmt := top 53
theorem scLettersOf : FnScope ["frame", "letter", "step"] ["frame"] (defScope sLettersOf) := ⟨rfl, rfl, rfl, by decide +kernel, rfl, by decide +kernel, by decide +kernel⟩
def Prog.letters (p : Prog) : Str := joinStr (p.steps.map (·.1))
def spLettersOf (K : PySem.W.Frag) : Sp := fun vs H Q _ => ∃ (x : V) (p : Prog), vs = [x] ∧ Im K H x p.d ∧ PGood p ∧ ∀ H', Ex H H' → Q (.str p.letters) H'
theorem isLetter_len {z : Str} (h : isLetter z = true) : z.length = 1 := of_decide_eq_true (Bool.and_eq_true_iff.mp h).2
theorem letters_len {p : Prog} (hp : PGood p) : ((p.steps.map (·.1)).map (·.length)).sum = p.steps.length := by
  have h := hp.lets
  generalize p.steps = l at h
  induction l with
  | nil => rfl
  | cons q r ih =>
    rw [List.map_cons, List.map_cons, List.sum_cons, ih (fun z hz => h z (List.mem_cons_of_mem _ hz)), isLetter_len (h q List.mem_cons_self), List.length_cons, Nat.add_comm]
theorem kn_letters_of (S : Src K mg "letters_of" sLettersOf ["frame"]) : Kn P w K mg base "letters_of" 1 ["frame"] (spLettersOf K) := by
  refine S.kn scLettersOf (fun vs H Q E h => ?_) (fun f cdv A outer s H vs Q E hr h => ?_)
  · obtain ⟨x, p, rfl, _⟩ := h
    rfl
  obtain ⟨x, p, rfl, hx, hp, q⟩ := h
  refine ⟨_, (pss_one (ps_ret (pe_join pe_str (pe_lc (own := [("letter", 1), ("step", 2)]) (g := gTup K 2 (gCons (gName 1) (gCons (gName 2) gNil))) (tt := tYes) (by rfl) scLettersOf.nd (pi_tup (pe_ix ix_tup (pv 0) pe_int (fun _ _ => rfl))) (blkOk_by (N := ["frame", "letter", "step"]) (sc := defScope sLettersOf) (by decide +kernel)) (fun _ _ _ _ _ => pg_tup (by rfl) (pgs_cons (pg_name (i := 1) scLettersOf.nd rfl (.inl rfl)) (pgs_cons (pg_name (i := 2) scLettersOf.nd rfl (.inl rfl)) pgs_nil))) (fun _ _ _ _ _ => pts_nil) (fun _ _ _ _ _ => pv 1))))), ?_⟩
  obtain ⟨a, x0, x1, x2, x3, x4, rfl, hs, h0, h1, h2, h3, h4⟩ := hx.t5
  obtain ⟨a3, xs, rfl, hs3, hxs⟩ := h3.t
  have hlen : xs.length = p.steps.length := by rw [hxs.len, List.length_map]
  have h4s := hp.four
  refine ⟨⟨_, rfl⟩, _, rfl, a, _, 3, _, rfl, rfl, hs, atI_nat (j := 3) rfl, a3, rfl, ⟨_, hs3⟩, fun D hD => ?_⟩
  refine lc_tup (K := K) (a := a3) (xs := xs) (fun i H' => Ex H H' ∧ H' D = some (.lst (((p.steps.take i).map (·.1)).map V.str))) ⟨Ex.new hD, upd_same⟩ (fun i H' _ z => tk z.1 _ _ hs3) ?_ ?_
  · rintro i v H5 hv ⟨e5, hD5⟩
    have hil : i < xs.length := (List.getElem?_eq_some_iff.mp hv).1
    obtain ⟨dd, hdd, hvd⟩ := (hxs.ex e5).get hv
    rw [List.getElem?_map] at hdd
    cases ep : p.steps[i]? with
    | none => rw [ep] at hdd; cases hdd
    | some pp =>
      rw [ep] at hdd
      obtain rfl := Option.some.inj hdd
      obtain ⟨pa, v1, v2, rfl, hsa, hv1, hv2⟩ := hvd.t2
      obtain rfl := hv1.s
      refine ⟨pa, _, rfl, hsa, rfl, _, _, rfl, _, _, rfl, rfl, rfl, yes_if ⟨_, rfl, _, hD5, small1000 (by rw [List.length_map, List.length_map, List.length_take]; omega), e5.mut hD, ?_⟩⟩
      rw [upd_same, List.take_add_one, ep, List.map_append, List.map_append]; rfl
  · rintro H5 ⟨e5, hD5⟩
    rw [hlen, List.take_length] at hD5
    have hll := letters_len hp
    refine ⟨_, D, _, rfl, rfl, .inl (SqL.of hD5), ?_, ?_⟩
    · rw [hll, List.length_map]
      have : ("" : Str).length = 0 := rfl
      rw [this]; omega
    · rw [join_eq]
      exact q H5 e5
abbrev sNeedR : Stmt := top 54
theorem scNeedR : FnScope ["frame", "text", "known", "letter"] ["frame", "text"] (defScope sNeedR) := ⟨rfl, rfl, rfl, by decide +kernel, rfl, by decide +kernel, by decide +kernel⟩
def spNeedR (K : PySem.W.Frag) : Sp := fun vs H Q _ => ∃ (x : V) (p : Prog) (z : Str), vs = [x, .str z] ∧ Im K H x p.d ∧ PGood p ∧ z.length ≤ 1000 ∧ isText z = true ∧ (∀ c ∈ z.cps.toList, c ∈ p.letters.cps.toList) ∧ ∀ H', Ex H H' → Q .non H'
theorem kn_need_r (B : Std mg) (GT : Kn P w K mg base "is_text" 1 ["value"] (spIsText K)) (GL : Kn P w K mg base "letters_of" 1 ["frame"] (spLettersOf K)) (S : Src K mg "need_read" sNeedR ["frame", "text"]) : Kn P w K mg base "need_read" 2 ["frame", "text"] (spNeedR K) := by
  refine S.kn scNeedR (fun vs H Q E h => ?_) (fun f cdv A outer s H vs Q E hr h => ?_)
  · obtain ⟨x, p, z, rfl, _⟩ := h
    rfl
  obtain ⟨x, p, z, rfl, hx, hp, hz, ht, hin, q⟩ := h
  refine ⟨_, (pss_cons (ps_if (pt_not (pt_val (pe_kn GT hr (pa_cons (pv 1) pa_nil)))) pss_never pss_nil) (pss_cons (ps_set (i := 2) scNeedR.nd rfl (.inr rfl) ((pe_kn GL hr (pa_cons (pv 0) pa_nil)))) (pss_one (ps_if (pt_not (pt_val (pe_callB (cr_all (by rfl)) rfl B.all (by decide +kernel) (pa_cons ((pe_lc (own := [("letter", 3)]) (g := gName 3) (tt := tYes) (by rfl) scNeedR.nd (pi_str (pv 1)) (blkOk_by (N := ["frame", "text", "known", "letter"]) (sc := defScope sNeedR) (by decide +kernel)) (fun _ _ _ _ _ => pg_name (i := 3) scNeedR.nd rfl (.inl rfl)) (fun _ _ _ _ _ => pts_nil) (fun _ _ _ _ _ => pe_cmpR op_in_sign (pv 3) (pv 2) (by rfl)))) pa_nil)))) pss_never pss_nil)))), ?_⟩
  refine ⟨_, rfl, z, rfl, hz, fun H1 e1 => ⟨_, rfl, ?_⟩⟩
  rw [ht]
  refine iteF ⟨_, rfl, x, p, rfl, hx.ex e1, hp, fun H2 e2 => ?_⟩
  refine ⟨_, rfl, z, rfl, fun D hD => ?_⟩
  refine lc_it walk_str (fun i H' => Ex H2 H' ∧ H' D = some (.lst ((List.replicate i true).map V.bl))) ⟨Ex.new hD, upd_same⟩ (fun _ _ _ _ => trivial) ?_ ?_
  · rintro i v H3 H4 hi ⟨e3, hD3⟩ ⟨rfl, c, hc, rfl⟩
    have hz' : z.cps.size ≤ 1000 := hz
    refine ⟨rfl, yes_if ⟨_, rfl, _, rfl, c, p.letters, rfl, rfl, _, hD3, small1000 (by rw [List.length_map, List.length_replicate]; omega), e3.mut hD, ?_⟩⟩
    have hcm : c ∈ z.cps.toList := by
      rw [← Array.getElem?_toList] at hc
      exact List.mem_of_getElem? hc
    rw [upd_same, decide_eq_true (hin c hcm), rep_snoc]
  · rintro H3 ⟨e3, hD3⟩
    refine ⟨D, _, rfl, SqL.of hD3, ?_⟩
    rw [all_true]
    exact ⟨_, rfl, iteF (q H3 ((e1.trans e2).trans e3))⟩
end
end Oh

set_option maxHeartbeats 4000000
/-! Oh, part 22: the head of a program; ways -/
namespace Oh
open PySem PySem.Spec PyProof.Rows L2
open Evl (Ex)
/-- a table, its rows in any order -/
def TabOf (t : Tm) (T : Tab) : Prop := ∃ T0, t.table = some T0 ∧ T.Perm T0
/-- the head of a program -/
structure HeadOf (p : Prog) (h : Head) : Prop where
  k : h.k = p.k
  init : TabOf p.init h.init
  last : TabOf p.last h.last
  len : h.steps.length = p.steps.length
  step : ∀ (i : Nat) (q : Str × Tm) (s : Str × Tab), p.steps[i]? = some q → h.steps[i]? = some s → s.1 = q.1 ∧ TabOf q.2 s.2
section
variable {P : Program} {w : World} {K : PySem.W.Frag} {mg : Str → Option Value} {base : Heap}
abbrev sTables : Stmt := top 55
theorem scTables : FnScope ["program", "steps", "letter", "step"] ["program"] (defScope sTables) := ⟨rfl, rfl, rfl, by decide +kernel, rfl, by decide +kernel, by decide +kernel⟩
def spTables (K : PySem.W.Frag) : Sp := fun vs H Q _ => ∃ (x : V) (p : Prog), vs = [x] ∧ Im K H x p.d ∧ PGood p ∧ p.init.table.isSome = true ∧ p.last.table.isSome = true ∧ (∀ q ∈ p.steps, q.2.table.isSome = true) ∧ ∀ a h H', Ex H H' → HeadOf p h → Im K H' (.ref a) h.d → Q (.ref a) H'
theorem has_size {t : Tm} {k : Kd} (h : t.has k = true) : t.size ≤ 400 := by
  unfold Tm.has at h
  simp only [Bool.and_eq_true, decide_eq_true_eq] at h
  exact h.1.1.1.2
theorem kn_tables (B : Std mg) (G : Kn P w K mg base "table_of" 34 ["term"] (spTable K)) (S : Src K mg "tables_of" sTables ["program"]) : Kn P w K mg base "tables_of" 35 ["program"] (spTables K) := by
  refine S.kn scTables (fun vs H Q E h => ?_) (fun f cdv A outer s H vs Q E hr h => ?_)
  · obtain ⟨x, p, rfl, _⟩ := h
    rfl
  obtain ⟨x, p, rfl, hx, hp, ti, tl, ts, q⟩ := h
  refine ⟨_, (pss_cons (ps_set (i := 1) scTables.nd rfl (.inl rfl) (pe_callTy call_tuple_of rfl B.tuple PyProof.Rows.boot_tuple (pa_cons ((pe_lc (own := [("letter", 2), ("step", 3)]) (g := gTup K 2 (gCons (gName 2) (gCons (gName 3) gNil))) (tt := tYes) (te := tTup (tCons _ (tCons (tCall (spTable K) [] E0 _) tNil))) (by rfl) scTables.nd (pi_tup (pe_ix ix_tup (pv 0) pe_int (fun _ _ => rfl))) (blkOk_by (N := ["program", "steps", "letter", "step"]) (sc := defScope sTables) (by decide +kernel)) (fun _ _ _ _ _ => pg_tup (by rfl) (pgs_cons (pg_name (i := 2) scTables.nd rfl (.inl rfl)) (pgs_cons (pg_name (i := 3) scTables.nd rfl (.inl rfl)) pgs_nil))) (fun _ _ _ _ _ => pts_nil) (fun _ _ _ _ _ => (pe_tup (pa_cons (pv 2) (pa_cons ((pe_kn G hr (pa_cons (pv 3) pa_nil))) pa_nil)))))) pa_nil))) (pss_one (ps_ret (pe_tup (pa_cons (pe_str) (pa_cons ((pe_ix ix_tup (pv 0) pe_int (fun _ _ => rfl))) (pa_cons ((pe_kn G hr (pa_cons ((pe_ix ix_tup (pv 0) pe_int (fun _ _ => rfl))) pa_nil))) (pa_cons (pv 1) (pa_cons ((pe_kn G hr (pa_cons ((pe_ix ix_tup (pv 0) pe_int (fun _ _ => rfl))) pa_nil))) pa_nil))))))))), ?_⟩
  have s2 : 2 ≤ sizeLine := by decide
  have s5 : 5 ≤ sizeLine := by decide
  obtain ⟨a, x0, x1, x2, x3, x4, rfl, hs, h0, h1, h2, h3, h4⟩ := hx.t5
  obtain ⟨a3, xs, rfl, hs3, hxs⟩ := h3.t
  have hlen : xs.length = p.steps.length := by rw [hxs.len, List.length_map]
  have h4s := hp.four
  obtain ⟨Ti, hTi⟩ := Option.isSome_iff_exists.mp ti
  obtain ⟨Tl, hTl⟩ := Option.isSome_iff_exists.mp tl
  refine ⟨_, rfl, a, _, 3, _, rfl, rfl, hs, atI_nat (j := 3) rfl, a3, rfl, ⟨_, hs3⟩, fun D hD => ?_⟩
  refine lc_tup (K := K) (a := a3) (xs := xs) (fun i H' => Ex H H' ∧ ∃ (ys : List V) (st : List (Str × Tab)), H' D = some (.lst ys) ∧ ImA K H' ys (st.map headStepD) ∧ st.length = i ∧ ∀ (j : Nat) (q : Str × Tm) (s : Str × Tab), p.steps[j]? = some q → st[j]? = some s → s.1 = q.1 ∧ TabOf q.2 s.2)
    ⟨Ex.new hD, [], [], upd_same, .nil, rfl, fun j q s _ h => by simp at h⟩ (fun i H' _ z => tk z.1 _ _ hs3) ?_ ?_
  · rintro i v H5 hv ⟨e5, ys, st, hD5, hys, hsl, hst⟩
    have hil : i < xs.length := (List.getElem?_eq_some_iff.mp hv).1
    obtain ⟨dd, hdd, hvd⟩ := (hxs.ex e5).get hv
    rw [List.getElem?_map] at hdd
    cases ep : p.steps[i]? with
    | none => rw [ep] at hdd; cases hdd
    | some pp =>
      rw [ep] at hdd
      obtain rfl := Option.some.inj hdd
      obtain ⟨pa, v1, v2, rfl, hsa, hv1, hv2⟩ := hvd.t2
      have hmem := List.mem_of_getElem? ep
      obtain ⟨Ts, hTs⟩ := Option.isSome_iff_exists.mp (ts pp hmem)
      refine ⟨pa, _, rfl, hsa, rfl, _, _, rfl, _, _, rfl, rfl, rfl, yes_if ⟨_, rfl, _, rfl, v2, pp.2, Ts, rfl, hv2, hp.stepD pp hmem, has_size (hp.step pp hmem), hTs, fun at1 T' H6 e6 hperm hT' => ⟨s2, fun g hg => ?_⟩⟩⟩
      have e7 : Ex H6 (upd H6 g (.tup [v1, .ref at1])) := Ex.new hg
      have hD7 := (e6.trans e7) _ _ hD5
      have hyl := hys.len
      rw [List.length_map, hsl] at hyl
      have k8 : Tk K (upd H6 g (.tup [v1, .ref at1])) (upd (upd H6 g (.tup [v1, .ref at1])) D (.lst (ys ++ [.ref g]))) := Tk.upd (nt_lst hD7)
      refine ⟨_, hD7, small1000 (by omega), ((e5.trans e6).trans e7).mut hD, ys ++ [.ref g], st ++ [(pp.1, T')], upd_same, ?_, by rw [List.length_append, hsl]; rfl, ?_⟩
      · rw [List.map_append]
        exact ((hys.ex (e6.trans e7)).up k8).snoc ((Im.mk2 upd_same ((hv1.ex e6).ex e7) (hT'.ex e7)).up k8)
      · intro j q2 s2' hj hj2
        by_cases e : j < st.length
        · rw [List.getElem?_append_left e] at hj2
          exact hst j q2 s2' hj hj2
        · have ej : j = i := by
            have h2 := (List.getElem?_eq_some_iff.mp hj2).1
            rw [List.length_append, List.length_singleton] at h2
            omega
          subst ej
          rw [ep] at hj
          obtain rfl := Option.some.inj hj
          rw [List.getElem?_append_right (by omega), hsl, Nat.sub_self] at hj2
          obtain rfl := Option.some.inj hj2
          exact ⟨rfl, Ts, hTs, hperm⟩
  · rintro H5 ⟨e5, ys, st, hD5, hys, hsl, hst⟩
    refine ⟨D, _, rfl, .inl ⟨SqL.of hD5, fun l hl => ?_⟩⟩
    have e6 : Ex H5 (upd H5 l (.tup ys)) := Ex.new hl
    have hst6 : Im K (upd H5 l (.tup ys)) (.ref l) (.tuple (st.map headStepD)) := .tup (SqT.of upd_same) (hys.ex e6)
    generalize upd H5 l (.tup ys) = H6 at e6 hst6
    have e06 := e5.trans e6
    refine ⟨_, rfl, a, _, 1, _, rfl, rfl, tk e06 _ _ hs, atI_nat (j := 1) rfl, _, rfl, a, _, 2, _, rfl, rfl, tk e06 _ _ hs, atI_nat (j := 2) rfl, x2, p.init, Ti, rfl, h2.ex e06, hp.initD, has_size hp.init, hTi, fun ai Ti' H7 e7 hpi hIi => ?_⟩
    have e07 := e06.trans e7
    refine ⟨_, rfl, _, rfl, a, _, 4, _, rfl, rfl, tk e07 _ _ hs, atI_nat (j := 4) rfl, x4, p.last, Tl, rfl, h4.ex e07, hp.lastD, has_size hp.last, hTl, fun al Tl' H8 e8 hpl hIl => ⟨s5, fun g hg => ?_⟩⟩
    have e9 : Ex H8 (upd H8 g (.tup [.str "head", x1, .ref ai, .ref l, .ref al])) := Ex.new hg
    have e09 := (e07.trans e8).trans e9
    refine q g ⟨p.k, Ti', st, Tl'⟩ _ e09 ⟨rfl, ⟨Ti, hTi, hpi⟩, ⟨Tl, hTl, hpl⟩, by rw [hsl, hlen], hst⟩ (.tup (SqT.of upd_same) (.cons (.str _) (.cons (h1.ex e09) (.cons (hIi.ex (e8.trans e9)) (.cons (hst6.ex ((e7.trans e8).trans e9)) (.cons (hIl.ex e9) .nil))))))
/-! ### links_in -/
abbrev sLinksIn : Stmt := top 34
theorem scLinksIn : FnScope ["table", "end", "word", "goal"] ["table"] (defScope sLinksIn) := ⟨rfl, rfl, rfl, by decide +kernel, rfl, by decide +kernel, by decide +kernel⟩
abbrev WRel (K : PySem.W.Frag) (H : Hp) (kvs : List (Key × V)) (T : Tab) : Prop := DRel K H (Sum.inl : Int → Key) wayD kvs T
def spLinksIn (K : PySem.W.Frag) : Sp := fun vs H Q _ => ∃ (x : V) (T : Tab), vs = [x] ∧ Im K H x (tabD T) ∧ (T.map (·.1)).Nodup ∧ T.length ≤ 100 ∧ ∀ p kvs H', Ex H H' → H p = none → H' p = some (.dK kvs) → WRel K H' kvs T → Q (.ref p) H'
theorem kn_links_in (B : Std mg) (S : Src K mg "links_in" sLinksIn ["table"]) : Kn P w K mg base "links_in" 1 ["table"] (spLinksIn K) := by
  refine S.kn scLinksIn (fun vs H Q E h => ?_) (fun f cdv A outer s H vs Q E hr h => ?_)
  · obtain ⟨x, T, rfl, _⟩ := h
    rfl
  obtain ⟨x, T, rfl, hx, hnd, hln, q⟩ := h
  refine ⟨_, (pss_one (ps_ret (pe_callTy (call_dictP (by rfl)) rfl B.dict (by decide +kernel) (pa_cons (pe_lc (own := [("end", 1), ("word", 2), ("goal", 3)]) (g := gTup K 3 (gCons (gName 1) (gCons (gName 2) (gCons (gName 3) gNil)))) (tt := tYes) (by rfl) scLinksIn.nd (pi_tup (pv 0)) (blkOk_by (N := ["table", "end", "word", "goal"]) (sc := defScope sLinksIn) (by decide +kernel))
      (fun _ _ _ _ _ => (pg_tup (by rfl) (pgs_cons ((pg_name (i := 1) scLinksIn.nd rfl (.inl rfl))) (pgs_cons ((pg_name (i := 2) scLinksIn.nd rfl (.inl rfl))) (pgs_cons ((pg_name (i := 3) scLinksIn.nd rfl (.inl rfl))) pgs_nil))))) (fun _ _ _ _ _ => pts_nil) (fun _ _ _ _ _ => (pe_tup (pa_cons (pv 1) (pa_cons ((pe_tup (pa_cons (pv 2) (pa_cons (pv 3) pa_nil)))) pa_nil))))) pa_nil)))), ?_⟩
  have s2 : 2 ≤ sizeLine := by decide
  obtain ⟨a, xs, rfl, hs, hxs⟩ := hx.t
  have hlen : xs.length = T.length := by rw [hxs.len, List.length_map]
  refine ⟨_, rfl, a, rfl, ⟨_, hs⟩, fun D hD => ?_⟩
  refine lc_tup (K := K) (a := a) (xs := xs) (fun i H' => Ex H H' ∧ ∃ (ps : List Addr) (kv : List (Key × V)), H' D = some (.lst (ps.map V.ref)) ∧ PairsAt K H' ps kv ∧ WRel K H' kv (T.take i) ∧ ps.length ≤ i)
    ⟨Ex.new hD, [], [], upd_same, .nil, .nil, Nat.le_refl _⟩ (fun i H' _ z => tk z.1 _ _ hs) ?_ ?_
  · rintro i v H3 hv ⟨e3, ps, kv, hD3, hps, hrel, hpl⟩
    have hil : i < xs.length := (List.getElem?_eq_some_iff.mp hv).1
    obtain ⟨dd, hdd, hvd⟩ := (hxs.ex e3).get hv
    rw [List.getElem?_map] at hdd
    cases ep : T[i]? with
    | none => rw [ep] at hdd; cases hdd
    | some r =>
      rw [ep] at hdd
      obtain rfl := Option.some.inj hdd
      obtain ⟨pa, v1, v2, v3, rfl, hsa, hv1, hv2, hv3⟩ := hvd.t3
      obtain rfl := hv1.i
      refine ⟨pa, _, rfl, hsa, rfl, _, _, rfl, _, _, rfl, _, _, rfl, rfl, rfl, yes_if ⟨_, rfl, _, rfl, _, rfl, s2, fun t1 ht1 => ⟨s2, fun t2 ht2 => ?_⟩⟩⟩
      have e4 : Ex H3 (upd H3 t1 (.tup [v2, v3])) := Ex.new ht1
      have hw : Im K (upd H3 t1 (.tup [v2, v3])) (.ref t1) (wayD r.2) := Im.mk2 upd_same (hv2.ex e4) (hv3.ex e4)
      generalize upd H3 t1 (.tup [v2, v3]) = H4 at e4 hw ht2
      have e5 : Ex H4 (upd H4 t2 (.tup [.int r.1, .ref t1])) := Ex.new ht2
      have hD5 := (e4.trans e5) _ _ hD3
      have t6 : Tk K (upd H4 t2 (.tup [.int r.1, .ref t1])) (upd (upd H4 t2 (.tup [.int r.1, .ref t1])) D (.lst (ps.map V.ref ++ [.ref t2]))) := Tk.upd (nt_lst hD5)
      refine ⟨_, hD5, small1000 (by rw [List.length_map]; omega), ((e3.trans e4).trans e5).mut hD, ps ++ [t2], kv ++ [(Sum.inl r.1, .ref t1)], by rw [upd_same, List.map_append]; rfl, ?_, ?_, by simp; omega⟩
      · exact paired_snoc ((hps.up (tk (e4.trans e5))).up t6) (t6 _ _ (SqT.of upd_same))
      · rw [List.take_add_one, ep]
        exact drel_snoc ((hrel.up (tk (e4.trans e5))).up t6) ((hw.ex e5).up t6)
  · rintro H3 ⟨e3, ps, kv, hD3, hps, hrel, hpl⟩
    rw [hlen, List.take_length] at hrel
    refine ⟨D, ps, kv, rfl, SqL.of hD3, hps, fun g hg => ?_⟩
    have hnk : (kv.map (·.1)).Nodup := by rw [hrel.keys]; exact nodup_f inl_inj hnd
    rw [merge_nil hnk]
    exact q g kv _ (e3.trans (Ex.new hg)) (Evl.fresh_back e3 hg) upd_same (hrel.up (tk (Ex.new hg)))
end
end Oh

set_option maxHeartbeats 4000000
/-! Oh, part 23: the class Places -/
namespace Oh
open PySem PySem.Spec PyProof.Rows L2
open Evl (Ex)
/-- a method as the top has left it; a method whose promise is known -/
structure SrcM (K : PySem.W.Frag) (C : Addr) (m q : Str) (st : Stmt) (ps : List Str) : Prop where
  ex : ∃ f fd, Fun K m q st f fd ∧ Meth K C m f ∧ Binds K fd ps []
structure KnM (P : Program) (w : World) (K : PySem.W.Frag) (mg : Str → Option Value) (base : Heap) (C : Addr) (m : Str) (k : Nat) (ps : List Str) (sp : Sp) : Prop where
  ex : ∃ f fd, FnOk P w K mg base CX0 k f fd ps sp ∧ Meth K C m f ∧ Binds K fd ps []
/-- the class -/
structure PlC (K : PySem.W.Frag) (mg : Str → Option Value) (C : Addr) : Prop where
  cl : Cls K C
  nMany : NoAttr K C "many"
  nLast : NoAttr K C "last"
  nText : NoAttr K C "text"
  nWays : NoAttr K C "ways"
  nBacks : NoAttr K C "backs"
  mgC : mg "Places" = some (.ref C)
section
variable {P : Program} {w : World} {K : PySem.W.Frag} {mg : Str → Option Value} {base : Heap} {C : Addr} {m q : Str} {st : Stmt} {ps N : List Str} {k : Nat} {sp : Sp}
theorem SrcM.kn (S : SrcM K C m q st ps) (Sc : FnScope N ps (defScope st)) (len : ∀ vs H Q E, sp vs H Q E → vs.length = ps.length)
    (hbody : ∀ (f : Addr) (cdv : Value) (A : Around) (outer : List Env) (s : Shared) (H : Hp) (vs : List V) (Q : VK) (E : XK), Room k (A.deeper (envOfC q (defScope st) s.heap.objs.size f cdv)) → sp vs H Q E →
      ∃ t, PSs (cxOf CX0 P w K mg base N q (defScope st) f cdv A outer s H E).nox (defBody st) t ∧ t { nx := fun _ H' => Q .non H', rt := Q } (start N vs) H) : KnM P w K mg base C m (k + 1) ps sp := by
  obtain ⟨f, fd, F, m, b⟩ := S.ex
  exact ⟨f, fd, F.ok Sc len (hbody f), m, b⟩
end
section
variable {X : Cx} {C : Addr} {k : Nat} {m : Str} {ps : List Str} {sp : Sp} {o e : Expr} {es : List Expr} {ta : TE} {t : TA} {apos pos : Pos} {pl : Sem Bool}
theorem pe_knM (G : KnM X.prog X.w X.K X.mg X.base C m k ps sp) (c : Cls X.K C) (hr : Room k X.A) (he : PE X o ta) (ha : PA X (e :: es) t)
    (hst : starEach (e :: es) X.env = (false, eval e X.env) :: starEach es X.env := by rfl) (hpl : (backTo pos (starEach es X.env)).any (·.1) = false := by rfl)
    (ht : eval (.Call (.Attribute o m apos) (e :: es) [] pos) X.env = (do
      let ov ← eval o X.env
      standAt apos.atName
      let (f, first) ← holding [ov] (getMethod ov m pl)
      callWith pos f first (backTo pos (starEach (e :: es) X.env)) (backToKw pos (keywordEach [] X.env))) := by rfl) :
    PE X (.Call (.Attribute o m apos) (e :: es) [] pos) (tMeth C m sp [] E0 ta t) := by
  obtain ⟨f, fd, F, m, b⟩ := G.ex
  exact pe_meth he c m F hr b .nil pass0 ha hst hpl ht
end
abbrev sPInit : Stmt := inClass (top 57) 0
abbrev sCalled : Stmt := inClass (top 57) 1
abbrev sLink : Stmt := inClass (top 57) 2
abbrev sLead : Stmt := inClass (top 57) 3
abbrev sGoals : Stmt := top 58
section
variable {P : Program} {w : World} {K : PySem.W.Frag} {mg : Str → Option Value} {base : Heap}
/-! ### goals_in -/
theorem scGoals : FnScope ["links", "end"] ["links"] (defScope sGoals) := ⟨rfl, rfl, rfl, by decide +kernel, rfl, by decide +kernel, by decide +kernel⟩
def spGoals (K : PySem.W.Frag) : Sp := fun vs H Q _ => ∃ (d : Addr) (kv : List (Key × V)) (T : Tab), vs = [.ref d] ∧ H d = some (.dK kv) ∧ WRel K H kv T ∧ (T.map (·.1)).Nodup ∧ T.length ≤ 100 ∧ ∀ p H', Ex H H' → Q (.ref p) H'
theorem kn_goals (B : Std mg) (S : Src K mg "goals_in" sGoals ["links"]) : Kn P w K mg base "goals_in" 1 ["links"] (spGoals K) := by
  refine S.kn scGoals (fun vs H Q E h => ?_) (fun f cdv A outer s H vs Q E hr h => ?_)
  · obtain ⟨d, kv, T, rfl, _⟩ := h
    rfl
  obtain ⟨d, kv, T, rfl, hd, hrel, hnd, hln, q⟩ := h
  have hu := hu_of hr
  refine ⟨_, (pss_one (ps_ret (pe_callTy (call_dictP (by rfl)) rfl B.dict (by decide +kernel) (pa_cons (pe_lock (
    pe_lc (own := [("end", 1)]) (g := gName 1) (tt := tTest (tOp _ (tOp (rIxT K) (tDGet (tVar 0) (tVar 1)) (tC (.int 1))) (tC .non))) (te := tTup (tCons (tOp (rIxT K) (tDGet (tVar 0) (tVar 1)) (tC (.int 1))) (tCons (tVar 1) tNil))) (by rfl) scGoals.nd (pi_keys (pv 0)) (blkOk_by (N := ["links", "end"]) (sc := defScope sGoals) (by decide +kernel))
      (fun _ _ _ _ _ => (pg_name (i := 1) scGoals.nd rfl (.inl rfl))) (fun _ _ _ _ _ => pts_one (pt_cmpR op_notN ((pe_ix ix_tup ((pe_dget hu (pv 0) (pv 1) (fun _ _ => rfl))) pe_int (fun _ _ => rfl))) (pe_non) (nomark _))) (fun _ _ _ _ _ => (pe_tup (pa_cons ((pe_ix ix_tup ((pe_dget hu (pv 0) (pv 1) (fun _ _ => rfl))) pe_int (fun _ _ => rfl))) (pa_cons (pv 1) pa_nil)))))) pa_nil)))), ?_⟩
  have s2 : 2 ≤ sizeLine := by decide
  refine ⟨d, .dK kv, hd, trivial, fun od => ?_⟩
  have k1 : Tk K H (upd H d (.frz od (.dK kv))) := Tk.upd (nt_dK hd)
  have hd1 : (upd H d (.frz od (.dK kv))) d = some (.frz od (.dK kv)) := upd_same
  have hrel1 := hrel.up k1
  have off : ∀ b o, H b = some o → b ≠ d → (upd H d (.frz od (.dK kv))) b = some o := fun b o hb hn => by rw [upd_ne hn]; exact hb
  generalize upd H d (.frz od (.dK kv)) = H1 at hd1 hrel1 off k1
  refine ⟨_, rfl, d, od, rfl, .inl ⟨kv, hd1, fun D hD => ?_⟩⟩
  have hkl : kv.length = T.length := hrel.len
  refine lc_it walk_keys (fun i H' => Ex H1 H' ∧ ∃ (ps : List Addr) (kv' : List (Key × V)), H' D = some (.lst (ps.map V.ref)) ∧ PairsAt K H' ps kv' ∧ ps.length ≤ i)
    ⟨Ex.new hD, [], [], upd_same, .nil, Nat.le_refl _⟩ (fun i H' _ z => z.1 _ _ hd1) ?_ ?_
  · rintro i v H2 H2' hi ⟨e2, ps, kv', hD2, hps, hpl⟩ ⟨rfl, key, vl, hkv, rfl⟩
    obtain ⟨e, wg, hTi, rfl, hvl⟩ := hrel1.at hkv
    obtain ⟨w1, g⟩ := wg
    obtain ⟨v0, hv0, hvi⟩ := (hrel1.up (tk e2)).get inl_inj (lookA_of hnd (List.mem_of_getElem? hTi))
    obtain ⟨a, x1, x2, rfl, hsa, hx1, hx2⟩ := hvi.t2
    have hget : DGet H2' d (.int e) (some (.ref a)) := by rw [← hv0]; exact .inl ⟨kv, Sum.inl e, .inr ⟨od, e2 _ _ hd1⟩, rfl, rfl⟩
    refine ⟨rfl, _, rfl, _, rfl, d, _, rfl, hget, a, _, 1, _, rfl, rfl, hsa, atI_nat (j := 1) rfl, rfl, _, rfl, ?_⟩
    cases g with
    | none =>
      obtain rfl := hx2.n
      exact ifNF rfl ⟨e2, ps, kv', hD2, hps, by omega⟩
    | some j =>
      obtain rfl := hx2.i
      refine ifNT (fun z => nomatch z) ⟨_, rfl, _, rfl, d, _, rfl, hget, a, _, 1, _, rfl, rfl, hsa, atI_nat (j := 1) rfl, _, rfl, s2, fun t1 ht1 => ?_⟩
      have e3 : Ex H2' (upd H2' t1 (.tup [.int j, .int e])) := Ex.new ht1
      have hD3 := e3 _ _ hD2
      have t6 : Tk K (upd H2' t1 (.tup [.int j, .int e])) (upd (upd H2' t1 (.tup [.int j, .int e])) D (.lst (ps.map V.ref ++ [.ref t1]))) := Tk.upd (nt_lst hD3)
      refine ⟨_, hD3, small1000 (by rw [List.length_map]; omega), (e2.trans e3).mut hD, ps ++ [t1], kv' ++ [(Sum.inl j, .int e)], by rw [upd_same, List.map_append]; rfl, ?_, by simp; omega⟩
      exact paired_snoc ((hps.up (tk e3)).up t6) (t6 _ _ (SqT.of upd_same))
  · rintro H2 ⟨e2, ps, kv', hD2, hps, hpl⟩
    have hd2 := e2 _ _ hd1
    have hDd : D ≠ d := fun z => by rw [z, hd1] at hD; cases hD
    have k3 : Tk K H2 (upd H2 d (.dK kv)) := Tk.upd (nt_frzK hd2)
    refine ⟨hd2, D, ps, kv', rfl, SqL.of (by rw [upd_ne hDd]; exact hD2), hps.up k3, fun g hg => q g _ (Ex.trans (fun b o hb => ?_) (Ex.new hg))⟩
    by_cases z : b = d
    · subst z
      rw [upd_same]
      rw [hd] at hb
      exact hb
    · rw [upd_ne z]
      exact e2 b o (off b o hb z)
end
end Oh

set_option maxHeartbeats 4000000
/-! Oh, part 24: the methods of Places -/
namespace Oh
open PySem PySem.Spec PyProof.Rows L2
open Evl (Ex)
def pFlds (many last : Int) (z : Str) (dW dB : Addr) : List (Str × V) := [("many", .int many), ("last", .int last), ("text", .str z), ("ways", .ref dW), ("backs", .ref dB)]
/-- a table whose rows can be found -/
def TGood (T : Tab) : Prop := (T.map (·.1)).Nodup ∧ T.length ≤ 100
structure HGood (h : Head) : Prop where
  ends : h.k.ends ≤ 60
  dep : h.k.dep ≤ 10
  four : h.steps.length ≤ 4
  one : ∀ q ∈ h.steps, q.1.length = 1
  nd : (h.steps.map (·.1)).Nodup
  init : TGood h.init
  last : TGood h.last
  step : ∀ q ∈ h.steps, TGood q.2
def Head.ways (h : Head) : List (Str × Tab) := putA (putA h.steps "first" h.last) "last" h.init
def WayAt (K : PySem.W.Frag) (H : Hp) (n : Addr) (v : V) (T : Tab) : Prop := ∃ d kv, v = .ref d ∧ d ≠ n ∧ H d = some (.dK kv) ∧ WRel K H kv T
def Dk (n : Addr) (H H' : Hp) : Prop := ∀ a kv, a ≠ n → H a = some (.dK kv) → H' a = some (.dK kv)
section
variable {K : PySem.W.Frag} {H H' : Hp} {n : Addr}
theorem WayAt.up {v : V} {T : Tab} (h : WayAt K H n v T) (d : Dk n H H') (t : Tk K H H') : WayAt K H' n v T := let ⟨a, kv, e, ne, ha, hw⟩ := h; ⟨a, kv, e, ne, d _ _ ne ha, hw.up t⟩
theorem dk {H H' : Hp} (e : Ex H H') : Dk n H H' := fun a kv _ h => e a _ h
theorem Dk.at {H : Hp} {o : HO} : Dk n H (upd H n o) := fun a kv ne h => by rw [upd_ne ne]; exact h
theorem Dk.lst {H : Hp} {l : Addr} {xs : List V} {o : HO} (hl : H l = some (.lst xs)) : Dk n H (upd H l o) := fun a kv ne h => by rw [upd_ne (fun z => by rw [z, hl] at h; cases h)]; exact h
theorem Dk.ins {H : Hp} {l C dx : Addr} {fs : List (Str × V)} {o : HO} (hl : H l = some (.ins C dx fs)) : Dk n H (upd H l o) := fun a kv ne h => by rw [upd_ne (fun z => by rw [z, hl] at h; cases h)]; exact h
theorem Dk.trans {H1 : Hp} (a : Dk n H H1) (b : Dk n H1 H') : Dk n H H' := fun x kv ne h => b x kv ne (a x kv ne h)
end
abbrev WaysRel (K : PySem.W.Frag) (H : Hp) (n : Addr) (kvs : List (Key × V)) (L : List (Str × Tab)) : Prop := DR (Sum.inr : Str → Key) (WayAt K H n) kvs L
/-- an instance of Places -/
def PlAt (K : PySem.W.Frag) (H : Hp) (C p : Addr) (h : Head) (z : Str) : Prop := ∃ dx dW dB kvs, H p = some (.ins C dx (pFlds h.k.ends ((z.length : Nat) + 1) z dW dB)) ∧ H dW = some (.dK kvs) ∧ WaysRel K H dW kvs h.ways
theorem PlAt.ex {K : PySem.W.Frag} {H H' : Hp} {C p : Addr} {h : Head} {z : Str} (q : PlAt K H C p h z) (e : Ex H H') : PlAt K H' C p h z :=
  let ⟨dx, dW, dB, kvs, h1, h2, h3⟩ := q; ⟨dx, dW, dB, kvs, e _ _ h1, e _ _ h2, h3.imp fun _ _ w => w.up (dk e) (tk e)⟩
theorem dr_snoc {α β κ : Type} {f : α → κ} {R : V → β → Prop} : ∀ {kvs : List (κ × V)} {L : List (α × β)} {a : α} {b : β} {v : V}, DR f R kvs L → R v b → DR f R (kvs ++ [(f a, v)]) (L ++ [(a, b)])
  | _, _, _, _, _, .nil, h => .cons h .nil
  | _, _, _, _, _, .cons h1 h2, h => .cons h1 (dr_snoc h2 h)
theorem head_steps {h : Head} (g : HGood h) : ("first" : Str) ∉ h.steps.map (·.1) ∧ ("last" : Str) ∉ h.steps.map (·.1) := by
  refine ⟨fun z => ?_, fun z => ?_⟩
  all_goals
    obtain ⟨q, hq, e⟩ := List.mem_map.mp z
    have := g.one q hq
    rw [e] at this
    revert this
    decide +kernel
theorem ways_nodup {h : Head} (g : HGood h) : (h.ways.map (·.1)).Nodup := nodup_put (nodup_put g.nd)
theorem ways_len {h : Head} (g : HGood h) : h.ways.length ≤ 6 := by
  have h1 := len_put (a := ("first" : Str)) (b := h.last) (L := h.steps)
  have h2 := len_put (a := ("last" : Str)) (b := h.init) (L := putA h.steps "first" h.last)
  have h3 := g.four
  show (putA (putA h.steps "first" h.last) "last" h.init).length ≤ 6
  omega
theorem ways_good {h : Head} (g : HGood h) : ∀ q ∈ h.ways, TGood q.2 := by
  have put : ∀ {L : List (Str × Tab)} {a : Str} {T : Tab}, (∀ q ∈ L, TGood q.2) → TGood T → ∀ q ∈ putA L a T, TGood q.2 := by
    intro L a T hL hT
    induction L with
    | nil => intro q hq; rw [List.mem_singleton.mp hq]; exact hT
    | cons p r ih =>
      intro q hq
      unfold putA at hq
      split at hq
      · rcases List.mem_cons.mp hq with rfl | hq
        · exact hT
        · exact hL q (List.mem_cons_of_mem _ hq)
      · rcases List.mem_cons.mp hq with rfl | hq
        · exact hL _ List.mem_cons_self
        · exact ih (fun q hq => hL q (List.mem_cons_of_mem _ hq)) q hq
  exact put (put g.step g.last) g.init
section
variable {P : Program} {w : World} {K : PySem.W.Frag} {mg : Str → Option Value} {base : Heap} {C : Addr}
theorem scPInit : FnScope ["self", "head", "text", "ways", "letter", "table", "name"] ["self", "head", "text"] (defScope sPInit) := ⟨rfl, rfl, rfl, by decide +kernel, rfl, by decide +kernel, by decide +kernel⟩
def spPInit (K : PySem.W.Frag) (C : Addr) : Sp := fun vs H Q _ => ∃ (p dx : Addr) (x : V) (h : Head) (z : Str), vs = [.ref p, x, .str z] ∧ H p = some (.ins C dx []) ∧ Im K H x h.d ∧ HGood h ∧ z.length ≤ 1000 ∧ ∀ H', ExB p H H' → PlAt K H' C p h z → Q .non H'
theorem kn_pinit (B : Std mg) (T : PlC K mg C) (GM : Kn P w K mg base "many_ends" 11 ["kind"] (spMany K 10)) (GL : Kn P w K mg base "links_in" 1 ["table"] (spLinksIn K)) (GG : Kn P w K mg base "goals_in" 1 ["links"] (spGoals K))
    (S : SrcM K C "__init__" "Places.__init__" sPInit ["self", "head", "text"]) : KnM P w K mg base C "__init__" 12 ["self", "head", "text"] (spPInit K C) := by
  refine S.kn scPInit (fun vs H Q E h => ?_) (fun f cdv A outer s H vs Q E hr h => ?_)
  · obtain ⟨p, dx, x, h, z, rfl, _⟩ := h
    rfl
  obtain ⟨p, dx, x, h, z, rfl, hp, hx, hg, hz, q⟩ := h
  have hu := hu_of hr
  have hr1 : Room 1 _ := hr.mono (show 1 ≤ 11 by omega)
  refine ⟨_, (pss_cons (ps_fld (pv 0) (pe_kn GM hr (pa_cons ((pe_ix ix_tup (pv 1) pe_int (fun _ _ => rfl))) pa_nil)) rfl) (pss_cons (ps_fld (pv 0) (pe_op op_add (pe_len B (pv 2)) (pe_int)) rfl) (pss_cons (ps_fld (pv 0) (pv 2) rfl) (pss_cons (ps_set (i := 3) scPInit.nd rfl (.inr rfl) (pe_callTy (call_dictP (by rfl)) rfl B.dict (by decide +kernel) (pa_cons ((pe_lc (own := [("letter", 4), ("table", 5)]) (g := gTup K 2 (gCons (gName 4) (gCons (gName 5) gNil))) (tt := tYes) (te := tTup (tCons _ (tCons (tCall (spLinksIn K) [] E0 _) tNil))) (by rfl) scPInit.nd (pi_tup (pe_ix ix_tup (pv 1) pe_int (fun _ _ => rfl))) (blkOk_by (N := ["self", "head", "text", "ways", "letter", "table", "name"]) (sc := defScope sPInit) (by decide +kernel)) (fun _ _ _ _ _ => pg_tup (by rfl) (pgs_cons (pg_name (i := 4) scPInit.nd rfl (.inl rfl)) (pgs_cons (pg_name (i := 5) scPInit.nd rfl (.inl rfl)) pgs_nil))) (fun _ _ _ _ _ => pts_nil) (fun _ _ _ _ _ => (pe_tup (pa_cons (pv 4) (pa_cons ((pe_kn GL hr1 (pa_cons (pv 5) pa_nil))) pa_nil)))))) pa_nil))) (pss_cons (ps_asg (pe_tup (pa_cons ((pe_kn GL hr1 (pa_cons ((pe_ix ix_tup (pv 1) pe_int (fun _ _ => rfl))) pa_nil))) (pa_cons ((pe_kn GL hr1 (pa_cons ((pe_ix ix_tup (pv 1) pe_int (fun _ _ => rfl))) pa_nil))) pa_nil))) (pg_tup (by rfl) (pgs_cons (pg_sub (pv 3) pe_str (set_dict hu)) (pgs_cons (pg_sub (pv 3) pe_str (set_dict hu)) pgs_nil)))) (pss_cons (ps_fld (pv 0) (pv 3) rfl) (pss_one (ps_fld (pv 0) (pe_callTy (call_dictP (by rfl)) rfl B.dict (by decide +kernel) (pa_cons (pe_lock (pe_lc (own := [("name", 6)]) (g := gName 6) (tt := tYes) (te := tTup (tCons _ (tCons (tCall (spGoals K) [] E0 (tCons (tDGet _ _) tNil)) tNil))) (by rfl) scPInit.nd (pi_keys (pv 3)) (blkOk_by (N := ["self", "head", "text", "ways", "letter", "table", "name"]) (sc := defScope sPInit) (by decide +kernel)) (fun _ _ _ _ _ => pg_name (i := 6) scPInit.nd rfl (.inl rfl)) (fun _ _ _ _ _ => pts_nil) (fun _ _ _ _ _ => (pe_tup (pa_cons (pv 6) (pa_cons ((pe_kn GG hr1 (pa_cons ((pe_dget hu (pv 3) (pv 6) (fun _ _ => rfl))) pa_nil))) pa_nil)))))) pa_nil)) rfl)))))))), ?_⟩
  have s2 : 2 ≤ sizeLine := by decide
  obtain ⟨a, x0, x1, x2, x3, x4, rfl, hs, h0, h1, h2, h3, h4⟩ := hx.t5
  obtain ⟨a3, xs, rfl, hs3, hxs⟩ := h3.t
  have hlen : xs.length = h.steps.length := by rw [hxs.len, List.length_map]
  have h4s := hg.four
  have he := hg.ends
  -- many, last, text
  refine ⟨_, rfl, a, _, 1, _, rfl, rfl, hs, atI_nat (j := 1) rfl, x1, h.k, rfl, h1, by omega, hg.dep, fun H1 e1 => ⟨_, rfl, p, C, dx, [], rfl, e1 _ _ hp, T.cl, T.nMany, by show 0 < 1000; decide, ?_⟩⟩
  refine ⟨_, rfl, _, _, rfl, ⟨sl hz, rfl⟩, _, _, rfl, rfl, _, rfl, p, C, dx, _, rfl, upd_same, T.cl, T.nLast, by show 1 < 1000; decide, ?_⟩
  refine ⟨_, rfl, _, rfl, p, C, dx, _, rfl, upd_same, T.cl, T.nText, by show 2 < 1000; decide, ?_⟩
  generalize hH2 : upd (upd (upd H1 p _) p _) p _ = H2
  have b2 : ExB p H H2 := fun b o hb hn => by
    rw [← hH2, upd_ne hn, upd_ne hn, upd_ne hn]
    exact e1 _ _ hb
  have hp2 : H2 p = some (.ins C dx [("many", .int h.k.ends), ("last", .int ((z.length : Nat) + 1)), ("text", .str z)]) := by rw [← hH2]; exact upd_same
  clear hH2
  have k2 : Tk K H H2 := b2.tk (nt_ins hp)
  have hs2 := k2 _ _ hs
  have hs32 := k2 _ _ hs3
  have hxs2 := hxs.up k2
  -- ways = dict([..])
  refine ⟨_, rfl, a, _, 3, _, rfl, rfl, hs2, atI_nat (j := 3) rfl, a3, rfl, ⟨_, hs32⟩, fun D hD => ?_⟩
  refine lc_tup (K := K) (a := a3) (xs := xs) (fun i H' => Ex H2 H' ∧ ∃ (ps : List Addr) (kv : List (Key × V)), H' D = some (.lst (ps.map V.ref)) ∧ PairsAt K H' ps kv ∧ WaysRel K H' p kv (h.steps.take i) ∧ ps.length ≤ i)
    ⟨Ex.new hD, [], [], upd_same, .nil, .nil, Nat.le_refl _⟩ (fun i H' _ z => tk z.1 _ _ hs32) ?_ ?_
  · rintro i v H3 hv ⟨e3, ps, kv, hD3, hps, hrel, hpl⟩
    have hil : i < xs.length := (List.getElem?_eq_some_iff.mp hv).1
    obtain ⟨dd, hdd, hvd⟩ := (hxs2.ex e3).get hv
    rw [List.getElem?_map] at hdd
    cases ep : h.steps[i]? with
    | none => rw [ep] at hdd; cases hdd
    | some r =>
      rw [ep] at hdd
      obtain rfl := Option.some.inj hdd
      obtain ⟨pa, v1, v2, rfl, hsa, hv1, hv2⟩ := hvd.t2
      obtain rfl := hv1.s
      have hmem := List.mem_of_getElem? ep
      have ht := hg.step r hmem
      refine ⟨pa, _, rfl, hsa, rfl, _, _, rfl, _, _, rfl, rfl, rfl, yes_if ⟨_, rfl, _, rfl, v2, r.2, rfl, hv2, ht.1, ht.2, fun d kvd H4 e4 hd0 hd4 hw => ⟨s2, fun t1 ht1 => ?_⟩⟩⟩
      have e5 : Ex H4 (upd H4 t1 (.tup [.str r.1, .ref d])) := Ex.new ht1
      have e45 := e4.trans e5
      have hD5 := e45 _ _ hD3
      have hpt : (upd H4 t1 (.tup [.str r.1, .ref d])) t1 = some (.tup [.str r.1, .ref d]) := upd_same
      have hd5 := e5 _ _ hd4
      have hw5 := hw.up (tk e5)
      generalize upd H4 t1 (.tup [.str r.1, .ref d]) = H5 at e5 e45 hD5 hpt hd5 hw5
      have t6 : Tk K H5 (upd H5 D (.lst (ps.map V.ref ++ [.ref t1]))) := Tk.upd (nt_lst hD5)
      have d6 : Dk p H5 (upd H5 D (.lst (ps.map V.ref ++ [.ref t1]))) := Dk.lst hD5
      refine ⟨_, hD5, small1000 (by rw [List.length_map]; omega), (e3.trans e45).mut hD, ps ++ [t1], kv ++ [(Sum.inr r.1, .ref d)], by rw [upd_same, List.map_append]; rfl, ?_, ?_, by simp; omega⟩
      · exact paired_snoc ((hps.up (tk e45)).up t6) (t6 _ _ (SqT.of hpt))
      · rw [List.take_add_one, ep]
        refine dr_snoc ((hrel.imp fun _ _ w => w.up (dk e45) (tk e45)).imp fun _ _ w => w.up d6 t6) ?_
        exact WayAt.up ⟨d, kvd, rfl, (fun y => by rw [y] at hd0; rw [e3 _ _ hp2] at hd0; cases hd0), hd5, hw5⟩ d6 t6
  rintro H3 ⟨e3, ps, kv, hD3, hps, hrel, hpl⟩
  rw [hlen, List.take_length] at hrel
  refine ⟨D, ps, kv, rfl, SqL.of hD3, hps, fun g hgn => ?_⟩
  have hnk : (kv.map (·.1)).Nodup := by rw [hrel.keys]; exact nodup_f inr_inj hg.nd
  rw [merge_nil hnk]
  have e4 : Ex H3 (upd H3 g (.dK kv)) := Ex.new hgn
  have hg4 : (upd H3 g (.dK kv)) g = some (.dK kv) := upd_same
  have hrel4 : WaysRel K (upd H3 g (.dK kv)) g kv h.steps := hrel.imp fun _ _ ⟨d, kvd, e, _, hd, hw⟩ => ⟨d, kvd, e, (fun y => by rw [y, hgn] at hd; cases hd), e4 _ _ hd, hw.up (tk e4)⟩
  have e24 := e3.trans e4
  have hgH2 : H2 g = none := Evl.fresh_back e3 hgn
  generalize upd H3 g (.dK kv) = H4 at e4 hg4 hrel4 e24
  have hs4 := tk e24 _ _ hs2
  -- ways['first'], ways['last'] = ..
  refine ⟨_, rfl, a, _, 4, _, rfl, rfl, hs4, atI_nat (j := 4) rfl, x4, h.last, rfl, (h4.up k2).ex e24, hg.last.1, hg.last.2, fun dF kF H5 e5 hF0 hF5 hwF => ?_⟩
  refine ⟨_, rfl, a, _, 2, _, rfl, rfl, tk e5 _ _ hs4, atI_nat (j := 2) rfl, x2, h.init, rfl, ((h2.up k2).ex e24).ex e5, hg.init.1, hg.init.2, fun dL kL H6 e6 hL0 hL6 hwL => ⟨s2, fun t ht => ?_⟩⟩
  have e7 : Ex H6 (upd H6 t (.tup [.ref dF, .ref dL])) := Ex.new ht
  have ht7 : (upd H6 t (.tup [.ref dF, .ref dL])) t = some (.tup [.ref dF, .ref dL]) := upd_same
  have e57 := (e5.trans e6).trans e7
  have hg7 := e57 _ _ hg4
  have wF : WayAt K (upd H6 t (.tup [.ref dF, .ref dL])) g (.ref dF) h.last := ⟨dF, kF, rfl, (fun y => by rw [y, hg4] at hF0; cases hF0), (e6.trans e7) _ _ hF5, hwF.up (tk (e6.trans e7))⟩
  have wL : WayAt K (upd H6 t (.tup [.ref dF, .ref dL])) g (.ref dL) h.init := ⟨dL, kL, rfl, (fun y => by rw [y, e5 _ _ hg4] at hL0; cases hL0), e7 _ _ hL6, hwL.up (tk e7)⟩
  have hrel7 : WaysRel K (upd H6 t (.tup [.ref dF, .ref dL])) g kv h.steps := hrel4.imp fun _ _ w => w.up (dk e57) (tk e57)
  generalize upd H6 t (.tup [.ref dF, .ref dL]) = H7 at e7 ht7 e57 hg7 wF wL hrel7
  have hkl : kv.length = h.steps.length := hrel7.len
  refine ⟨t, _, rfl, SqT.of ht7, rfl, _, _, rfl, _, rfl, g, _, rfl, DPut.k (k := Sum.inr "first") hg7 (small1000 (by omega)), ?_⟩
  have d8 : Dk g H7 (upd H7 g (.dK (putK kv (Sum.inr "first") (.ref dF)))) := Dk.at
  have k8 : Tk K H7 (upd H7 g (.dK (putK kv (Sum.inr "first") (.ref dF)))) := Tk.upd (nt_dK hg7)
  have hg8 : (upd H7 g (.dK (putK kv (Sum.inr "first") (.ref dF)))) g = some (.dK (putK kv (Sum.inr "first") (.ref dF))) := upd_same
  have hrel8 : WaysRel K (upd H7 g (.dK (putK kv (Sum.inr "first") (.ref dF)))) g (putK kv (Sum.inr "first") (.ref dF)) (putA h.steps "first" h.last) := (hrel7.imp fun _ _ w => w.up d8 k8).put inr_inj (wF.up d8 k8) hg.nd
  have wL8 := wL.up d8 k8
  have off8 : ∀ b o, H7 b = some o → b ≠ g → (upd H7 g (.dK (putK kv (Sum.inr "first") (.ref dF)))) b = some o := fun b o hb hn => by rw [upd_ne hn]; exact hb
  generalize upd H7 g (.dK (putK kv (Sum.inr "first") (.ref dF))) = H8 at d8 k8 hg8 hrel8 wL8 off8
  have hkl8 : (putK kv (Sum.inr "first") (V.ref dF)).length ≤ 5 := by
    rw [hrel8.len]
    have := len_put (a := ("first" : Str)) (b := h.last) (L := h.steps)
    omega
  refine ⟨_, _, rfl, _, rfl, g, _, rfl, DPut.k (k := Sum.inr "last") hg8 (small1000 (by omega)), rfl, ?_⟩
  have d9 : Dk g H8 (upd H8 g (.dK (putK (putK kv (Sum.inr "first") (.ref dF)) (Sum.inr "last") (.ref dL)))) := Dk.at
  have k9 : Tk K H8 (upd H8 g (.dK (putK (putK kv (Sum.inr "first") (.ref dF)) (Sum.inr "last") (.ref dL)))) := Tk.upd (nt_dK hg8)
  have hg9 : (upd H8 g (.dK (putK (putK kv (Sum.inr "first") (.ref dF)) (Sum.inr "last") (.ref dL)))) g = some (.dK (putK (putK kv (Sum.inr "first") (.ref dF)) (Sum.inr "last") (.ref dL))) := upd_same
  have hrel9 : WaysRel K (upd H8 g (.dK (putK (putK kv (Sum.inr "first") (.ref dF)) (Sum.inr "last") (.ref dL)))) g (putK (putK kv (Sum.inr "first") (.ref dF)) (Sum.inr "last") (.ref dL)) h.ways := (hrel8.imp fun _ _ w => w.up d9 k9).put inr_inj (wL8.up d9 k9) (nodup_put hg.nd)
  have off9 : ∀ b o, H7 b = some o → b ≠ g → (upd H8 g (.dK (putK (putK kv (Sum.inr "first") (.ref dF)) (Sum.inr "last") (.ref dL)))) b = some o := fun b o hb hn => by rw [upd_ne hn]; exact off8 b o hb hn
  generalize hkw : putK (putK kv (Sum.inr "first") (V.ref dF)) (Sum.inr "last") (V.ref dL) = kw at d9 k9 hg9 hrel9 off9
  generalize upd H8 g (.dK kw) = H9 at d9 k9 hg9 hrel9 off9
  have e27 := e24.trans e57
  have b9 : ExB p H H9 := fun b o hb hn => off9 b o (e27 _ _ (b2 b o hb hn)) (fun y => by rw [y] at hb; have := b2 g o hb (y ▸ hn); rw [hgH2] at this; cases this)
  have hp9 : H9 p = some (.ins C dx [("many", .int h.k.ends), ("last", .int ((z.length : Nat) + 1)), ("text", .str z)]) := off9 _ _ (e27 _ _ hp2) (fun y => by rw [y, hgH2] at hp2; cases hp2)
  -- self.ways = ways
  refine ⟨_, rfl, _, rfl, p, C, dx, _, rfl, hp9, T.cl, T.nWays, by show 3 < 1000; decide, ?_⟩
  have hng : g ≠ p := fun y => by rw [y, hp9] at hg9; cases hg9
  have bA : ExB p H (upd H9 p (.ins C dx (putF "ways" (.ref g) [("many", .int h.k.ends), ("last", .int ((z.length : Nat) + 1)), ("text", .str z)]))) := fun b o hb hn => by rw [upd_ne hn]; exact b9 b o hb hn
  have hpA : (upd H9 p (.ins C dx (putF "ways" (.ref g) [("many", .int h.k.ends), ("last", .int ((z.length : Nat) + 1)), ("text", .str z)]))) p = some (.ins C dx [("many", .int h.k.ends), ("last", .int ((z.length : Nat) + 1)), ("text", .str z), ("ways", .ref g)]) := upd_same
  have hgA : (upd H9 p (.ins C dx (putF "ways" (.ref g) [("many", .int h.k.ends), ("last", .int ((z.length : Nat) + 1)), ("text", .str z)]))) g = some (.dK kw) := by rw [upd_ne hng]; exact hg9
  have hrelA : WaysRel K (upd H9 p (.ins C dx (putF "ways" (.ref g) [("many", .int h.k.ends), ("last", .int ((z.length : Nat) + 1)), ("text", .str z)]))) g kw h.ways := hrel9.imp fun _ _ w => w.up (Dk.ins hp9) (Tk.upd (nt_ins hp9))
  generalize upd H9 p (.ins C dx (putF "ways" (.ref g) [("many", .int h.k.ends), ("last", .int ((z.length : Nat) + 1)), ("text", .str z)])) = HA at bA hpA hgA hrelA
  -- backs
  refine ⟨g, .dK kw, hgA, trivial, fun od => ?_⟩
  have kB : Tk K HA (upd HA g (.frz od (.dK kw))) := Tk.upd (nt_dK hgA)
  have hgB : (upd HA g (.frz od (.dK kw))) g = some (.frz od (.dK kw)) := upd_same
  have hrelB : WaysRel K (upd HA g (.frz od (.dK kw))) g kw h.ways := hrelA.imp fun _ _ w => w.up Dk.at kB
  have offB : ∀ b o, HA b = some o → b ≠ g → (upd HA g (.frz od (.dK kw))) b = some o := fun b o hb hn => by rw [upd_ne hn]; exact hb
  generalize upd HA g (.frz od (.dK kw)) = HB at kB hgB hrelB offB
  refine ⟨_, rfl, g, od, rfl, .inl ⟨kw, hgB, fun D2 hD2 => ?_⟩⟩
  have hkwl : kw.length = h.ways.length := hrelB.len
  have hwl := ways_len hg
  refine lc_it walk_keys (fun i H' => Ex HB H' ∧ ∃ (ps : List Addr) (kv' : List (Key × V)), H' D2 = some (.lst (ps.map V.ref)) ∧ PairsAt K H' ps kv' ∧ ps.length ≤ i)
    ⟨Ex.new hD2, [], [], upd_same, .nil, Nat.le_refl _⟩ (fun i H' _ z => z.1 _ _ hgB) ?_ ?_
  · rintro i v HC HC' hi ⟨eC, ps, kv', hDC, hps, hpl⟩ ⟨rfl, key, vl, hkv, rfl⟩
    obtain ⟨nm, TT, hLi, rfl, _⟩ := hrelB.at hkv
    have hmem := List.mem_of_getElem? hLi
    have hrelC : WaysRel K HC' g kw h.ways := hrelB.imp fun _ _ w => w.up (dk eC) (tk eC)
    obtain ⟨v0, hv0, d, kvd, rfl, hdn, hd, hw⟩ := hrelC.get inr_inj (lookA_of (ways_nodup hg) hmem)
    have hget : DGet HC' g (.str nm) (some (.ref d)) := by rw [← hv0]; exact .inl ⟨kw, Sum.inr nm, .inr ⟨od, eC _ _ hgB⟩, rfl, rfl⟩
    have ht := ways_good hg _ hmem
    refine ⟨rfl, yes_if ⟨_, rfl, _, rfl, _, rfl, g, _, rfl, hget, d, kvd, TT, rfl, hd, hw, ht.1, ht.2, fun pp HD eD => ⟨s2, fun t1 ht1 => ?_⟩⟩⟩
    have eE : Ex HD (upd HD t1 (.tup [.str nm, .ref pp])) := Ex.new ht1
    have hDE := (eD.trans eE) _ _ hDC
    have t6 : Tk K (upd HD t1 (.tup [.str nm, .ref pp])) (upd (upd HD t1 (.tup [.str nm, .ref pp])) D2 (.lst (ps.map V.ref ++ [.ref t1]))) := Tk.upd (nt_lst hDE)
    refine ⟨_, hDE, small1000 (by rw [List.length_map]; omega), ((eC.trans eD).trans eE).mut hD2, ps ++ [t1], kv' ++ [(Sum.inr nm, .ref pp)], by rw [upd_same, List.map_append]; rfl, ?_, by simp; omega⟩
    exact paired_snoc ((hps.up (tk (eD.trans eE))).up t6) (t6 _ _ (SqT.of upd_same))
  · rintro HC ⟨eC, ps, kv', hDC, hps, hpl⟩
    have hgC := eC _ _ hgB
    have hDg : D2 ≠ g := fun y => by rw [y, hgB] at hD2; cases hD2
    have kD : Tk K HC (upd HC g (.dK kw)) := Tk.upd (nt_frzK hgC)
    refine ⟨hgC, D2, ps, kv', rfl, SqL.of (by rw [upd_ne hDg]; exact hDC), hps.up kD, fun gB hgBn => ?_⟩
    have eD : Ex HA (upd HC g (.dK kw)) := fun b o hb => by
      by_cases y : b = g
      · subst y
        rw [upd_same]
        rw [hgA] at hb
        exact hb
      · rw [upd_ne y]
        exact eC b o (offB b o hb y)
    have eE : Ex HA (upd (upd HC g (.dK kw)) gB (.dK (mergeK [] kv'))) := Ex.trans eD (Ex.new hgBn)
    generalize upd (upd HC g (.dK kw)) gB (.dK (mergeK [] kv')) = HE at eE
    have hpE := eE _ _ hpA
    refine ⟨_, rfl, p, C, dx, _, rfl, hpE, T.cl, T.nBacks, by show 4 < 1000; decide, ?_⟩
    refine q _ (fun b o hb hn => by rw [upd_ne hn]; exact eE _ _ (bA b o hb hn)) ⟨dx, g, gB, kw, upd_same, by rw [upd_ne hng]; exact eE _ _ hgA, hrelA.imp fun _ _ w => (w.up (dk eE) (tk eE)).up (Dk.ins hpE) (Tk.upd (nt_ins hpE))⟩
end
end Oh

set_option maxHeartbeats 4000000
/-! Oh, part 25: called, link, lead -/
namespace Oh
open PySem PySem.Spec PyProof.Rows L2
open Evl (Ex)
def nameAt (z : Str) (place : Nat) : Str := if place = 0 then "first" else if place = z.length + 1 then "last" else ⟨#[z.cps.toList.getD (place - 1) 0]⟩
def optD : Option (Str × Option Int) → PyData
  | none => .none
  | some l => wayD l
def leadOf (many : Int) (last : Nat) (place : Nat) (goal : Int) : Nat × Int := if place = 0 ∨ (place ≠ last ∧ goal < many) then (place + 1, goal + if place + 1 = last then 0 else many) else (place - 1, if place = last then goal else goal - many)
section
variable {P : Program} {w : World} {K : PySem.W.Frag} {mg : Str → Option Value} {base : Heap} {C : Addr}
theorem scCalled : FnScope ["self", "place"] ["self", "place"] (defScope sCalled) := ⟨rfl, rfl, rfl, by decide +kernel, rfl, by decide +kernel, by decide +kernel⟩
def spCalled (K : PySem.W.Frag) (C : Addr) : Sp := fun vs H Q _ => ∃ (p : Addr) (h : Head) (z : Str) (n : Nat), vs = [.ref p, .int n] ∧ PlAt K H C p h z ∧ z.length ≤ 1000 ∧ n ≤ z.length + 1 ∧ Q (.str (nameAt z n)) H
theorem kn_called (T : PlC K mg C) (S : SrcM K C "called" "Places.called" sCalled ["self", "place"]) : KnM P w K mg base C "called" 1 ["self", "place"] (spCalled K C) := by
  refine S.kn scCalled (fun vs H Q E h => ?_) (fun f cdv A outer s H vs Q E hr h => ?_)
  · obtain ⟨p, h, z, n, rfl, _⟩ := h
    rfl
  obtain ⟨p, h, z, n, rfl, hp, hz, hn, q⟩ := h
  refine ⟨_, (pss_cons (ps_if (pt_cmpR op_eq (pv 1) (pe_int) (nomark _)) (pss_one (ps_ret pe_str)) pss_nil) (pss_one (ps_ret (pe_ifExp (pt_cmpR op_eq (pv 1) (pe_fld (pv 0) rfl) (nomark _)) pe_str (pe_ix ix_str (pe_fld (pv 0) rfl) (pe_op op_sub (pv 1) (pe_int)) (fun _ _ => rfl)))))), ?_⟩
  obtain ⟨dx, dW, dB, kvs, hp, hW, hrel⟩ := hp
  refine ⟨_, rfl, rfl, _, rfl, ?_⟩
  rw [dec_int]
  unfold nameAt at q
  by_cases h0 : n = 0
  · rw [if_pos h0] at q
    exact ifT (by omega) q
  · rw [if_neg h0] at q
    refine ifF (by omega) ⟨_, rfl, _, rfl, p, C, dx, _, _, rfl, hp, T.cl, T.nLast, rfl, rfl, _, rfl, ?_⟩
    rw [dec_int]
    by_cases h1 : n = z.length + 1
    · rw [if_pos h1] at q
      exact ifT (by omega) q
    · rw [if_neg h1] at q
      have hlt : n - 1 < z.cps.toList.length := by
        have : z.cps.toList.length = z.length := by rw [Array.length_toList]; rfl
        omega
      have hat : z.cps.toList[n - 1]? = some (z.cps.toList.getD (n - 1) 0) := by
        rw [List.getD_eq_getElem?_getD, List.getElem?_eq_getElem hlt]; rfl
      have ei : (n : Int) - 1 = ((n - 1 : Nat) : Int) := by omega
      refine ifF (by omega) ⟨_, rfl, p, C, dx, _, _, rfl, hp, T.cl, T.nText, rfl, _, rfl, _, _, rfl, rfl, z, _, _, rfl, rfl, sl hz, by rw [ei]; exact atI_nat hat, q⟩
theorem scLink : FnScope ["self", "place", "end"] ["self", "place", "end"] (defScope sLink) := ⟨rfl, rfl, rfl, by decide +kernel, rfl, by decide +kernel, by decide +kernel⟩
def spLink (K : PySem.W.Frag) (C : Addr) : Sp := fun vs H Q _ => ∃ (p : Addr) (h : Head) (z : Str) (n : Nat) (e : Int) (T : Tab), vs = [.ref p, .int n, .int e] ∧ PlAt K H C p h z ∧ z.length ≤ 1000 ∧ n ≤ z.length + 1 ∧ lookA h.ways (nameAt z n) = some T ∧ ∀ r, Im K H r (optD (lookA T e)) → Q r H
theorem kn_link (T : PlC K mg C) (G : KnM P w K mg base C "called" 1 ["self", "place"] (spCalled K C)) (S : SrcM K C "link" "Places.link" sLink ["self", "place", "end"]) : KnM P w K mg base C "link" 2 ["self", "place", "end"] (spLink K C) := by
  refine S.kn scLink (fun vs H Q E h => ?_) (fun f cdv A outer s H vs Q E hr h => ?_)
  · obtain ⟨p, h, z, n, e, T', rfl, _⟩ := h
    rfl
  obtain ⟨p, h, z, n, e, T', rfl, hp, hz, hn, hl, q⟩ := h
  have hu := hu_of hr
  refine ⟨_, (pss_one (ps_ret (pe_dget1 hu (pe_dget hu (pe_fld (pv 0) rfl) (pe_knM G T.cl hr (pv 0) (pa_cons (pv 1) pa_nil)) (fun _ _ => rfl)) (pv 2) ⟨by rfl, by rfl, by rfl, by rfl⟩))), ?_⟩
  obtain ⟨dx, dW, dB, kvs, hp1, hW, hrel⟩ := id hp
  obtain ⟨v0, hv0, d, kvd, rfl, hdn, hd, hw⟩ := hrel.get inr_inj hl
  refine ⟨_, rfl, p, C, dx, _, _, rfl, hp1, T.cl, T.nWays, rfl, _, rfl, p, dx, _, rfl, hp1, rfl, _, rfl, p, h, z, n, rfl, hp, hz, hn, dW, _, rfl, by rw [← hv0]; exact DGet.k (k := Sum.inr (nameAt z n)) hW, d, rfl, .inl ⟨_, .inl hd⟩, _, rfl, ?_⟩
  cases hle : lookA T' e with
  | none =>
    refine ⟨none, by rw [← hw.get0 inl_inj hle]; exact DGet.k (k := Sum.inl e) hd, q _ ?_⟩
    rw [hle]
    exact .non
  | some l =>
    obtain ⟨v1, hv1, hi⟩ := hw.get inl_inj hle
    refine ⟨some v1, by rw [← hv1]; exact DGet.k (k := Sum.inl e) hd, q _ ?_⟩
    rw [hle]
    exact hi
theorem scLead : FnScope ["self", "place", "goal", "shift", "end"] ["self", "place", "goal"] (defScope sLead) := ⟨rfl, rfl, rfl, by decide +kernel, rfl, by decide +kernel, by decide +kernel⟩
def spLead (K : PySem.W.Frag) (C : Addr) : Sp := fun vs H Q _ => ∃ (p : Addr) (h : Head) (z : Str) (n : Nat) (g : Int), vs = [.ref p, .int n, .int g] ∧ PlAt K H C p h z ∧ n ≤ z.length + 1 ∧
  ∀ t c H', Ex H H' → SqT K H' t [.ref c, .int (leadOf h.k.ends (z.length + 1) n g).1, .int (leadOf h.k.ends (z.length + 1) n g).2] → Q (.ref t) H'
theorem kn_lead (T : PlC K mg C) (S : SrcM K C "lead" "Places.lead" sLead ["self", "place", "goal"]) : KnM P w K mg base C "lead" 1 ["self", "place", "goal"] (spLead K C) := by
  refine S.kn scLead (fun vs H Q E h => ?_) (fun f cdv A outer s H vs Q E hr h => ?_)
  · obtain ⟨p, h, z, n, g, rfl, _⟩ := h
    rfl
  obtain ⟨p, h, z, n, g, rfl, hp, hn, q⟩ := h
  refine ⟨_, (pss_cons (ps_if (PW.pt (pw_or ((pt_cmpR op_eq (pv 1) (pe_int) (nomark _))) (pw_or1 ((PW.pt (pw_and ((pt_cmpR op_ne (pv 1) (pe_fld (pv 0) rfl) (nomark _))) (pw_and1 ((pt_cmpR op_lt (pv 2) (pe_fld (pv 0) rfl) (nomark _))))))))))
      (pss_cons (ps_set (i := 3) scLead.nd rfl (.inl rfl) (pe_ifExp (pt_cmpR op_eq ((pe_op op_add (pv 1) (pe_int))) (pe_fld (pv 0) rfl) (nomark _)) pe_int (pe_fld (pv 0) rfl))) (pss_one (ps_ret (pe_tup (pa_cons ((pe_tup (pa_cons (pv 1) (pa_cons (pv 2) pa_nil)))) (pa_cons ((pe_op op_add (pv 1) (pe_int))) (pa_cons ((pe_op op_add (pv 2) (pv 3))) pa_nil))))))) pss_nil) (pss_cons (ps_set (i := 4) scLead.nd rfl (.inl rfl) (pe_ifExp (pt_cmpR op_eq (pv 1) (pe_fld (pv 0) rfl) (nomark _)) (pv 2) (pe_op op_sub (pv 2) (pe_fld (pv 0) rfl)))) (pss_one (ps_ret (pe_tup (pa_cons ((pe_tup (pa_cons ((pe_op op_sub (pv 1) (pe_int))) (pa_cons (pv 4) pa_nil)))) (pa_cons ((pe_op op_sub (pv 1) (pe_int))) (pa_cons (pv 4) pa_nil)))))))), ?_⟩
  have s2 : 2 ≤ sizeLine := by decide
  have s3 : 3 ≤ sizeLine := by decide
  obtain ⟨dx, dW, dB, kvs, hp, hW, hrel⟩ := hp
  refine ⟨_, rfl, rfl, _, rfl, ?_⟩
  rw [dec_int]
  by_cases h0 : n = 0
  · have hc : n = 0 ∨ (n ≠ z.length + 1 ∧ g < h.k.ends) := .inl h0
    refine ifT (by omega) (iteT ?_)
    refine ⟨_, rfl, _, _, rfl, rfl, _, rfl, p, C, dx, _, _, rfl, hp, T.cl, T.nLast, rfl, rfl, _, rfl, ?_⟩
    rw [dec_int]
    by_cases h3 : n + 1 = z.length + 1
    · have hl : leadOf h.k.ends (z.length + 1) n g = (n + 1, g + 0) := by unfold leadOf; rw [if_pos hc, if_pos h3]
      refine ifT (by omega) ⟨_, rfl, _, rfl, s2, fun c hcn => ⟨_, rfl, _, _, rfl, rfl, _, rfl, _, rfl, _, _, rfl, rfl, s3, fun t ht => ?_⟩⟩
      refine q t c _ ((Ex.new hcn).trans (Ex.new ht)) ?_
      rw [hl]
      show SqT K _ t [.ref c, .int ((n + 1 : Nat) : Int), .int (g + 0)]
      rw [show ((n + 1 : Nat) : Int) = (n : Int) + 1 by omega]
      exact SqT.of upd_same
    · have hl : leadOf h.k.ends (z.length + 1) n g = (n + 1, g + h.k.ends) := by unfold leadOf; rw [if_pos hc, if_neg h3]
      refine ifF (by omega) ⟨_, rfl, p, C, dx, _, _, rfl, hp, T.cl, T.nMany, rfl, _, rfl, _, rfl, s2, fun c hcn => ⟨_, rfl, _, _, rfl, rfl, _, rfl, _, rfl, _, _, rfl, rfl, s3, fun t ht => ?_⟩⟩
      refine q t c _ ((Ex.new hcn).trans (Ex.new ht)) ?_
      rw [hl]
      show SqT K _ t [.ref c, .int ((n + 1 : Nat) : Int), .int (g + h.k.ends)]
      rw [show ((n + 1 : Nat) : Int) = (n : Int) + 1 by omega]
      exact SqT.of upd_same
  · refine ifF (by omega) ⟨_, rfl, _, rfl, p, C, dx, _, _, rfl, hp, T.cl, T.nLast, rfl, rfl, _, rfl, ?_⟩
    rw [dec_int]
    by_cases h1 : n = z.length + 1
    · have hc : ¬ (n = 0 ∨ (n ≠ z.length + 1 ∧ g < h.k.ends)) := fun y => y.elim h0 fun y => y.1 h1
      refine ifNF (by omega) (iteF ?_)
      refine ⟨_, rfl, _, rfl, p, C, dx, _, _, rfl, hp, T.cl, T.nLast, rfl, rfl, _, rfl, ?_⟩
      rw [dec_int]
      have hl : leadOf h.k.ends (z.length + 1) n g = (n - 1, g) := by unfold leadOf; rw [if_neg hc, if_pos h1]
      refine ifT (by omega) ⟨_, rfl, _, rfl, _, _, rfl, rfl, _, rfl, s2, fun c hcn => ⟨_, rfl, _, _, rfl, rfl, _, rfl, s3, fun t ht => ?_⟩⟩
      refine q t c _ ((Ex.new hcn).trans (Ex.new ht)) ?_
      rw [hl]
      show SqT K _ t [.ref c, .int ((n - 1 : Nat) : Int), .int (g)]
      rw [show ((n - 1 : Nat) : Int) = (n : Int) - 1 by omega]
      exact SqT.of upd_same
    · refine ifNT (by omega) ⟨_, rfl, _, rfl, p, C, dx, _, _, rfl, hp, T.cl, T.nMany, rfl, _, _, rfl, rfl, _, rfl, ?_⟩
      by_cases h2 : g < h.k.ends
      · have hc : n = 0 ∨ (n ≠ z.length + 1 ∧ g < h.k.ends) := .inr ⟨h1, h2⟩
        rw [decide_eq_true h2]
        refine iteT ?_
        refine ⟨_, rfl, _, _, rfl, rfl, _, rfl, p, C, dx, _, _, rfl, hp, T.cl, T.nLast, rfl, rfl, _, rfl, ?_⟩
        rw [dec_int]
        by_cases h3 : n + 1 = z.length + 1
        · have hl : leadOf h.k.ends (z.length + 1) n g = (n + 1, g + 0) := by unfold leadOf; rw [if_pos hc, if_pos h3]
          refine ifT (by omega) ⟨_, rfl, _, rfl, s2, fun c hcn => ⟨_, rfl, _, _, rfl, rfl, _, rfl, _, rfl, _, _, rfl, rfl, s3, fun t ht => ?_⟩⟩
          refine q t c _ ((Ex.new hcn).trans (Ex.new ht)) ?_
          rw [hl]
          show SqT K _ t [.ref c, .int ((n + 1 : Nat) : Int), .int (g + 0)]
          rw [show ((n + 1 : Nat) : Int) = (n : Int) + 1 by omega]
          exact SqT.of upd_same
        · have hl : leadOf h.k.ends (z.length + 1) n g = (n + 1, g + h.k.ends) := by unfold leadOf; rw [if_pos hc, if_neg h3]
          refine ifF (by omega) ⟨_, rfl, p, C, dx, _, _, rfl, hp, T.cl, T.nMany, rfl, _, rfl, _, rfl, s2, fun c hcn => ⟨_, rfl, _, _, rfl, rfl, _, rfl, _, rfl, _, _, rfl, rfl, s3, fun t ht => ?_⟩⟩
          refine q t c _ ((Ex.new hcn).trans (Ex.new ht)) ?_
          rw [hl]
          show SqT K _ t [.ref c, .int ((n + 1 : Nat) : Int), .int (g + h.k.ends)]
          rw [show ((n + 1 : Nat) : Int) = (n : Int) + 1 by omega]
          exact SqT.of upd_same
      · have hc : ¬ (n = 0 ∨ (n ≠ z.length + 1 ∧ g < h.k.ends)) := fun y => y.elim h0 fun y => h2 y.2
        rw [decide_eq_false h2]
        refine iteF ?_
        refine ⟨_, rfl, _, rfl, p, C, dx, _, _, rfl, hp, T.cl, T.nLast, rfl, rfl, _, rfl, ?_⟩
        rw [dec_int]
        have hl : leadOf h.k.ends (z.length + 1) n g = (n - 1, g - h.k.ends) := by unfold leadOf; rw [if_neg hc, if_neg h1]
        refine ifF (by omega) ⟨_, rfl, _, rfl, p, C, dx, _, _, rfl, hp, T.cl, T.nMany, rfl, _, _, rfl, rfl, _, rfl, _, _, rfl, rfl, _, rfl, s2, fun c hcn => ⟨_, rfl, _, _, rfl, rfl, _, rfl, s3, fun t ht => ?_⟩⟩
        refine q t c _ ((Ex.new hcn).trans (Ex.new ht)) ?_
        rw [hl]
        show SqT K _ t [.ref c, .int ((n - 1 : Nat) : Int), .int (g - h.k.ends)]
        rw [show ((n - 1 : Nat) : Int) = (n : Int) - 1 by omega]
        exact SqT.of upd_same
end
end Oh

set_option maxHeartbeats 4000000
/-! Oh, part 26: walked, run, walk -/
namespace Oh
open PySem PySem.Spec PyProof.Rows L2
open Evl (Ex)
abbrev Wrt := List (Str × Int)
def pairD (p : Str × Int) : PyData := .tuple [.str p.1, .int p.2]
def marks (w : Str) (n : Nat) : Wrt := w.cps.toList.map fun c => ((⟨#[c]⟩ : Str), (n : Int))
def walkGo (h : Head) (z : Str) : Nat → Nat → Int → Wrt → Option Wrt
  | 0, _, _, _ => none
  | f + 1, n, e, ws => match lookA h.ways (nameAt z n) with
    | none => none
    | some T => match lookA T e with
      | none => none
      | some (w, none) => some (ws ++ marks w n)
      | some (w, some g) => walkGo h z f (leadOf h.k.ends (z.length + 1) n g).1 (leadOf h.k.ends (z.length + 1) n g).2 (ws ++ marks w n)
theorem marks_len (w : Str) (n : Nat) : (marks w n).length = w.length := by
  unfold marks
  rw [List.length_map, Array.length_toList]; rfl
theorem walkGo_len {h : Head} {z : Str} : ∀ {f n : Nat} {e : Int} {ws W : Wrt}, walkGo h z f n e ws = some W → ws.length ≤ W.length
  | 0, _, _, _, _, q => by cases q
  | f + 1, n, e, ws, W, q => by
    unfold walkGo at q
    split at q
    · cases q
    · split at q
      · cases q
      · obtain rfl := Option.some.inj q
        rw [List.length_append]; omega
      · have := walkGo_len q
        rw [List.length_append] at this
        omega
theorem leadOf_le {m : Int} {last n : Nat} {g : Int} (h1 : 1 ≤ last) (h : n ≤ last) : (leadOf m last n g).1 ≤ last := by
  unfold leadOf
  split
  · rename_i c
    show n + 1 ≤ last
    rcases c with c | c
    · omega
    · have := c.1; omega
  · show n - 1 ≤ last
    omega
theorem PlAt.lst {K : PySem.W.Frag} {H : Hp} {C p l : Addr} {h : Head} {z : Str} {xs : List V} {o : HO} (q : PlAt K H C p h z) (hl : H l = some (.lst xs)) : PlAt K (upd H l o) C p h z :=
  let ⟨dx, dW, dB, kvs, h1, h2, h3⟩ := q
  ⟨dx, dW, dB, kvs, by rw [upd_ne (fun y => by rw [y, hl] at h1; cases h1)]; exact h1, by rw [upd_ne (fun y => by rw [y, hl] at h2; cases h2)]; exact h2, h3.imp fun _ _ w => w.up (Dk.lst hl) (Tk.upd (nt_lst hl))⟩
section
variable {P : Program} {w : World} {K : PySem.W.Frag} {mg : Str → Option Value} {base : Heap} {C : Addr}
abbrev sWalked : Stmt := top 59
theorem scWalked : FnScope ["head", "text", "places", "place", "end", "written", "crossings", "found", "crossing", "letter"] ["head", "text"] (defScope sWalked) := ⟨rfl, rfl, rfl, by decide +kernel, rfl, by decide +kernel, by decide +kernel⟩
def spWalked (K : PySem.W.Frag) : Sp := fun vs H Q _ => ∃ (x : V) (h : Head) (z : Str) (W : Wrt), vs = [x, .str z] ∧ Im K H x h.d ∧ HGood h ∧ z.length ≤ 200 ∧ walkGo h z 900 0 h.k.ends [] = some W ∧ W.length ≤ 900 ∧ ∀ t a0 aw ac H', Ex H H' → SqT K H' t [a0, .ref aw, ac] → Im K H' (.ref aw) (.tuple (W.map pairD)) → Q (.ref t) H'
def walkedW (K : PySem.W.Frag) (C : Addr) (H : Hp) (x : V) (h : Head) (z : Str) (W : Wrt) (p lw lc : Addr) : Nat → L2.St → Hp → Prop := fun m σ H1 => ∃ (n : Nat) (e : Int) (ws : Wrt) (vs cs : List V) (o7 o8 : Option V),
  σ = [some x, some (.str z), some (.ref p), some (.int n), some (.int e), some (.ref lw), some (.ref lc), o7, o8, none] ∧ Ex H H1 ∧ PlAt K H1 C p h z ∧ H1 lw = some (.lst vs) ∧ ImA K H1 vs (ws.map pairD) ∧ H1 lc = some (.lst cs) ∧ cs.length + m = 900 ∧ n ≤ z.length + 1 ∧ walkGo h z m n e ws = some W
theorem kn_walked (B : Std mg) (T : PlC K mg C) (mk : PySem.W.makesIn K C = true) (kp : PySem.W.keepIn K (.ref C) = true) (GI : KnM P w K mg base C "__init__" 12 ["self", "head", "text"] (spPInit K C)) (GM : Kn P w K mg base "many_ends" 11 ["kind"] (spMany K 10))
    (GL : KnM P w K mg base C "link" 2 ["self", "place", "end"] (spLink K C)) (GD : KnM P w K mg base C "lead" 1 ["self", "place", "goal"] (spLead K C)) (S : Src K mg "walked" sWalked ["head", "text"]) : Kn P w K mg base "walked" 14 ["head", "text"] (spWalked K) := by
  obtain ⟨fI, fdI, GI, mI, bI⟩ := GI.ex
  have M : Mk K C fI := ⟨mk, mI.at_, mI.fn, kp⟩
  refine S.kn scWalked (fun vs H Q E h => ?_) (fun f cdv A outer s H vs Q E hr h => ?_)
  · obtain ⟨x, h, z, W, rfl, _⟩ := h
    rfl
  obtain ⟨x, h, z, W, rfl, hx, hg, hz, hW, hWl, q⟩ := h
  have hu := hu_of hr
  have hr11 : Room 11 _ := hr.mono (show 11 ≤ 13 by omega)
  have hr2 : Room 2 _ := hr.mono (show 2 ≤ 13 by omega)
  have hr1 : Room 1 _ := hr.mono (show 1 ≤ 13 by omega)
  refine ⟨_, (pss_cons (ps_asg (pe_tup (pa_cons (pe_make M GI hr rfl T.mgC bI .nil pass0 (pa_cons (pv 0) (pa_cons (pv 1) pa_nil))) (pa_cons (pe_int) (pa_cons ((pe_kn GM hr11 (pa_cons ((pe_ix ix_tup (pv 0) pe_int (fun _ _ => rfl))) pa_nil))) pa_nil)))) (pg_tup (by rfl) (pgs_cons ((pg_name (i := 2) scWalked.nd rfl (.inl rfl))) (pgs_cons ((pg_name (i := 3) scWalked.nd rfl (.inr rfl))) (pgs_cons ((pg_name (i := 4) scWalked.nd rfl (.inl rfl))) pgs_nil))))) (pss_cons (ps_par (i := 5) (j := 6) (by rfl) scWalked.nd rfl rfl (by decide) rfl rfl (pa_cons (pe_lst pa_nil) (pa_cons (pe_lst pa_nil) pa_nil)) (by rfl)) (pss_one (ps_while PassesOwn.never (pt_val pe_bl) (pss_cons (ps_set (i := 7) scWalked.nd rfl (.inl rfl) (pe_knM GL T.cl hr2 (pv 2) (pa_cons (pv 3) (pa_cons (pv 4) pa_nil)))) (pss_cons (ps_if (pt_cmpR op_isN (pv 7) (pe_non) (nomark _)) pss_never pss_nil) (pss_cons (ps_expr (pe_bm PySem.F.plainAttrs_list PySem.F.slot_list_extend PySem.F.type_list_extend mt_extend (pv 5) (pa_cons ((pe_lc (own := [("letter", 9)]) (g := gName 9) (tt := tYes) (by rfl) scWalked.nd (pi_str (pe_ix ix_tup (pv 7) pe_int (fun _ _ => rfl))) (blkOk_by (N := ["head", "text", "places", "place", "end", "written", "crossings", "found", "crossing", "letter"]) (sc := defScope sWalked) (by decide +kernel)) (fun _ _ _ _ _ => pg_name (i := 9) scWalked.nd rfl (.inl rfl)) (fun _ _ _ _ _ => pts_nil) (fun _ _ _ _ _ => (pe_tup (pa_cons (pv 9) (pa_cons (pv 3) pa_nil)))))) pa_nil))) (pss_cons (ps_if (pt_cmpR op_isN ((pe_ix ix_tup (pv 7) pe_int (fun _ _ => rfl))) (pe_non) (nomark _)) (pss_one (ps_ret (pe_tup (pa_cons ((pe_tup (pa_cons (pe_str) pa_nil))) (pa_cons (pe_callTy call_tuple_of rfl B.tuple PyProof.Rows.boot_tuple (pa_cons (pv 5) pa_nil)) (pa_cons (pe_callTy call_tuple_of rfl B.tuple PyProof.Rows.boot_tuple (pa_cons (pv 6) pa_nil)) pa_nil)))))) pss_nil) (pss_cons (ps_asg (pe_knM GD T.cl hr1 (pv 2) (pa_cons (pv 3) (pa_cons ((pe_ix ix_tup (pv 7) pe_int (fun _ _ => rfl))) pa_nil))) (pg_tup (by rfl) (pgs_cons ((pg_name (i := 8) scWalked.nd rfl (.inl rfl))) (pgs_cons ((pg_name (i := 3) scWalked.nd rfl (.inr rfl))) (pgs_cons ((pg_name (i := 4) scWalked.nd rfl (.inl rfl))) pgs_nil))))) (pss_one (ps_expr (pe_bm PySem.F.plainAttrs_list PySem.F.slot_list_append PySem.F.type_list_append mt_append (pv 6) (pa_cons (pv 8) pa_nil))))))))))))), ?_⟩
  have s0 : 0 ≤ sizeLine := by decide
  have s1 : 1 ≤ sizeLine := by decide
  have s2 : 2 ≤ sizeLine := by decide
  have s3 : 3 ≤ sizeLine := by decide
  obtain ⟨a, x0, x1, x2, x3, x4, rfl, hs, _, h1, _, _, _⟩ := hx.t5
  have he := hg.ends
  refine ⟨_, rfl, _, rfl, fun p dd np nd ne => ?_⟩
  have f1 : Ex H (upd H dd (.own p)) := Ex.new nd
  have f2 : Ex (upd H dd (.own p)) (upd (upd H dd (.own p)) p (.ins C dd [])) := Ex.new (by rw [upd_ne ne.symm]; exact np)
  have f12 := f1.trans f2
  have hpm : (upd (upd H dd (.own p)) p (.ins C dd [])) p = some (.ins C dd []) := upd_same
  generalize upd (upd H dd (.own p)) p (.ins C dd []) = HM at f12 hpm
  refine ⟨p, dd, .ref a, h, z, rfl, hpm, hx.ex f12, hg, by omega, fun H1 b1 hp1 => ⟨rfl, ?_⟩⟩
  have e1 : Ex H H1 := fun b o hb => b1 b o (f12 _ _ hb) (ne_of_none hb np)
  refine ⟨_, rfl, a, _, 1, _, rfl, rfl, tk e1 _ _ hs, atI_nat (j := 1) rfl, x1, h.k, rfl, h1.ex e1, by omega, hg.dep, fun H2 e2 => ⟨s3, fun t ht => ?_⟩⟩
  have e3 : Ex H2 (upd H2 t (.tup [.ref p, .int 0, .int h.k.ends])) := Ex.new ht
  have ht3 : (upd H2 t (.tup [.ref p, .int 0, .int h.k.ends])) t = some (.tup [.ref p, .int 0, .int h.k.ends]) := upd_same
  generalize upd H2 t (.tup [.ref p, .int 0, .int h.k.ends]) = H3 at e3 ht3
  refine ⟨t, _, rfl, SqT.of ht3, rfl, _, _, rfl, _, _, rfl, _, _, rfl, rfl, s0, fun lw hlw => ⟨s0, fun lc hlc => ⟨_, _, rfl, ?_⟩⟩⟩
  have e03 := (e1.trans e2).trans e3
  have hlwH : H lw = none := Evl.fresh_back e03 hlw
  have e4 : Ex H3 (upd H3 lw (.lst [])) := Ex.new hlw
  have hlw4 : (upd H3 lw (.lst [])) lw = some (.lst []) := upd_same
  generalize upd H3 lw (.lst []) = H4 at e4 hlw4 hlc
  have hlcH : H lc = none := Evl.fresh_back (e03.trans e4) hlc
  have hne : lw ≠ lc := ne_of_none hlw4 hlc
  have e5 : Ex H4 (upd H4 lc (.lst [])) := Ex.new hlc
  have hlc5 : (upd H4 lc (.lst [])) lc = some (.lst []) := upd_same
  generalize upd H4 lc (.lst []) = H5 at e5 hlc5
  have e15 := ((e2.trans e3).trans e4).trans e5
  refine ⟨walkedW K C H (.ref a) h z W p lw lc, ⟨900, 0, h.k.ends, [], [], [], none, none, rfl, e1.trans e15, hp1.ex e15, e5 _ _ hlw4, .nil, hlc5, rfl, Nat.zero_le _, hW⟩, ?_⟩
  clear hp1 e15 hlw4 hlc5 e5 e4 e3 e2 e03 ht3
  rintro m σ HA ⟨n, e, ws, vs, cs, o7, o8, rfl, eA, hpA, hlwA, hvs, hlcA, hlen, hn, hgo⟩
  refine ⟨_, rfl, iteT ⟨_, fun _ _ z => z, ?_⟩⟩
  cases m with
  | zero => cases hgo
  | succ m =>
  unfold walkGo at hgo
  cases hl : lookA h.ways (nameAt z n) with
  | none => rw [hl] at hgo; cases hgo
  | some TT =>
  rw [hl] at hgo
  simp only at hgo
  cases hle : lookA TT e with
  | none => rw [hle] at hgo; cases hgo
  | some wg =>
  obtain ⟨w1, g⟩ := wg
  rw [hle] at hgo
  obtain ⟨dx, dW, dB, kvs, hpo, _, _⟩ := id hpA
  refine ⟨_, rfl, p, dx, _, rfl, hpo, rfl, _, rfl, _, rfl, p, h, z, n, e, TT, rfl, hpA, by omega, hn, hl, fun r hr => ?_⟩
  rw [hle] at hr
  obtain ⟨a2, y1, y2, rfl, hsa, hy1, hy2⟩ := Im.t2 (show Im K HA r (.tuple [.str w1, goalI g]) from hr)
  obtain rfl := hy1.s
  refine ⟨_, rfl, rfl, _, rfl, ifF (fun z => nomatch z) ?_⟩
  have hwl : (ws ++ marks w1 n).length ≤ W.length := by
    cases g with
    | none => obtain rfl := Option.some.inj hgo; exact Nat.le_refl _
    | some g0 => exact walkGo_len hgo
  rw [List.length_append, marks_len] at hwl
  have hw1 : w1.cps.size = w1.length := rfl
  refine ⟨_, rfl, .inl ⟨rfl, _, SqL.of hlwA⟩, _, rfl, a2, _, 0, _, rfl, rfl, hsa, atI_nat (j := 0) rfl, w1, rfl, fun D hD => ?_⟩
  refine lc_it walk_str (fun i H' => Ex HA H' ∧ ∃ ys, H' D = some (.lst ys) ∧ ImA K H' ys (((marks w1 n).take i).map pairD)) ⟨Ex.new hD, [], upd_same, .nil⟩ (fun _ _ _ _ => trivial) ?_ ?_
  · rintro i v HB HB' hi ⟨eB, ys, hDB, hys⟩ ⟨rfl, c, hc, rfl⟩
    have hyl := hys.len
    rw [List.length_map, List.length_take, marks_len] at hyl
    refine ⟨rfl, yes_if ⟨_, rfl, _, rfl, s2, fun g1 hg1 => ?_⟩⟩
    have eC : Ex HB' (upd HB' g1 (.tup [.str ⟨#[c]⟩, .int n])) := Ex.new hg1
    have hg1' : (upd HB' g1 (.tup [.str ⟨#[c]⟩, .int n])) g1 = some (.tup [.str ⟨#[c]⟩, .int n]) := upd_same
    generalize upd HB' g1 (.tup [.str ⟨#[c]⟩, .int n]) = HC at eC hg1'
    have hDC := eC _ _ hDB
    have k6 : Tk K HC (upd HC D (.lst (ys ++ [.ref g1]))) := Tk.upd (nt_lst hDC)
    refine ⟨_, hDC, small1000 (by omega), (eB.trans eC).mut hD, _, upd_same, ?_⟩
    have hci : (marks w1 n)[i]? = some ((⟨#[c]⟩ : Str), (n : Int)) := by
      unfold marks
      rw [List.getElem?_map, Array.getElem?_toList, hc]; rfl
    rw [List.take_add_one, hci, List.map_append]
    exact ((hys.ex eC).up k6).snoc ((Im.mk2 hg1' (.str _) (.int _)).up k6)
  rintro HB ⟨eB, ys, hDB, hys⟩
  rw [List.take_of_length_le (by rw [marks_len]; exact Nat.le_refl _)] at hys
  have hlwB := eB _ _ hlwA
  have hlcB := eB _ _ hlcA
  have hvl := hvs.len
  have hyl := hys.len
  rw [List.length_map] at hvl hyl
  rw [marks_len] at hyl
  refine ⟨lw, D, vs, ys, rfl, rfl, hlwB, hDB, sl (by omega), ?_⟩
  have k7 : Tk K HB (upd HB lw (.lst (vs ++ ys))) := Tk.upd (nt_lst hlwB)
  have eC : Ex H (upd HB lw (.lst (vs ++ ys))) := (eA.trans eB).mut hlwH
  have hpC : PlAt K (upd HB lw (.lst (vs ++ ys))) C p h z := (hpA.ex eB).lst hlwB
  have hlwC : (upd HB lw (.lst (vs ++ ys))) lw = some (.lst (vs ++ ys)) := upd_same
  have hlcC : (upd HB lw (.lst (vs ++ ys))) lc = some (.lst cs) := by rw [upd_ne hne.symm]; exact hlcB
  have hvsC : ImA K (upd HB lw (.lst (vs ++ ys))) (vs ++ ys) ((ws ++ marks w1 n).map pairD) := by
    rw [List.map_append]
    exact ((hvs.ex eB).up k7).app (hys.up k7)
  have hsaC := k7 _ _ (tk eB _ _ hsa)
  have hy2C := (hy2.ex eB).up k7
  generalize upd HB lw (.lst (vs ++ ys)) = HC at eC hpC hlwC hlcC hvsC hsaC hy2C
  refine ⟨_, rfl, a2, _, 1, _, rfl, rfl, hsaC, atI_nat (j := 1) rfl, rfl, _, rfl, ?_⟩
  cases g with
  | none =>
    obtain rfl := hy2C.n
    obtain rfl := Option.some.inj hgo
    refine ifT rfl ⟨s1, fun t0 ht0 => ?_⟩
    have e6 : Ex HC (upd HC t0 (.tup [.str "ends"])) := Ex.new ht0
    generalize upd HC t0 (.tup [.str "ends"]) = HD at e6
    refine ⟨_, rfl, lw, _, rfl, .inl ⟨SqL.of (e6 _ _ hlwC), fun tw htw => ?_⟩⟩
    have e7 : Ex HD (upd HD tw (.tup (vs ++ ys))) := Ex.new htw
    have htw7 : (upd HD tw (.tup (vs ++ ys))) tw = some (.tup (vs ++ ys)) := upd_same
    generalize upd HD tw (.tup (vs ++ ys)) = HE at e7 htw7
    refine ⟨_, rfl, lc, _, rfl, .inl ⟨SqL.of ((e6.trans e7) _ _ hlcC), fun tc htc => ⟨s3, fun t ht => ?_⟩⟩⟩
    have e8 : Ex HE (upd HE tc (.tup cs)) := Ex.new htc
    have e9 := e8.trans (Ex.new (o := .tup [.ref t0, .ref tw, .ref tc]) ht)
    exact q t (.ref t0) tw (.ref tc) _ (((eC.trans e6).trans e7).trans e9) (SqT.of upd_same) (.tup (SqT.of (e9 _ _ htw7)) (hvsC.ex ((e6.trans e7).trans e9)))
  | some g0 =>
    obtain rfl := hy2C.i
    obtain ⟨dx', dW', dB', kvs', hpo', _, _⟩ := id hpC
    refine ifF (fun z => nomatch z) ⟨_, rfl, p, dx', _, rfl, hpo', rfl, _, rfl, _, rfl, a2, _, 1, _, rfl, rfl, hsaC, atI_nat (j := 1) rfl, p, h, z, n, g0, rfl, hpC, hn, fun t c HD eD ht => ?_⟩
    refine ⟨t, _, rfl, ht, rfl, _, _, rfl, _, _, rfl, _, _, rfl, rfl, ?_⟩
    have hlcD := eD _ _ hlcC
    refine ⟨_, rfl, .inl ⟨rfl, _, SqL.of hlcD⟩, _, rfl, lc, _, _, rfl, rfl, hlcD, small1000 (by omega), ?_⟩
    have k8 : Tk K HD (upd HD lc (.lst (cs ++ [.ref c]))) := Tk.upd (nt_lst hlcD)
    refine ⟨m, Nat.lt_succ_self m, _, _, ws ++ marks w1 n, vs ++ ys, cs ++ [.ref c], _, _, rfl, (eC.trans eD).mut hlcH, (hpC.ex eD).lst hlcD, by rw [upd_ne hne]; exact eD _ _ hlwC, (hvsC.ex eD).up k8, upd_same, by rw [List.length_append, List.length_singleton]; omega, leadOf_le (by omega) hn, hgo⟩
end
end Oh

set_option maxHeartbeats 4000000
/-! Oh, part 27: run, walk -/
namespace Oh
open PySem PySem.Spec PyProof.Rows L2
open Evl (Ex)
theorem prune_count {D : PartsD} {L : Links} : ∀ {m : Nat} {left : List Int} {found T : Tab}, pruneGo D L m left found = some T → T.length ≤ found.length + m
  | 0, _, _, _, h => by cases h
  | m + 1, left, found, T, h => by
    rcases List.eq_nil_or_concat left with rfl | ⟨l, e, rfl⟩
    · rw [prune_nil h]; omega
    · rw [List.concat_eq_append] at h
      obtain ⟨n, w, g, hm, _, ⟨_, h2⟩ | ⟨q, more, _, _, h2⟩⟩ := prune_snoc h
      · obtain rfl : m = n := by omega
        have := prune_count h2
        rw [List.length_append, List.length_singleton] at this
        omega
      · obtain rfl : m = n := by omega
        have := prune_count h2
        rw [List.length_append, List.length_singleton] at this
        omega
theorem nodupI_nd : ∀ {l : List Int}, pruned.nodupI l = true → l.Nodup
  | [], _ => List.nodup_nil
  | x :: r, h => by
    have h' := Bool.and_eq_true_iff.mp (show (!(decide (x ∈ r)) && pruned.nodupI r) = true from h)
    rw [Bool.not_eq_true', decide_eq_false_iff_not] at h'
    exact List.nodup_cons.mpr ⟨h'.1, nodupI_nd h'.2⟩
theorem table_good {t : Tm} {T : Tab} (h : t.table = some T) : TGood T := by
  unfold Tm.table at h
  cases hl : t.links [] with
  | none => rw [hl] at h; cases h
  | some kl =>
    obtain ⟨k, L⟩ := kl
    rw [hl] at h
    have h : pruned k L = some T := h
    unfold pruned at h
    cases hg : pruneGo (partsOf k) L 20 [(k.ends : Int) - 1] [] with
    | none => rw [hg] at h; cases h
    | some T0 =>
      rw [hg] at h
      simp only at h
      split at h
      · rename_i hn
        obtain rfl := Option.some.inj h
        refine ⟨nodupI_nd hn, ?_⟩
        have := prune_count hg
        rw [List.length_nil] at this
        omega
      · cases h
theorem TGood.perm {T T0 : Tab} (p : T.Perm T0) (h : TGood T0) : TGood T := ⟨(p.map _).nodup_iff.mpr h.1, by rw [p.length_eq]; exact h.2⟩
theorem TabOf.good {t : Tm} {T : Tab} (h : TabOf t T) : TGood T := let ⟨_, h1, h2⟩ := h; (table_good h1).perm h2
/-- every term of a program has a table -/
structure PTab (p : Prog) : Prop where
  init : p.init.table.isSome = true
  last : p.last.table.isSome = true
  step : ∀ q ∈ p.steps, q.2.table.isSome = true
def Prog.head (p : Prog) : Head := ⟨p.k, p.init.table.getD [], p.steps.map fun q => (q.1, q.2.table.getD []), p.last.table.getD []⟩
theorem lookA_cons {α β : Type} [DecidableEq α] (p : α × β) (r : List (α × β)) (a : α) : lookA (p :: r) a = if p.1 = a then some p.2 else lookA r a := rfl
theorem lt_irrefl_list : ∀ l : List Nat, ¬ l < l := fun l h => List.lt_irrefl l h
theorem asc_nodup : ∀ {l : List Str}, ascB l = true → l.Nodup := by
  have key : ∀ (l : List Str) (a : Str), ascB (a :: l) = true → ∀ b ∈ l, a.cps.toList < b.cps.toList := by
    intro l
    induction l with
    | nil => intro a _ b hb; cases hb
    | cons c r ih =>
      intro a h b hb
      have h' := Bool.and_eq_true_iff.mp (show (decide (a.cps.toList < c.cps.toList) && ascB (c :: r)) = true from h)
      have h1 := of_decide_eq_true h'.1
      rcases List.mem_cons.mp hb with rfl | hb
      · exact h1
      · exact List.lt_trans h1 (ih c h'.2 b hb)
  intro l
  induction l with
  | nil => intro _; exact List.nodup_nil
  | cons a r ih =>
    intro h
    refine List.nodup_cons.mpr ⟨fun m => List.lt_irrefl _ (key r a h a m), ih ?_⟩
    cases r with
    | nil => rfl
    | cons b r => exact (Bool.and_eq_true_iff.mp (show (decide (a.cps.toList < b.cps.toList) && ascB (b :: r)) = true from h)).2
theorem head_fst {p : Prog} {h : Head} (hh : HeadOf p h) : h.steps.map (·.1) = p.steps.map (·.1) := by
  refine List.ext_getElem? fun i => ?_
  rw [List.getElem?_map, List.getElem?_map]
  cases e1 : p.steps[i]? with
  | none =>
    rw [List.getElem?_eq_none_iff] at e1
    rw [List.getElem?_eq_none_iff.mpr (by rw [hh.len]; exact e1)]
    rfl
  | some q =>
    have hi := (List.getElem?_eq_some_iff.mp e1).1
    have hi2 : i < h.steps.length := by rw [hh.len]; exact hi
    have e2 := List.getElem?_eq_getElem hi2
    rw [e2]
    exact congrArg some (hh.step i q _ e1 e2).1
theorem HeadOf.good {p : Prog} {h : Head} (hh : HeadOf p h) (hp : PGood p) : HGood h where
  ends := by rw [hh.k]; have := hp.ends; omega
  dep := by rw [hh.k]; have := hp.dep; omega
  four := by rw [hh.len]; exact hp.four
  one := fun q hq => by
    have : q.1 ∈ p.steps.map (·.1) := by rw [← head_fst hh]; exact List.mem_map.mpr ⟨q, hq, rfl⟩
    obtain ⟨r, hr, e⟩ := List.mem_map.mp this
    rw [← e]
    exact isLetter_len (hp.lets r hr)
  nd := by rw [head_fst hh]; exact asc_nodup hp.asc
  init := hh.init.good
  last := hh.last.good
  step := fun s hs => by
    obtain ⟨i, hi, e⟩ := List.mem_iff_getElem.mp hs
    have hi2 : i < p.steps.length := by rw [← hh.len]; exact hi
    have := (hh.step i _ _ (List.getElem?_eq_getElem hi2) (List.getElem?_eq_getElem hi)).2.good
    rw [e] at this
    exact this
theorem TabOf.look {t : Tm} {T : Tab} (h : TabOf t T) (e : Int) : lookA T e = lookA (t.table.getD []) e := by
  obtain ⟨T0, h1, h2⟩ := h
  rw [h1]
  exact lookA_perm h2 (table_good h1).1 e
/-- the same tables by any name, their rows in any order -/
theorem ways_look {p : Prog} {h : Head} (hh : HeadOf p h) (nm : Str) : (lookA h.ways nm = none ∧ lookA p.head.ways nm = none) ∨ ∃ T T0, lookA h.ways nm = some T ∧ lookA p.head.ways nm = some T0 ∧ ∀ e, lookA T e = lookA T0 e := by
  unfold Head.ways
  rw [lookA_put, lookA_put, lookA_put, lookA_put]
  by_cases h1 : nm = "last"
  · rw [if_pos h1, if_pos h1]
    exact .inr ⟨_, _, rfl, rfl, hh.init.look⟩
  · rw [if_neg h1, if_neg h1]
    by_cases h2 : nm = "first"
    · rw [if_pos h2, if_pos h2]
      exact .inr ⟨_, _, rfl, rfl, hh.last.look⟩
    · rw [if_neg h2, if_neg h2]
      have gen : ∀ (ps : List (Str × Tm)) (hs : List (Str × Tab)), hs.length = ps.length → (∀ (i : Nat) (q : Str × Tm) (s : Str × Tab), ps[i]? = some q → hs[i]? = some s → s.1 = q.1 ∧ TabOf q.2 s.2) →
          (lookA hs nm = none ∧ lookA (ps.map fun q => (q.1, q.2.table.getD [])) nm = none) ∨ ∃ T T0, lookA hs nm = some T ∧ lookA (ps.map fun q => (q.1, q.2.table.getD [])) nm = some T0 ∧ ∀ e, lookA T e = lookA T0 e := by
        intro ps
        induction ps with
        | nil =>
          intro hs hl _
          rw [List.length_nil, List.length_eq_zero_iff] at hl
          subst hl
          exact .inl ⟨rfl, rfl⟩
        | cons q r ih =>
          intro hs hl hall
          cases hs with
          | nil => simp at hl
          | cons s hs =>
            obtain ⟨e1, e2⟩ := hall 0 q s rfl rfl
            rw [List.map_cons, lookA_cons, lookA_cons, e1]
            by_cases z : q.1 = nm
            · rw [if_pos z, if_pos z]
              exact .inr ⟨_, _, rfl, rfl, e2.look⟩
            · rw [if_neg z, if_neg z]
              exact ih hs (by simpa using hl) fun i q' s' hq hs' => hall (i + 1) q' s' (by simpa using hq) (by simpa using hs')
      exact gen p.steps h.steps hh.len hh.step
theorem walkGo_head {p : Prog} {h : Head} (hh : HeadOf p h) (z : Str) : ∀ (f n : Nat) (e : Int) (ws : Wrt), walkGo h z f n e ws = walkGo p.head z f n e ws
  | 0, _, _, _ => rfl
  | f + 1, n, e, ws => by
    unfold walkGo
    have hk : h.k = p.head.k := hh.k
    rcases ways_look hh (nameAt z n) with ⟨h1, h2⟩ | ⟨T, T0, h1, h2, h3⟩
    · rw [h1, h2]
    · rw [h1, h2]
      simp only
      rw [h3 e]
      cases lookA T0 e with
      | none => rfl
      | some wg =>
        obtain ⟨w, g⟩ := wg
        cases g with
        | none => rfl
        | some g =>
          simp only
          rw [hk]
          exact walkGo_head hh z f _ _ _
section
variable {P : Program} {w : World} {K : PySem.W.Frag} {mg : Str → Option Value} {base : Heap} {C : Addr}
/-- what run and walk ask of a program and a text, and the written that comes out -/
structure Runs (p : Prog) (z : Str) (W : Wrt) : Prop where
  good : PGood p
  tab : PTab p
  len : z.length ≤ 200
  text : isText z = true
  lets : ∀ c ∈ z.cps.toList, c ∈ p.letters.cps.toList
  go : walkGo p.head z 900 0 p.k.ends [] = some W
  small : W.length ≤ 900
  chars : ∀ q ∈ W, q.1.length = 1
abbrev sRun : Stmt := top 60
theorem scRun : FnScope ["program", "text", "letter", "place"] ["program", "text"] (defScope sRun) := ⟨rfl, rfl, rfl, by decide +kernel, rfl, by decide +kernel, by decide +kernel⟩
def spRun (K : PySem.W.Frag) : Sp := fun vs H Q _ => ∃ (x : V) (p : Prog) (z : Str) (W : Wrt), vs = [x, .str z] ∧ Im K H x p.d ∧ Runs p z W ∧ ∀ H', Ex H H' → Q (.str (joinStr (W.map (·.1)))) H'
theorem sum_ones : ∀ {W : Wrt}, (∀ q ∈ W, q.1.length = 1) → ((W.map (·.1)).map (·.length)).sum = W.length
  | [], _ => rfl
  | q :: r, h => by
    rw [List.map_cons, List.map_cons, List.sum_cons, sum_ones (fun z hz => h z (List.mem_cons_of_mem _ hz)), h q List.mem_cons_self, List.length_cons, Nat.add_comm]
theorem kn_run (GP : Kn P w K mg base "need_program" 25 ["value"] (spNeedP K)) (GR : Kn P w K mg base "need_read" 2 ["frame", "text"] (spNeedR K)) (GT : Kn P w K mg base "tables_of" 35 ["program"] (spTables K)) (GW : Kn P w K mg base "walked" 14 ["head", "text"] (spWalked K))
    (S : Src K mg "run" sRun ["program", "text"]) : Kn P w K mg base "run" 36 ["program", "text"] (spRun K) := by
  refine S.kn scRun (fun vs H Q E h => ?_) (fun f cdv A outer s H vs Q E hr h => ?_)
  · obtain ⟨x, p, z, W, rfl, _⟩ := h
    rfl
  obtain ⟨x, p, z, W, rfl, hx, hR, q⟩ := h
  have hr25 : Room 25 _ := hr.mono (show 25 ≤ 35 by omega)
  have hr2 : Room 2 _ := hr.mono (show 2 ≤ 35 by omega)
  have hr14 : Room 14 _ := hr.mono (show 14 ≤ 35 by omega)
  refine ⟨_, (pss_cons (ps_expr (pe_kn GP hr25 (pa_cons (pv 0) pa_nil))) (pss_cons (ps_expr (pe_kn GR hr2 (pa_cons (pv 0) (pa_cons (pv 1) pa_nil)))) (pss_one (ps_ret (pe_join pe_str (pe_lc (own := [("letter", 2), ("place", 3)]) (g := gTup K 2 (gCons (gName 2) (gCons (gName 3) gNil))) (tt := tYes) (by rfl) scRun.nd (pi_tup (pe_ix ix_tup ((pe_kn GW hr14 (pa_cons ((pe_kn GT hr (pa_cons (pv 0) pa_nil))) (pa_cons (pv 1) pa_nil)))) pe_int (fun _ _ => rfl))) (blkOk_by (N := ["program", "text", "letter", "place"]) (sc := defScope sRun) (by decide +kernel)) (fun _ _ _ _ _ => pg_tup (by rfl) (pgs_cons (pg_name (i := 2) scRun.nd rfl (.inl rfl)) (pgs_cons (pg_name (i := 3) scRun.nd rfl (.inl rfl)) pgs_nil))) (fun _ _ _ _ _ => pts_nil) (fun _ _ _ _ _ => pv 2))))))), ?_⟩
  refine ⟨_, rfl, x, p, rfl, hx, hR.good, fun H1 e1 => ?_⟩
  refine ⟨_, rfl, _, rfl, x, p, z, rfl, hx.ex e1, hR.good, Nat.le_trans hR.len (by decide), hR.text, hR.lets, fun H2 e2 => ?_⟩
  have e12 := e1.trans e2
  refine ⟨⟨_, rfl⟩, _, rfl, x, p, rfl, hx.ex e12, hR.good, hR.tab.init, hR.tab.last, hR.tab.step, fun a h H3 e3 hh hI => ?_⟩
  have hgo : walkGo h z 900 0 h.k.ends [] = some W := by rw [walkGo_head hh z, hh.k]; exact hR.go
  refine ⟨_, rfl, .ref a, h, z, W, rfl, hI, hh.good hR.good, hR.len, hgo, hR.small, fun t a0 aw ac H4 e4 ht hw => ?_⟩
  have e14 := (e12.trans e3).trans e4
  obtain ⟨b, xs, eb, hs, hxs⟩ := hw.t
  cases eb
  have hxl := hxs.len
  rw [List.length_map] at hxl
  have hW9 := hR.small
  refine ⟨t, _, 1, _, rfl, rfl, ht, atI_nat (j := 1) rfl, aw, rfl, ⟨_, hs⟩, fun D hD => ?_⟩
  refine lc_tup (K := K) (a := aw) (xs := xs) (fun i H' => Ex H4 H' ∧ H' D = some (.lst (((W.take i).map (·.1)).map V.str))) ⟨Ex.new hD, upd_same⟩ (fun i H' _ z => tk z.1 _ _ hs) ?_ ?_
  · rintro i v H5 hv ⟨e5, hD5⟩
    have hil : i < xs.length := (List.getElem?_eq_some_iff.mp hv).1
    obtain ⟨dd, hdd, hvd⟩ := (hxs.ex e5).get hv
    rw [List.getElem?_map] at hdd
    cases ep : W[i]? with
    | none => rw [ep] at hdd; cases hdd
    | some pp =>
      rw [ep] at hdd
      obtain rfl := Option.some.inj hdd
      obtain ⟨pa, v1, v2, rfl, hsa, hv1, hv2⟩ := hvd.t2
      obtain rfl := hv1.s
      refine ⟨pa, _, rfl, hsa, rfl, _, _, rfl, _, _, rfl, rfl, rfl, yes_if ⟨_, rfl, _, hD5, small1000 (by rw [List.length_map, List.length_map, List.length_take]; omega), e5.mut hD, ?_⟩⟩
      rw [upd_same, List.take_add_one, ep, List.map_append, List.map_append]; rfl
  · rintro H5 ⟨e5, hD5⟩
    rw [hxl, List.take_length] at hD5
    refine ⟨_, D, _, rfl, rfl, .inl (SqL.of hD5), ?_, ?_⟩
    · rw [sum_ones hR.chars, List.length_map]
      have : ("" : Str).length = 0 := rfl
      rw [this]; omega
    · rw [join_eq]
      exact q H5 (e14.trans e5)
abbrev sWalk : Stmt := top 61
theorem scWalk : FnScope ["program", "text"] ["program", "text"] (defScope sWalk) := ⟨rfl, rfl, rfl, by decide +kernel, rfl, by decide +kernel, by decide +kernel⟩
def spWalk (K : PySem.W.Frag) : Sp := fun vs H Q _ => ∃ (x : V) (p : Prog) (z : Str) (W : Wrt), vs = [x, .str z] ∧ Im K H x p.d ∧ Runs p z W ∧ ∀ t aw ac H', Ex H H' → SqT K H' t [.ref aw, ac] → Im K H' (.ref aw) (.tuple (W.map pairD)) → Q (.ref t) H'
theorem kn_walk (GP : Kn P w K mg base "need_program" 25 ["value"] (spNeedP K)) (GR : Kn P w K mg base "need_read" 2 ["frame", "text"] (spNeedR K)) (GT : Kn P w K mg base "tables_of" 35 ["program"] (spTables K)) (GW : Kn P w K mg base "walked" 14 ["head", "text"] (spWalked K))
    (S : Src K mg "walk" sWalk ["program", "text"]) : Kn P w K mg base "walk" 36 ["program", "text"] (spWalk K) := by
  refine S.kn scWalk (fun vs H Q E h => ?_) (fun f cdv A outer s H vs Q E hr h => ?_)
  · obtain ⟨x, p, z, W, rfl, _⟩ := h
    rfl
  obtain ⟨x, p, z, W, rfl, hx, hR, q⟩ := h
  have hr25 : Room 25 _ := hr.mono (show 25 ≤ 35 by omega)
  have hr2 : Room 2 _ := hr.mono (show 2 ≤ 35 by omega)
  have hr14 : Room 14 _ := hr.mono (show 14 ≤ 35 by omega)
  refine ⟨_, (pss_cons (ps_expr (pe_kn GP hr25 (pa_cons (pv 0) pa_nil))) (pss_cons (ps_expr (pe_kn GR hr2 (pa_cons (pv 0) (pa_cons (pv 1) pa_nil)))) (pss_one (ps_ret (pe_slice sl_tup (pe_kn GW hr14 (pa_cons ((pe_kn GT hr (pa_cons (pv 0) pa_nil))) (pa_cons (pv 1) pa_nil))) (po_some pe_int) po_none))))), ?_⟩
  refine ⟨_, rfl, x, p, rfl, hx, hR.good, fun H1 e1 => ?_⟩
  refine ⟨_, rfl, _, rfl, x, p, z, rfl, hx.ex e1, hR.good, Nat.le_trans hR.len (by decide), hR.text, hR.lets, fun H2 e2 => ?_⟩
  have e12 := e1.trans e2
  refine ⟨_, rfl, x, p, rfl, hx.ex e12, hR.good, hR.tab.init, hR.tab.last, hR.tab.step, fun a h H3 e3 hh hI => ?_⟩
  have hgo : walkGo h z 900 0 h.k.ends [] = some W := by rw [walkGo_head hh z, hh.k]; exact hR.go
  refine ⟨_, rfl, .ref a, h, z, W, rfl, hI, hh.good hR.good, hR.len, hgo, hR.small, fun t a0 aw ac H4 e4 ht hw => ?_⟩
  have e14 := (e12.trans e3).trans e4
  refine ⟨1, rfl, t, _, rfl, ht, fun y => absurd (show HT.sIx 3 0 (some 1) = 0 from y.1) (by decide), fun g hg => ?_⟩
  exact q g aw ac _ (e14.trans (Ex.new hg)) (SqT.of upd_same) (hw.ex (Ex.new hg))
end
end Oh

set_option maxHeartbeats 4000000
/-! Oh, part 28: the law's draws -/
namespace Oh
open PySem PySem.Spec PyProof.Rows L2
open Evl (Ex)
theorem seq0 {n : Nat} (h : 0 < n) : seqIndex? 0 n = some 0 := (ixN_seq (n := n) (i := 0) (j := 0) (by unfold ixN; rw [if_pos (by decide), if_pos (by omega)]; rfl)).1
def stK (lg lc : Addr) (r t : Int) : List (Key × V) := [(Sum.inr "great", .ref lg), (Sum.inr "cells", .ref lc), (Sum.inr "rest", .int r), (Sum.inr "turn", .int t)]
/-- the state at d; great at lg, cells at lc; at most n turns so far -/
structure StAt (H : Hp) (d lg lc : Addr) (n : Nat) : Prop where
  ex : ∃ (gs cs : List Int) (r t : Int), H d = some (.dK (stK lg lc r t)) ∧ H lg = some (.lst (gs.map V.int)) ∧ H lc = some (.lst (cs.map V.int)) ∧ gs.length ≤ 63 ∧ cs.length ≤ 63 ∧ (∀ g ∈ gs, 0 ≤ g) ∧ (∀ g ∈ cs, 0 ≤ g) ∧ 0 ≤ r ∧ 0 ≤ t ∧ t ≤ n
  ne : lg ≠ lc
/-- all but the state's own stays -/
def ExS (d lg : Addr) (H H' : Hp) : Prop := ∀ b o, H b = some o → b ≠ d → b ≠ lg → H' b = some o
theorem ExS.trans {d lg : Addr} {H H1 H2 : Hp} (a : ExS d lg H H1) (b : ExS d lg H1 H2) : ExS d lg H H2 := fun x o h n m => b x o (a x o h n m) n m
theorem ExS.of {d lg : Addr} {H H1 : Hp} (a : Ex H H1) : ExS d lg H H1 := fun x o h _ _ => a x o h
theorem StAt.up {H H' : Hp} {d lg lc : Addr} {n : Nat} (h : StAt H d lg lc n) (e : Ex H H') : StAt H' d lg lc n :=
  ⟨let ⟨gs, cs, r, t, h1, h2, h3, h4⟩ := h.ex; ⟨gs, cs, r, t, e _ _ h1, e _ _ h2, e _ _ h3, h4⟩, h.ne⟩
theorem StAt.mono {H : Hp} {d lg lc : Addr} {n m : Nat} (h : StAt H d lg lc n) (e : n ≤ m) : StAt H d lg lc m :=
  ⟨let ⟨gs, cs, r, t, h1, h2, h3, h4, h5, h6, h7, h8, h9, h10⟩ := h.ex; ⟨gs, cs, r, t, h1, h2, h3, h4, h5, h6, h7, h8, h9, by omega⟩, h.ne⟩
theorem ExS.tk {K : PySem.W.Frag} {d lg : Addr} {H H' : Hp} (a : ExS d lg H H') (h1 : NT (H d)) (h2 : NT (H lg)) : Tk K H H' := fun x xs q => by
  rcases q with (q | ⟨u, q⟩) | q
  · exact .inl (.inl (a x _ q (fun z => by subst z; rw [q] at h1; exact h1) (fun z => by subst z; rw [q] at h2; exact h2)))
  · exact .inl (.inr ⟨u, a x _ q (fun z => by subst z; rw [q] at h1; exact h1) (fun z => by subst z; rw [q] at h2; exact h2)⟩)
  · exact .inr q
theorem StAt.tk {K : PySem.W.Frag} {H H' : Hp} {d lg lc : Addr} {n : Nat} (h : StAt H d lg lc n) (a : ExS d lg H H') : Tk K H H' := by
  obtain ⟨gs, cs, r, t, h1, h2, _⟩ := h.ex
  exact a.tk (nt_dK h1) (nt_lst h2)
section
variable {P : Program} {w : World} {K : PySem.W.Frag} {mg : Str → Option Value} {base : Heap}
abbrev sBegun : Stmt := top 63
theorem scBegun : FnScope ["_law_script", "_law_great", "_law_cell"] ["_law_script"] (defScope sBegun) := ⟨rfl, rfl, rfl, by decide +kernel, rfl, by decide +kernel, by decide +kernel⟩
def spBegun (K : PySem.W.Frag) : Sp := fun vs H Q _ => ∃ (a : Addr) (ns : List Int), vs = [.ref a] ∧ SqL K H a (ns.map V.int) ∧ ns.length ≤ 63 ∧ ∀ d lg lc H', Ex H H' → H d = none → H lg = none → StAt H' d lg lc 0 → Q (.ref d) H'
theorem kn_begun (B : Std mg) (S : Src K mg "_law_begun" sBegun ["_law_script"]) : Kn P w K mg base "_law_begun" 1 ["_law_script"] (spBegun K) := by
  refine S.kn scBegun (fun vs H Q E h => ?_) (fun f cdv A outer s H vs Q E hr h => ?_)
  · obtain ⟨a, ns, rfl, _⟩ := h
    rfl
  obtain ⟨a, ns, rfl, hs, hln, q⟩ := h
  have hu := hu_of hr
  refine ⟨_, (pss_cons (ps_setLc (i := 1) (own := [("_law_cell", 2)]) (g := gName 2) (tt := tTest (tOp _ (tCB _ (tCons (tVar 2) tNil)) (tOp _ (tC (.int 10)) (tC (.int 18))))) (by rfl) scBegun.nd rfl rfl (sw_true rfl rfl rfl (by decide +kernel)) (pi_list (pv 0)) (blkOk_by (N := ["_law_script", "_law_great", "_law_cell"]) (sc := defScope sBegun) (by decide +kernel))
      (fun _ _ _ _ _ => (pg_name (i := 2) scBegun.nd rfl (.inl rfl))) (fun _ _ _ _ _ => pts_one (pt_cmpR op_ge (pe_callB call_abs rfl B.abs (by decide +kernel) (pa_cons (pv 2) pa_nil)) ((pe_op op_pow (pe_int) (pe_int))) (nomark _))) (fun _ _ _ _ _ => (pe_op op_sub (pe_callB call_abs rfl B.abs (by decide +kernel) (pa_cons (pv 2) pa_nil)) ((pe_op op_pow (pe_int) (pe_int)))))) (pss_one (ps_ret (pe_disp (pps_cons pe_str (pv 1) (pps_cons pe_str (pe_lc (own := [("_law_cell", 2)]) (g := gName 2) (tt := tYes) (by rfl) scBegun.nd (pi_list (pv 0)) (blkOk_by (N := ["_law_script", "_law_great", "_law_cell"]) (sc := defScope sBegun) (by decide +kernel)) (fun _ _ _ _ _ => pg_name (i := 2) scBegun.nd rfl (.inl rfl)) (fun _ _ _ _ _ => pts_nil) (fun _ _ _ _ _ => pe_callB call_abs rfl B.abs (by decide +kernel) (pa_cons (pv 2) pa_nil))) (pps_cons pe_str pe_int (pps_cons pe_str pe_int pps_nil)))) (by rfl) (by rfl) (by simp) (by decide))))), ?_⟩
  have cp : CPow 10 18 := ⟨by decide, by decide, by decide⟩
  refine ⟨_, rfl, a, rfl, ⟨_, hs⟩, fun D hD => ?_⟩
  refine lc_list (K := K) (a := a) (xs := ns.map V.int) (fun i H' => Ex H H' ∧ ∃ gs : List Int, H' D = some (.lst (gs.map V.int)) ∧ gs.length ≤ i ∧ ∀ g ∈ gs, 0 ≤ g) ⟨Ex.new hD, [], upd_same, Nat.le_refl _, fun g h => nomatch h⟩ (fun i H' _ z => Evl.ex_l z.1 hs) ?_ ?_
  · rintro i v H1 hv ⟨e1, gs, hD1, hgl, hg0⟩
    have hil : i < (ns.map V.int).length := (List.getElem?_eq_some_iff.mp hv).1
    rw [List.length_map] at hil
    rw [List.getElem?_map] at hv
    cases en : ns[i]? with
    | none => rw [en] at hv; cases hv
    | some c =>
      rw [en] at hv
      obtain rfl := Option.some.inj hv
      refine ⟨rfl, _, rfl, c, rfl, _, _, rfl, rfl, cp, _, _, rfl, rfl, _, rfl, ?_⟩
      by_cases hc : (10 : Int) ^ (18 : Int).toNat ≤ (if c < 0 then -c else c)
      · refine ifT hc ⟨_, rfl, c, rfl, _, _, rfl, rfl, cp, _, _, rfl, rfl, _, hD1, small1000 (by rw [List.length_map]; omega), e1.mut hD, gs ++ [(if c < 0 then -c else c) - (10 : Int) ^ (18 : Int).toNat], by rw [upd_same, List.map_append]; rfl, by rw [List.length_append, List.length_singleton]; omega, fun g hg => ?_⟩
        rcases List.mem_append.mp hg with hg | hg
        · exact hg0 g hg
        · rw [List.mem_singleton.mp hg]
          exact Int.sub_nonneg_of_le hc
      · exact ifF hc ⟨e1, gs, hD1, by omega, hg0⟩
  rintro H1 ⟨e1, gs, hD1, hgl, hg0⟩
  rw [List.length_map] at hgl
  refine fun d hd => ⟨_, rfl, _, rfl, a, rfl, ⟨_, Evl.ex_l (e1.trans (Ex.new hd)) hs⟩, fun D2 hD2 => ?_⟩
  have e2 : Ex H1 (upd H1 d (.dK [])) := Ex.new hd
  have hd2 : (upd H1 d (.dK [])) d = some (.dK []) := upd_same
  generalize upd H1 d (.dK []) = H2 at e2 hd2 hD2
  refine lc_list (K := K) (a := a) (xs := ns.map V.int) (fun i H' => Ex H2 H' ∧ H' D2 = some (.lst (((ns.take i).map fun c => if c < 0 then -c else c).map V.int))) ⟨Ex.new hD2, upd_same⟩ (fun i H' _ z => Evl.ex_l ((e1.trans e2).trans z.1) hs) ?_ ?_
  · rintro i v H3 hv ⟨e3, hD3⟩
    have hil : i < (ns.map V.int).length := (List.getElem?_eq_some_iff.mp hv).1
    rw [List.length_map] at hil
    rw [List.getElem?_map] at hv
    cases en : ns[i]? with
    | none => rw [en] at hv; cases hv
    | some c =>
      rw [en] at hv
      obtain rfl := Option.some.inj hv
      refine ⟨rfl, yes_if ⟨_, rfl, c, rfl, _, hD3, small1000 (by rw [List.length_map, List.length_map, List.length_take]; omega), e3.mut hD2, ?_⟩⟩
      rw [upd_same, List.take_add_one, en, List.map_append, List.map_append]; rfl
  · rintro H3 ⟨e3, hD3⟩
    rw [List.length_map, List.take_length] at hD3
    have hd3 := e3 _ _ hd2
    have e03 := (e1.trans e2).trans e3
    refine ⟨hd3, stK D D2 0 0, rfl, by show 4 ≤ 15; decide, ?_⟩
    rw [merge_nil (show ((stK D D2 0 0).map (·.1)).Nodup by show ([Sum.inr "great", Sum.inr "cells", Sum.inr "rest", Sum.inr "turn"] : List Key).Nodup; decide +kernel)]
    have hdH : H d = none := Evl.fresh_back e1 hd
    have nDd : D ≠ d := ne_of_none hD1 hd
    have nD2d : D2 ≠ d := fun y => by rw [y, hd2] at hD2; cases hD2
    refine q d D D2 _ (e03.mut hdH) hdH hD ⟨⟨gs, ns.map (fun c => if c < 0 then -c else c), 0, 0, upd_same, ?_, ?_, by omega, by rw [List.length_map]; exact hln, hg0, ?_, by decide, by decide, by decide⟩, ?_⟩
    · rw [upd_ne nDd]; exact (e2.trans e3) _ _ hD1
    · rw [upd_ne nD2d]; exact hD3
    · intro g hg
      obtain ⟨c, _, rfl⟩ := List.mem_map.mp hg
      split <;> omega
    · exact ne_of_none (e2 _ _ hD1) hD2
abbrev sBlended : Stmt := top 64
theorem scBlended : FnScope ["_law_state", "_law_turn", "_law_found", "_law_prime", "_law_blend", "_law_cell"] ["_law_state"] (defScope sBlended) := ⟨rfl, rfl, rfl, by decide +kernel, rfl, by decide +kernel, by decide +kernel⟩
def spBlended (K : PySem.W.Frag) : Sp := fun vs H Q _ => ∃ (d lg lc : Addr) (gs cs : List Int) (r t : Int) (n : Nat), vs = [.ref d] ∧ H d = some (.dK (stK lg lc r t)) ∧ H lc = some (.lst (cs.map V.int)) ∧ cs.length ≤ 63 ∧ (∀ g ∈ cs, 0 ≤ g) ∧ 0 ≤ t ∧ t ≤ n ∧ n ≤ 1000000 ∧ ∀ v H', ExB d H H' → H' d = some (.dK (stK lg lc r (t + 1))) → 0 ≤ v → Q (.int v) H'
theorem kn_blended (B : Std mg) (S : Src K mg "_law_blended" sBlended ["_law_state"]) : Kn P w K mg base "_law_blended" 1 ["_law_state"] (spBlended K) := by
  refine S.kn scBlended (fun vs H Q E h => ?_) (fun f cdv A outer s H vs Q E hr h => ?_)
  · obtain ⟨d, lg, lc, gs, cs, r, t, n, rfl, _⟩ := h
    rfl
  obtain ⟨d, lg, lc, gs, cs, r, t, n, rfl, hd, hlc, hcl, hc0, ht0, htn, hn, q⟩ := h
  have hu := hu_of hr
  refine ⟨_, (pss_cons (ps_par (i := 1) (j := 2) (by rfl) scBlended.nd rfl rfl (by decide) rfl rfl (pa_cons ((pe_op op_add ((pe_dget hu (pv 0) (pe_str) (fun _ _ => rfl))) (pe_int))) (pa_cons (pe_int) pa_nil)) (by rfl)) (pss_cons (ps_dput hu (pv 0) pe_str (pv 1) rfl) (pss_cons (ps_for PassesOwn.never rfl (pi_list (pe_lst (pa_cons (pe_int) (pa_cons (pe_int) (pa_cons (pe_int) pa_nil))))) (pg_name (i := 3) scBlended.nd rfl (.inl rfl)) (pss_cons (ps_set (i := 4) scBlended.nd rfl (.inl rfl) ((pe_op op_add ((pe_op op_mul (pe_int) (pv 1))) ((pe_op op_fdiv (pv 3) (pe_int)))))) (pss_cons (ps_for PassesOwn.never rfl (pi_list (pe_dget hu (pv 0) (pe_str) (fun _ _ => rfl))) (pg_name (i := 5) scBlended.nd rfl (.inl rfl)) (pss_one (ps_set (i := 4) scBlended.nd rfl (.inl rfl) ((pe_op op_mod (pe_callTy call_int1 rfl B.int (by decide +kernel) (pa_cons ((pe_op op_add ((pe_op op_add ((pe_op op_mul (pv 4) (pe_int))) (pv 5))) (pv 1))) pa_nil)) (pv 3)))))) (pss_one (ps_set (i := 2) scBlended.nd rfl (.inl rfl) ((pe_op op_add ((pe_op op_mul (pv 2) (pe_int))) ((pe_op op_mod (pe_callTy call_int1 rfl B.int (by decide +kernel) (pa_cons ((pe_op op_pow (pv 4) (pe_int))) pa_nil)) (pv 3)))))))))) (pss_one (ps_ret (pv 2)))))), ?_⟩
  have s3 : 3 ≤ sizeLine := by decide
  refine ⟨_, rfl, d, _, rfl, DGet.k (k := Sum.inr "turn") hd, _, _, rfl, rfl, _, _, rfl, ?_⟩
  refine ⟨_, rfl, _, rfl, d, _, rfl, DPut.k (k := Sum.inr "turn") hd (by show 4 < sizeLine; decide), ?_⟩
  have b1 : ExB d H (upd H d (.dK (putK (stK lg lc r t) (Sum.inr "turn") (.int (t + 1))))) := ExB.refl.self
  have hd1 : (upd H d (.dK (putK (stK lg lc r t) (Sum.inr "turn") (.int (t + 1))))) d = some (.dK (stK lg lc r (t + 1))) := upd_same
  have hlc1 := b1 _ _ hlc (fun y => by rw [y, hd] at hlc; cases hlc)
  generalize upd H d (.dK (putK (stK lg lc r t) (Sum.inr "turn") (.int (t + 1)))) = H1 at b1 hd1 hlc1
  refine ⟨s3, fun lp hlp => ⟨lp, rfl, ⟨_, SqL.of upd_same⟩, ?_⟩⟩
  have e2 : Ex H1 (upd H1 lp (.lst [.int 2147483579, .int 2147483629, .int 2147483563])) := Ex.new hlp
  have hlp2 : (upd H1 lp (.lst [.int 2147483579, .int 2147483629, .int 2147483563])) lp = some (.lst [.int 2147483579, .int 2147483629, .int 2147483563]) := upd_same
  generalize upd H1 lp (.lst [.int 2147483579, .int 2147483629, .int 2147483563]) = H2 at e2 hlp2
  have hd2 := e2 _ _ hd1
  have hlc2 := e2 _ _ hlc1
  refine for_it (walk_list (xs := [.int 2147483579, .int 2147483629, .int 2147483563])) (fun i σ H' => ∃ (fd : Int) (o3 o4 o5 : Option V), σ = [some (.ref d), some (.int (t + 1)), some (.int fd), o3, o4, o5] ∧ H' = H2 ∧ 0 ≤ fd)
    ⟨0, none, none, none, rfl, rfl, Int.le_refl _⟩ (fun i σ H' _ z => ?_) ?_ ?_
  · obtain ⟨_, _, _, _, _, rfl, _⟩ := z
    exact SqL.of hlp2
  · rintro i v σ H3 H3' hi ⟨fd, o3, o4, o5, rfl, rfl, hfd⟩ ⟨rfl, hv⟩
    obtain ⟨pr, rfl, hp1, hp2⟩ : ∃ pr : Int, v = .int pr ∧ 2147483563 ≤ pr ∧ pr ≤ 2147483629 := by
      match i, hv with
      | 0, hv => exact ⟨2147483579, (Option.some.inj hv).symm, by decide, by decide⟩
      | 1, hv => exact ⟨2147483629, (Option.some.inj hv).symm, by decide, by decide⟩
      | 2, hv => exact ⟨2147483563, (Option.some.inj hv).symm, by decide, by decide⟩
    have hpr : 0 < pr := by omega
    refine ⟨_, rfl, _, _, rfl, rfl, .inl ⟨by decide, by decide⟩, _, rfl, _, _, rfl, rfl, ⟨by decide, by decide⟩, _, _, rfl, rfl, ?_⟩
    refine ⟨_, rfl, d, _, rfl, DGet.k (k := Sum.inr "cells") hd2, lc, rfl, ⟨_, SqL.of hlc2⟩, ?_⟩
    refine for_it (walk_list (xs := cs.map V.int)) (fun j σ H' => ∃ (b : Int) (o5 : Option V), σ = [some (.ref d), some (.int (t + 1)), some (.int fd), some (.int pr), some (.int b), o5] ∧ H' = H3' ∧ 0 ≤ b ∧ b ≤ 1000000000000)
      ⟨48271 * (t + 1) + pr / 53, o5, rfl, rfl, by omega, by omega⟩ (fun j σ H' _ z => ?_) ?_ ?_
    · obtain ⟨_, _, _, rfl, _⟩ := z
      exact SqL.of hlc2
    · rintro j v σ H4 H4' hj ⟨b, o5, rfl, rfl, hb0, hb1⟩ ⟨rfl, hv⟩
      rw [List.getElem?_map] at hv
      cases ec : cs[j]? with
      | none => rw [ec] at hv; cases hv
      | some c =>
        rw [ec] at hv
        obtain rfl := Option.some.inj hv
        refine ⟨_, rfl, _, _, rfl, rfl, .inr ⟨by decide, by decide⟩, _, rfl, _, _, rfl, rfl, _, rfl, _, _, rfl, rfl, .inl ⟨_, rfl, _, rfl, _, _, rfl, rfl, hpr, ?_⟩⟩
        refine ⟨_, _, rfl, rfl, Int.emod_nonneg _ (by omega), ?_⟩
        have := Int.emod_lt_of_pos (b * 69621 + c + (t + 1)) hpr
        omega
    · rintro σ H4 ⟨b, o5, rfl, rfl, hb0, hb1⟩
      refine ⟨_, rfl, _, _, rfl, rfl, .inr ⟨by decide, by decide⟩, _, rfl, _, _, rfl, rfl, ⟨by decide, by decide, by omega⟩, .inl ⟨_, rfl, _, rfl, _, _, rfl, rfl, hpr, _, _, rfl, rfl, ?_⟩⟩
      refine ⟨_, _, _, _, rfl, rfl, ?_⟩
      have h1 := Int.emod_nonneg (b ^ (5 : Int).toNat) (show pr ≠ 0 by omega)
      omega
  · rintro σ H3 ⟨fd, o3, o4, o5, rfl, rfl, hfd⟩
    exact ⟨_, rfl, q fd H3 (b1.trans (.of e2)) hd2 hfd⟩
abbrev sDraw : Stmt := top 65
theorem scDraw : FnScope ["_law_state", "_law_room", "_law_found"] ["_law_state", "_law_room"] (defScope sDraw) := ⟨rfl, rfl, rfl, by decide +kernel, rfl, by decide +kernel, by decide +kernel⟩
def spDraw (K : PySem.W.Frag) : Sp := fun vs H Q _ => ∃ (d lg lc : Addr) (n : Nat) (room : Int), vs = [.ref d, .int room] ∧ StAt H d lg lc n ∧ n ≤ 1000000 ∧ 0 < room ∧ room ≤ 1000 ∧ ∀ v H', ExS d lg H H' → StAt H' d lg lc (n + 1) → 0 ≤ v → v < room → Q (.int v) H'
theorem kn_draw (B : Std mg) (G : Kn P w K mg base "_law_blended" 1 ["_law_state"] (spBlended K)) (S : Src K mg "_law_draw" sDraw ["_law_state", "_law_room"]) : Kn P w K mg base "_law_draw" 2 ["_law_state", "_law_room"] (spDraw K) := by
  refine S.kn scDraw (fun vs H Q E h => ?_) (fun f cdv A outer s H vs Q E hr h => ?_)
  · obtain ⟨d, lg, lc, n, room, rfl, _⟩ := h
    rfl
  obtain ⟨d, lg, lc, n, room, rfl, hst, hn, hr0, hr1, q⟩ := h
  have hu := hu_of hr
  refine ⟨_, (pss_cons (ps_if (pt_cmpR op_eq ((pe_dget hu (pv 0) (pe_str) (fun _ _ => rfl))) (pe_int) (nomark _)) (pss_one (ps_dput hu (pv 0) pe_str (pe_ifExp (pt_cmpR (op_neNil hu) (pe_dget hu (pv 0) (pe_str) (fun _ _ => rfl)) (pe_lst pa_nil) (nomark _)) (pe_bm PySem.F.plainAttrs_list PySem.F.slot_list_pop PySem.F.type_list_pop mt_popAt (pe_dget hu (pv 0) (pe_str) (fun _ _ => rfl)) (pa_cons (pe_int) pa_nil)) (pe_kn G hr (pa_cons (pv 0) pa_nil))) rfl)) pss_nil) (pss_cons (ps_set (i := 2) scDraw.nd rfl (.inl rfl) ((pe_op op_mod (pe_callTy call_int1 rfl B.int (by decide +kernel) (pa_cons ((pe_dget hu (pv 0) (pe_str) (fun _ _ => rfl))) pa_nil)) (pv 1)))) (pss_cons (ps_dput hu (pv 0) pe_str (pe_op op_fdiv ((pe_dget hu (pv 0) (pe_str) (fun _ _ => rfl))) (pv 1)) rfl) (pss_one (ps_ret (pv 2)))))), ?_⟩
  have s0 : 0 ≤ sizeLine := by decide
  obtain ⟨gs, cs, r, t, hd, hlg, hlc, hgl, hcl, hg0, hc0, hr00, ht0, htn⟩ := hst.ex
  have hne := hst.ne
  have ndg : lg ≠ d := fun y => by rw [y, hd] at hlg; cases hlg
  have ndc : lc ≠ d := fun y => by rw [y, hd] at hlc; cases hlc
  have fin : ∀ (H2 : Hp) (gs' : List Int) (r' t' : Int), ExS d lg H H2 → H2 d = some (.dK (stK lg lc r' t')) → H2 lg = some (.lst (gs'.map V.int)) → H2 lc = some (.lst (cs.map V.int)) → gs'.length ≤ 63 → (∀ g ∈ gs', 0 ≤ g) → 0 ≤ r' → 0 ≤ t' → t' ≤ (n : Int) + 1 →
      ∀ H3, H3 = upd H2 d (.dK (stK lg lc (r' / room) t')) → Q (.int (r' % room)) H3 := by
    intro H2 gs' r' t' e2 hd2 hlg2 hlc2 hgl2 hg2 hr2 ht2 htn2 H3 hH3
    subst hH3
    refine q _ _ (fun b o hb h1 h2 => by rw [upd_ne h1]; exact e2 b o hb h1 h2) ⟨⟨gs', cs, r' / room, t', upd_same, by rw [upd_ne ndg]; exact hlg2, by rw [upd_ne ndc]; exact hlc2, hgl2, hcl, hg2, hc0, Int.ediv_nonneg hr2 (by omega), ht2, by omega⟩, hne⟩ (Int.emod_nonneg _ (by omega)) (Int.emod_lt_of_pos _ hr0)
  refine ⟨_, rfl, d, _, rfl, DGet.k (k := Sum.inr "rest") hd, rfl, _, rfl, ?_⟩
  rw [dec_int]
  by_cases hz : r = 0
  · refine ifT hz ⟨_, rfl, d, _, rfl, DGet.k (k := Sum.inr "great") hd, s0, fun pz hpz => ?_⟩
    have e1 : Ex H (upd H pz (.lst [])) := Ex.new hpz
    have hpz1 : (upd H pz (.lst [])) pz = some (.lst []) := upd_same
    generalize upd H pz (.lst []) = H1 at e1 hpz1
    have hd1 := e1 _ _ hd
    have hlg1 := e1 _ _ hlg
    have hlc1 := e1 _ _ hlc
    refine ⟨lg, pz, _, rfl, rfl, hlg1, hpz1, _, rfl, ?_⟩
    cases gs with
    | cons g gs =>
      refine iteT ⟨_, rfl, d, _, rfl, DGet.k (k := Sum.inr "great") hd1, .inl ⟨rfl, _, SqL.of hlg1⟩, lg, _, 0, 0, .int g, rfl, rfl, hlg1, by decide, by decide, seq0 (by rw [List.length_map, List.length_cons]; omega), rfl, ?_⟩
      have hd2 : (upd H1 lg (.lst (((g :: gs).map V.int).eraseIdx 0))) d = some (.dK (stK lg lc r t)) := by rw [upd_ne ndg.symm]; exact hd1
      have hlg2 : (upd H1 lg (.lst (((g :: gs).map V.int).eraseIdx 0))) lg = some (.lst (gs.map V.int)) := upd_same
      have hlc2 : (upd H1 lg (.lst (((g :: gs).map V.int).eraseIdx 0))) lc = some (.lst (cs.map V.int)) := by rw [upd_ne hne.symm]; exact hlc1
      have x2 : ExS d lg H (upd H1 lg (.lst (((g :: gs).map V.int).eraseIdx 0))) := fun b o hb h1 h2 => by rw [upd_ne h2]; exact e1 _ _ hb
      generalize upd H1 lg (.lst (((g :: gs).map V.int).eraseIdx 0)) = H2 at hd2 hlg2 hlc2 x2
      refine ⟨_, rfl, d, _, rfl, DPut.k (k := Sum.inr "rest") hd2 (by show 4 < sizeLine; decide), ?_⟩
      have hd3 : (upd H2 d (.dK (putK (stK lg lc r t) (Sum.inr "rest") (.int g)))) d = some (.dK (stK lg lc g t)) := upd_same
      have hlg3 : (upd H2 d (.dK (putK (stK lg lc r t) (Sum.inr "rest") (.int g)))) lg = some (.lst (gs.map V.int)) := by rw [upd_ne ndg]; exact hlg2
      have hlc3 : (upd H2 d (.dK (putK (stK lg lc r t) (Sum.inr "rest") (.int g)))) lc = some (.lst (cs.map V.int)) := by rw [upd_ne ndc]; exact hlc2
      have x3 : ExS d lg H (upd H2 d (.dK (putK (stK lg lc r t) (Sum.inr "rest") (.int g)))) := fun b o hb h1 h2 => by rw [upd_ne h1]; exact x2 _ _ hb h1 h2
      generalize upd H2 d (.dK (putK (stK lg lc r t) (Sum.inr "rest") (.int g))) = H3 at hd3 hlg3 hlc3 x3
      rw [List.length_cons] at hgl
      refine ⟨_, rfl, d, _, rfl, DGet.k (k := Sum.inr "rest") hd3, .inl ⟨_, rfl, _, rfl, _, _, rfl, rfl, hr0, ?_⟩⟩
      refine ⟨_, rfl, d, _, rfl, DGet.k (k := Sum.inr "rest") hd3, _, rfl, _, _, rfl, rfl, ⟨hr0, by omega⟩, _, rfl, d, _, rfl, DPut.k (k := Sum.inr "rest") hd3 (by show 4 < sizeLine; decide), _, rfl, ?_⟩
      refine fin H3 _ g _ x3 hd3 hlg3 hlc3 (by omega) (fun z hz => hg0 z (List.mem_cons_of_mem _ hz)) (hg0 g List.mem_cons_self) ht0 (by omega) _ rfl
    | nil =>
      refine iteF ⟨_, rfl, d, lg, lc, [], cs, r, t, n, rfl, hd1, hlc1, hcl, hc0, ht0, htn, hn, fun v H2 b2 hd2 hv => ?_⟩
      have x2 : ExS d lg H H2 := fun b o hb h1 h2 => b2 _ _ (e1 _ _ hb) h1
      have hlg2 := b2 _ _ hlg1 ndg
      have hlc2 := b2 _ _ hlc1 ndc
      refine ⟨_, rfl, d, _, rfl, DPut.k (k := Sum.inr "rest") hd2 (by show 4 < sizeLine; decide), ?_⟩
      have hd3 : (upd H2 d (.dK (putK (stK lg lc r (t + 1)) (Sum.inr "rest") (.int v)))) d = some (.dK (stK lg lc v (t + 1))) := upd_same
      have hlg3 : (upd H2 d (.dK (putK (stK lg lc r (t + 1)) (Sum.inr "rest") (.int v)))) lg = some (.lst (([] : List Int).map V.int)) := by rw [upd_ne ndg]; exact hlg2
      have hlc3 : (upd H2 d (.dK (putK (stK lg lc r (t + 1)) (Sum.inr "rest") (.int v)))) lc = some (.lst (cs.map V.int)) := by rw [upd_ne ndc]; exact hlc2
      have x3 : ExS d lg H (upd H2 d (.dK (putK (stK lg lc r (t + 1)) (Sum.inr "rest") (.int v)))) := fun b o hb h1 h2 => by rw [upd_ne h1]; exact x2 _ _ hb h1 h2
      generalize upd H2 d (.dK (putK (stK lg lc r (t + 1)) (Sum.inr "rest") (.int v))) = H3 at hd3 hlg3 hlc3 x3
      refine ⟨_, rfl, d, _, rfl, DGet.k (k := Sum.inr "rest") hd3, .inl ⟨_, rfl, _, rfl, _, _, rfl, rfl, hr0, ?_⟩⟩
      refine ⟨_, rfl, d, _, rfl, DGet.k (k := Sum.inr "rest") hd3, _, rfl, _, _, rfl, rfl, ⟨hr0, by omega⟩, _, rfl, d, _, rfl, DPut.k (k := Sum.inr "rest") hd3 (by show 4 < sizeLine; decide), _, rfl, ?_⟩
      refine fin H3 _ v _ x3 hd3 hlg3 hlc3 (by decide) (fun z hz => nomatch hz) hv (by omega) (by omega) _ rfl
  · refine ifF hz ?_
    refine ⟨_, rfl, d, _, rfl, DGet.k (k := Sum.inr "rest") hd, .inl ⟨_, rfl, _, rfl, _, _, rfl, rfl, hr0, ?_⟩⟩
    refine ⟨_, rfl, d, _, rfl, DGet.k (k := Sum.inr "rest") hd, _, rfl, _, _, rfl, rfl, ⟨hr0, by omega⟩, _, rfl, d, _, rfl, DPut.k (k := Sum.inr "rest") hd (by show 4 < sizeLine; decide), _, rfl, ?_⟩
    refine fin H _ r _ (.of (Ex.refl H)) hd hlg hlc hgl hg0 hr00 ht0 (by omega) _ rfl
abbrev sPick : Stmt := top 66
theorem scPick : FnScope ["_law_state", "_law_some"] ["_law_state", "_law_some"] (defScope sPick) := ⟨rfl, rfl, rfl, by decide +kernel, rfl, by decide +kernel, by decide +kernel⟩
def spPick (K : PySem.W.Frag) : Sp := fun vs H Q _ => ∃ (d lg lc : Addr) (n : Nat) (l : Addr) (xs : List V), vs = [.ref d, .ref l] ∧ StAt H d lg lc n ∧ n ≤ 1000000 ∧ H l = some (.lst xs) ∧ l ≠ lg ∧ 0 < xs.length ∧ xs.length ≤ 1000 ∧ ∀ v H', ExS d lg H H' → StAt H' d lg lc (n + 1) → v ∈ xs → Q v H'
theorem kn_pick (B : Std mg) (G : Kn P w K mg base "_law_draw" 2 ["_law_state", "_law_room"] (spDraw K)) (S : Src K mg "_law_pick" sPick ["_law_state", "_law_some"]) : Kn P w K mg base "_law_pick" 3 ["_law_state", "_law_some"] (spPick K) := by
  refine S.kn scPick (fun vs H Q E h => ?_) (fun f cdv A outer s H vs Q E hr h => ?_)
  · obtain ⟨d, lg, lc, n, l, xs, rfl, _⟩ := h
    rfl
  obtain ⟨d, lg, lc, n, l, xs, rfl, hst, hn, hl, hne, h0, h1, q⟩ := h
  refine ⟨_, (pss_one (ps_ret (pe_ix ix_list (pv 1) (pe_kn G hr (pa_cons (pv 0) (pa_cons (pe_len B (pv 1)) pa_nil))) (fun _ _ => rfl)))), ?_⟩
  refine ⟨_, rfl, _, rfl, _, rfl, _, _, rfl, .inl ⟨_, SqL.of hl, rfl⟩, d, lg, lc, n, _, rfl, hst, hn, by omega, by omega, fun v H1 e1 hst1 hv0 hv1 => ?_⟩
  have hld : l ≠ d := fun z => by
    obtain ⟨_, _, _, _, hd, _⟩ := hst.ex
    rw [z, hd] at hl
    cases hl
  obtain ⟨j, rfl⟩ : ∃ j : Nat, v = (j : Int) := ⟨v.toNat, by omega⟩
  have hj : j < xs.length := by omega
  exact ⟨l, _, _, _, rfl, rfl, SqL.of (e1 _ _ hl hld hne), atI_nat (List.getElem?_eq_getElem hj), q _ _ e1 hst1 (List.getElem_mem hj)⟩
end
end Oh

set_option maxHeartbeats 4000000
/-! Oh, part 29: more rules of its own: text[::-1], text * n, enumerate(text) -/
namespace Oh
open PySem PySem.Spec PyProof.Rows L2 Builtin Builtin.Str
open Evl (Ex)
def revStr (z : Str) : Str := ⟨z.cps.toList.reverse.toArray⟩
theorem rev_len (z : Str) : (revStr z).length = z.length := by
  show z.cps.toList.reverse.toArray.size = z.cps.size
  rw [List.size_toArray, List.length_reverse, Array.length_toList]
theorem rev_list (z : Str) : (revStr z).cps.toList = z.cps.toList.reverse := rfl
theorem sidx_rev (n : Nat) : strSliceIndices none none (-1) n = (List.range n).reverse := by
  have e : strSliceIndices none none (-1) n = sliceRange ((n : Int) - 1) (-1) (-1) := by
    first
      | rfl
      | (simp only [strSliceIndices]; rfl)
      | simp [strSliceIndices]
  rw [e, PySem.W.krv_sliceRange, PySem.W.krv_range]
theorem pick_rev (z : Str) : ((strSliceIndices none none (-1) z.length).filterMap (z.cps[·]?)).toArray = (revStr z).cps := by
  rw [sidx_rev]
  show ((List.range z.cps.size).reverse.filterMap (z.cps[·]?)).toArray = _
  rw [List.filterMap_reverse, PySem.W.krv_all]
  rfl
def tRevS (te : TE) : TE := fun σ H Q => te σ H fun x H1 => ∃ z, x = .str z ∧ z.length ≤ sizeLine ∧ Q (.str (revStr z)) H1
theorem pe_revS {X : Cx} {e : Expr} {te : TE} {k : Nat} {p1 p2 p3 pos : Pos} (he : PE X e te)
    (ht : ∀ (z : Str) (t : Tok) r, letTemporaryGo e (.str z t) r = pure () := by intro _ _ _; with_unfolding_all rfl) : PE X (.Subscript e (.Slice none none (some (.UnaryOp .USub (.Constant (.int 1) k p1) p2)) p3) pos) (tRevS te) := by
  refine ⟨fun pins s σ H Q I h => ?_⟩
  refine Subscript_ (thn (he.run pins s σ H _ I h) fun v s1 ⟨x, H1, I1, r1, q1⟩ => ?_)
  obtain ⟨z, ex, hz, q⟩ := q1
  subst ex
  obtain ⟨t, rfl⟩ := r1
  have hst : PO X (some (.UnaryOp .USub (.Constant (.int 1) k p1) p2)) (tPart (tUn (rU fun i => .int (-i)) (tC (.int 1)))) := po_some (pe_un un_neg pe_int)
  refine wpAny_Slice (thn (po_none.run pins s1 σ H1 (fun o H2 => o = none ∧ H2 = H1) I1 ⟨rfl, rfl⟩) fun vl s2 ⟨l, H2, I2, pl, el, e2⟩ => ?_)
  subst el e2
  refine thn (po_none.run pins s2 σ H2 (fun o H3 => o = none ∧ H3 = H2) I2 ⟨rfl, rfl⟩) fun vu s3 ⟨u, H3, I3, pu, eu, e3⟩ => ?_
  subst eu e3
  refine thn (hst.run pins s3 σ H3 (fun o H4 => o = some (-1) ∧ H4 = H3) I3 ⟨1, rfl, -1, rfl, rfl, rfl⟩) fun vs s4 ⟨o, H4, I4, ps, eo, e4⟩ => ?_
  subst eo e4
  have I5 : Inv X pins σ H4 { s4 with heap := s4.heap.push { cls := .type "slice", data := .fields #[vl, vu, vs] } } := I4.kept (t' := s4.toks) fun b ob q => Heap.get?_push_of_some _ q
  obtain ⟨l, rfl, hl⟩ := IsPart.raw pl
  obtain ⟨u, rfl, hu⟩ := IsPart.raw pu
  obtain ⟨w1, rfl, hw⟩ := IsPart.raw ps
  cases l with
  | some l => cases hl
  | none =>
  cases u with
  | some u => cases hu
  | none =>
  cases w1 with
  | none => cases hw
  | some w1 =>
  obtain ⟨i, ti⟩ := w1
  obtain rfl : i = -1 := by simpa using hw
  refine tail_of_ItemOn (ops := [.ref s4.heap.objs.size, .str z t]) ⟨"str", _, F.slot_str_getitem.lookup, typeIs_str _ _ _, ?_⟩ (by with_unfolding_all rfl) (ht z t)
  refine wpAny_getItem_str_slice (l := none) (u := none) (st := some (-1, ti)) ⟨_, Heap.get?_push_size _ rfl, rfl, rfl⟩ rfl ?_
  show Made.post (if (((-1 : Int) == 1) && _) = true then Made.val (.str z t) else Made.str ⟨((strSliceIndices none none (-1) z.length).filterMap (z.cps[·]?)).toArray⟩) _ _
  rw [pick_rev]
  rw [if_neg (by simp)]
  exact ⟨by rw [show (⟨(revStr z).cps⟩ : Str) = revStr z from rfl, rev_len]; exact hz, .str _, H4, I5.tok _, ⟨_, rfl⟩, q⟩
/-! ### text * 2 -/
def dblStr (z : Str) : Str := ⟨(z.cps.toList ++ z.cps.toList).toArray⟩
def rDbl : R2 := fun x y H Q => ∃ z, x = .str z ∧ y = .int 2 ∧ z.length = 1 ∧ Q (.str (dblStr z)) H
theorem op_dbl {X : Cx} : OpR X (binaryOp .Mult) rDbl := by
  intro pins s σ H x y v u Q I rx ry h
  obtain ⟨z, rfl, rfl, hz, q⟩ := h
  obtain ⟨t, rfl⟩ := rx
  obtain ⟨t2, rfl⟩ := ry
  refine P.mul_str (by decide) (fun _ _ => by rw [hz]; decide) (fun _ _ => by rw [hz]; decide) ?_
  rw [if_neg (by decide), if_neg (by rw [hz]; decide)]
  have e : (⟨(List.replicate (2 : Int).toNat z.cps).foldl (· ++ ·) #[]⟩ : Str) = dblStr z := by
    show (⟨(#[] ++ z.cps) ++ z.cps⟩ : Str) = dblStr z
    unfold dblStr
    congr 1
    apply Array.ext'
    simp
  rw [e]
  refine ⟨?_, .str _, H, I.tok _, ⟨_, rfl⟩, q⟩
  show (z.cps.toList ++ z.cps.toList).toArray.size ≤ sizeLine
  rw [List.size_toArray, List.length_append, Array.length_toList]
  have : z.cps.size = 1 := hz
  rw [this]
  decide
/-! ### enumerate(text) -/
def Itse (x : Str) : It := ⟨fun i _ => i < x.cps.size, fun i H v H' => ∃ T c, v = .ref T ∧ H T = none ∧ H' = upd H T (.tup [.int (i : Nat), .str ⟨#[c]⟩]) ∧ x.cps[i]? = some c, fun i _ => x.cps.size ≤ i⟩
theorem draws_text {P : Program} {w : World} {A : Around} (hh : A.handled = none) (it : Addr) (x : Str) (t : Tok) :
    Draws P w A it [it] x.cps.size (fun i v => ∃ c u, x.cps[i]? = some c ∧ v = .str ⟨#[c]⟩ u) (fun i h => h.IsStrIter it (strIterType x) x t i) := by
  unfold strIterType
  split
  · exact Draws.strAscii hh it x t
  · exact Draws.strWide hh it x t
theorem turn_enumS {P : Program} {w : World} {K : PySem.W.Frag} {elts : List Expr} {kk : Nat} {tpos : Pos} (e it : Addr) (x : Str) (t : Tok) :
    Turn P w K (.Tuple elts kk tpos) (Itse x) [e, it] e (fun i h => (∃ old, IsEnum h e it ((i : Nat) : Int) old) ∧ h.IsStrIter it (strIterType x) x t i ∧ e ≠ it ∧ i ≤ x.cps.size) where
  mem := by simp
  obj := fun i h st b hb => by
    obtain ⟨⟨old, he⟩, ⟨o, ho, hc, hd⟩, _⟩ := st
    have e' : b = e ∨ b = it := by simpa using hb
    rcases e' with z | z
    · rw [z]; exact ⟨_, he, fun v q => nomatch q⟩
    · rw [z]; exact ⟨o, ho, fun v q => by rw [hd] at q; cases q⟩
  keep := fun i h h' st k => let ⟨⟨old, he⟩, ⟨o, ho, r⟩, hne⟩ := st; ⟨⟨old, k e (by simp) _ he⟩, ⟨o, k it (by simp) o ho, r⟩, hne⟩
  item := by
    intro X hP hw hK hc i pins s σ H E I hf st hg
    subst hP hw hK
    obtain ⟨⟨old, he⟩, hit, hne, hi⟩ := st
    have hlt : i < x.cps.size := hg
    have hel : e < s.heap.objs.size := Heap.lt_size he
    have hil : it < s.heap.objs.size := by obtain ⟨_, q, _⟩ := hit; exact Heap.lt_size q
    have D := draws_text (P := X.prog) (w := X.w) (A := X.A.in1) (I.ok.hd hc) it x t
    refine wpAny_pyNext_enum_itemC D he hit hlt hne (by simpa using hne) fun u h' tk hu ho hit' hT hsz hk => ?_
    obtain ⟨c, uc, hcx, rfl⟩ := hu
    refine ⟨_, rfl, wpAny_letOwnedTupleGo_enum (s := { s with heap := h', toks := tk + 1 }) ho fun h'' he' sb => ?_⟩
    have hT2 : h''.get? s.heap.objs.size = some { cls := .type "tuple", data := .seq #[.int i tk, .str ⟨#[c]⟩ uc] } := (sb.2 _ (Nat.ne_of_gt hel)).trans hT
    have new : ObjOk X.prog X.w (upd H s.heap.objs.size (.tup [.int (i : Nat), .str ⟨#[c]⟩])) h'' s.heap.objs.size (.tup [.int (i : Nat), .str ⟨#[c]⟩]) :=
      ⟨by show 2 ≤ sizeLine; decide, [.int i tk, .str ⟨#[c]⟩ uc], .cons ⟨_, rfl⟩ (.cons ⟨_, rfl⟩ .nil), ⟨_, hT2, rfl, _, rfl⟩⟩
    have I1 : L2.Inv X pins σ (upd H s.heap.objs.size (.tup [.int (i : Nat), .str ⟨#[c]⟩])) { s with heap := h'', toks := tk + 1 } :=
      I.turnedNew (ch := [e, it]) (fun b ob hb q => (sb.2 b (fun z => hb (by simp [z]))).trans (hk b ob (fun z => hb (by simp [z])) (fun z => hb (by simp [z])) q)) hf (Nat.le_refl _) new
    refine ⟨.ref s.heap.objs.size, _, I1, rfl, ⟨_, c, rfl, I.hok.fresh (Nat.le_refl _), rfl, hcx⟩, ⟨⟨.str ⟨#[c]⟩ uc, ?_⟩, ?_, hne, hlt⟩, fun b hb => ?_⟩
    · have e1 : ((i + 1 : Nat) : Int) = (i : Int) + 1 := by omega
      rw [e1]; exact he'
    · obtain ⟨o, ho, r⟩ := hit'
      exact ⟨o, (sb.2 it (Ne.symm hne)).trans ho, r⟩
    · have hb' : b < s.heap.objs.size := by
        have e' : b = e ∨ b = it := by simpa using hb
        rcases e' with z | z
        · rw [z]; exact hel
        · rw [z]; exact hil
      rw [upd_ne (Nat.ne_of_lt hb')]
      exact (hf b hb).1
  done := by
    intro X hP hw hK hc i pins s σ H E I hf st hg
    subst hP hw hK
    obtain ⟨⟨old, he⟩, hit, hne, hi⟩ := st
    have hge : x.cps.size ≤ i := hg
    obtain rfl : i = x.cps.size := by omega
    obtain ⟨f0, f1, f2, f3, f4, f5⟩ := hf it (by simp)
    have D := draws_text (P := X.prog) (w := X.w) (A := X.A.in1) (I.ok.hd hc) it x t
    exact wpAny_pyNext_enum_endD D he hit fun h' eb => ⟨rfl, I.turned (t' := s.toks) (fun b o hb q => eb b o hb q) f0 f1 f3 f4 f5⟩
  self := fun A i s Q E st h => let ⟨⟨_, he⟩, _⟩ := st; wpAny_pyIter_enum he h
def iEnumS (ta : TA) : TI := fun σ H R => ta σ H fun vs H1 => ∃ x, vs = [.str x] ∧ R (Itse x) H1
theorem pi_enumS {X : Cx} {e : Expr} {ta : TA} {p pos tpos : Pos} {elts : List Expr} {kk : Nat} (hg : Gl X "enumerate") (hm : X.mg "enumerate" = none) (ha : PA X [e] ta) (hs : starEach [e] X.env = [(false, eval e X.env)] := by rfl) :
    PI X (.Tuple elts kk tpos) (.Call (.Name "enumerate" p) [e] [] pos) (iEnumS ta) := by
  refine ⟨fun pins s σ H R I h => ?_⟩
  refine Call_ (ld_blt I hg hm boot_enumerate (PyProof.Rows.callWith_type1 (thn (ha.run pos pins s σ H _ I h) fun us s1 ⟨vs, H1, I1, r1, q1⟩ => ?_) hs rfl))
  obtain ⟨x, ex, q⟩ := q1
  subst ex
  cases r1 with
  | cons r rr =>
    cases rr
    obtain ⟨t, rfl⟩ := r
    refine call_enumerate_str fun h' he hit hsz hk => wpAny_pyIter_enum he ?_
    have I2 : L2.Inv X pins σ H1 { s1 with heap := h' } := I1.kept (t' := s1.toks) hk
    refine ⟨s1.heap.objs.size + 1, [s1.heap.objs.size + 1, s1.heap.objs.size], _, _, H1, rfl, I2, turn_enumS (s1.heap.objs.size + 1) s1.heap.objs.size x t, ⟨⟨.none, he⟩, hit, Nat.succ_ne_self _, Nat.zero_le _⟩, fun b hb => ?_, q⟩
    have e' : b = s1.heap.objs.size + 1 ∨ b = s1.heap.objs.size := by simpa using hb
    have hle : s1.heap.objs.size ≤ b := by
      rcases e' with z | z
      · rw [z]; exact Nat.le_add_right _ _
      · rw [z]; exact Nat.le_refl _
    exact I1.fpOk hle (I1.hok.fresh hle)
theorem walk_enumS {z : Str} : Walk (Itse z) z.cps.size (fun _ => True) (fun i H v H' => ∃ T c, v = .ref T ∧ H T = none ∧ H' = upd H T (.tup [.int (i : Nat), .str ⟨#[c]⟩]) ∧ z.cps[i]? = some c) :=
  ⟨fun _ _ hi _ => hi, fun _ _ => Nat.le_refl _, fun _ _ _ _ _ _ y => y⟩
end Oh

set_option maxHeartbeats 4000000
/-! Oh, part 30: the law's programs -/
namespace Oh
open PySem PySem.Spec PyProof.Rows L2
open Evl (Ex)
/-! ### what is laid anew, read at once -/
def EvD (K : PySem.W.Frag) (σ : L2.St) (H : Hp) (te : TE) (d : PyData) : Prop := ∀ H1, Ex H H1 → ∀ Q : VK, (∀ r H', Ex H1 H' → Im K H' r d → Q r H') → te σ H1 Q
def EvDA (K : PySem.W.Frag) (σ : L2.St) (H : Hp) (ta : TA) (ds : List PyData) : Prop := ∀ H1, Ex H H1 → ∀ Q : List V → Hp → Prop, (∀ vs H', Ex H1 H' → ImA K H' vs ds → Q vs H') → ta σ H1 Q
section
variable {K : PySem.W.Frag} {σ : L2.St} {H : Hp}
theorem evd_str (x : Str) : EvD K σ H (tC (.str x)) (.str x) := fun H1 _ Q q => q _ _ (Ex.refl H1) (.str x)
theorem evd_var {i : Nat} {v : V} {d : PyData} (h : σ[i]? = some (some v)) (hv : Im K H v d) : EvD K σ H (tVar i) d := fun H1 e Q q => ⟨v, h, q v H1 (Ex.refl H1) (hv.ex e)⟩
theorem evd_nil : EvDA K σ H tNil [] := fun H1 _ Q q => q [] H1 (Ex.refl H1) .nil
theorem evd_cons {te : TE} {ta : TA} {d : PyData} {ds : List PyData} (h : EvD K σ H te d) (t : EvDA K σ H ta ds) : EvDA K σ H (tCons te ta) (d :: ds) := fun H1 e Q q =>
  h H1 e _ fun r H2 e2 hr => t H2 (e.trans e2) _ fun vs H3 e3 hv => q _ H3 (e2.trans e3) (.cons (hr.ex e3) hv)
theorem evd_tup {ta : TA} {ds : List PyData} (h : EvDA K σ H ta ds) (hl : ds.length ≤ 1000 := by simp) : EvD K σ H (tTup ta) (.tuple ds) := fun H1 e Q q =>
  h H1 e _ fun vs H2 e2 hv => ⟨by rw [hv.len]; exact sl hl, fun g hg => q _ _ (e2.trans (Ex.new hg)) (.tup (SqT.of upd_same) (hv.ex (Ex.new hg)))⟩
theorem evd_seq {te : TE} {d : PyData} {i : Nat} {rest : TS} {D : Ends} (h : EvD K σ H te d) (q : ∀ r H1, Ex H H1 → Im K H1 r d → rest D (σ.set i (some r)) H1) : tSeq (tAsg te (gName i)) rest D σ H := h H (Ex.refl H) (fun r H1 => rest D (σ.set i (some r)) H1) q
end
def txtD : PyData := .tuple [.str "text"]
def bothK : Kd := .to .tx .tx
def signs (z : Str) : List Str := z.cps.toList.map fun c => (⟨#[c]⟩ : Str)
theorem signs_len (z : Str) : (signs z).length = z.length := by
  unfold signs
  rw [List.length_map, Array.length_toList]; rfl
theorem signs_at {z : Str} {i c : Nat} (h : z.cps[i]? = some c) : (signs z)[i]? = some (⟨#[c]⟩ : Str) := by
  unfold signs
  rw [List.getElem?_map, Array.getElem?_toList, h]; rfl
def mirTm (c : Str) (tw : Bool) : Tm := .fn "f" bothK (.fn "x" .tx (if tw = true then .pt c (.cl (.nm "f") (.pt c (.nm "x"))) else .cl (.nm "f") (.pt c (.nm "x"))))
def mirProg (z : Str) (tw : Bool) : Prog := ⟨bothK, .fn "x" .tx (.nm "x"), (signs z).map fun c => (c, mirTm c tw), .fn "f" bothK (.cl (.nm "f") .en)⟩
def puts (w : Str) : Tm := (signs w).foldr .pt (.nm "x")
def ltrProg (L : List (Str × Str)) : Prog := ⟨.tx, .en, L.map fun p => (p.1, .fn "x" .tx (puts p.2)), .fn "x" .tx (.nm "x")⟩
def taiTm (c stop : Str) : Tm := .fn "x" .tx (if c = stop then .en else .pt c (.nm "x"))
def taiProg (z stop : Str) : Prog := ⟨.tx, .en, (signs z).map fun c => (c, taiTm c stop), .fn "x" .tx (.nm "x")⟩
section
variable {P : Program} {w : World} {K : PySem.W.Frag} {mg : Str → Option Value} {base : Heap}
abbrev sMir : Stmt := top 67
theorem scMir : FnScope ["_law_letters_here", "_law_is_twice", "_law_both", "_law_steps", "_law_letter", "_law_e", "_law_last"] ["_law_letters_here", "_law_is_twice"] (defScope sMir) := ⟨rfl, rfl, rfl, by decide +kernel, rfl, by decide +kernel, by decide +kernel⟩
def spMir (K : PySem.W.Frag) : Sp := fun vs H Q _ => ∃ (z : Str) (tw : Bool), vs = [.str z, .bl tw] ∧ z.length ≤ 100 ∧ ∀ a H', Ex H H' → Im K H' (.ref a) (mirProg z tw).d → Q (.ref a) H'
theorem kn_mir (B : Std mg) (S : Src K mg "_law_mirror" sMir ["_law_letters_here", "_law_is_twice"]) : Kn P w K mg base "_law_mirror" 1 ["_law_letters_here", "_law_is_twice"] (spMir K) := by
  refine S.kn scMir (fun vs H Q E h => ?_) (fun f cdv A outer s H vs Q E hr h => ?_)
  · obtain ⟨z, tw, rfl, _⟩ := h
    rfl
  obtain ⟨z, tw, rfl, hz, q⟩ := h
  refine ⟨_, (pss_cons (ps_set (i := 2) scMir.nd rfl (.inl rfl) ((pe_tup (pa_cons (pe_str) (pa_cons ((pe_tup (pa_cons (pe_str) pa_nil))) (pa_cons ((pe_tup (pa_cons (pe_str) pa_nil))) pa_nil)))))) (pss_cons (ps_set (i := 3) scMir.nd rfl (.inl rfl) (pe_lst pa_nil)) (pss_cons (ps_for PassesOwn.never rfl (pi_str (pv 0)) (pg_name (i := 4) scMir.nd rfl (.inl rfl)) (pss_cons (ps_set (i := 5) scMir.nd rfl (.inl rfl) ((pe_tup (pa_cons (pe_str) (pa_cons ((pe_tup (pa_cons (pe_str) (pa_cons (pe_str) pa_nil)))) (pa_cons ((pe_tup (pa_cons (pe_str) (pa_cons (pv 4) (pa_cons ((pe_tup (pa_cons (pe_str) (pa_cons (pe_str) pa_nil)))) pa_nil))))) pa_nil)))))) (pss_cons (ps_set (i := 5) scMir.nd rfl (.inl rfl) (pe_ifExp (pt_val (pv 1)) (pe_tup (pa_cons (pe_str) (pa_cons (pv 4) (pa_cons (pv 5) pa_nil)))) (pv 5))) (pss_one (ps_expr (pe_bm PySem.F.plainAttrs_list PySem.F.slot_list_append PySem.F.type_list_append mt_append (pv 3) (pa_cons ((pe_tup (pa_cons (pv 4) (pa_cons ((pe_tup (pa_cons (pe_str) (pa_cons (pe_str) (pa_cons (pv 2) (pa_cons ((pe_tup (pa_cons (pe_str) (pa_cons (pe_str) (pa_cons ((pe_tup (pa_cons (pe_str) pa_nil))) (pa_cons (pv 5) pa_nil)))))) pa_nil)))))) pa_nil)))) pa_nil))))))) (pss_cons (ps_set (i := 6) scMir.nd rfl (.inl rfl) ((pe_tup (pa_cons (pe_str) (pa_cons (pe_str) (pa_cons (pv 2) (pa_cons ((pe_tup (pa_cons (pe_str) (pa_cons ((pe_tup (pa_cons (pe_str) (pa_cons (pe_str) pa_nil)))) (pa_cons ((pe_tup (pa_cons (pe_str) pa_nil))) pa_nil))))) pa_nil))))))) (pss_one (ps_ret (pe_tup (pa_cons (pe_str) (pa_cons (pv 2) (pa_cons ((pe_tup (pa_cons (pe_str) (pa_cons (pe_str) (pa_cons ((pe_tup (pa_cons (pe_str) pa_nil))) (pa_cons ((pe_tup (pa_cons (pe_str) (pa_cons (pe_str) pa_nil)))) pa_nil)))))) (pa_cons (pe_callTy call_tuple_of rfl B.tuple PyProof.Rows.boot_tuple (pa_cons (pv 3) pa_nil)) (pa_cons (pv 6) pa_nil)))))))))))), ?_⟩
  have t1 : ∀ {σ H}, EvD K σ H (tTup (tCons (tC (.str "text")) tNil)) txtD := evd_tup (evd_cons (evd_str _) evd_nil)
  refine evd_seq (evd_tup (evd_cons (evd_str _) (evd_cons t1 (evd_cons t1 evd_nil)))  ) fun vb H1 e1 hb => ?_
  have hb : Im K H1 vb bothK.d := hb
  refine ⟨by decide, fun l hl => ?_⟩
  have e2 : Ex H1 (upd H1 l (.lst [])) := Ex.new hl
  have hl2 : (upd H1 l (.lst [])) l = some (.lst []) := upd_same
  have hlH : H l = none := Evl.fresh_back e1 hl
  have hb2 := hb.ex e2
  have e02 := e1.trans e2
  generalize upd H1 l (.lst []) = H2 at e2 hl2 hb2 e02
  refine ⟨_, rfl, z, rfl, ?_⟩
  refine for_it walk_str (fun i σ H' => ∃ (ys : List V) (o4 o5 : Option V), σ = [some (.str z), some (.bl tw), some vb, some (.ref l), o4, o5, none] ∧ Ex H H' ∧ Im K H' vb bothK.d ∧ H' l = some (.lst ys) ∧ ImA K H' ys (((signs z).take i).map fun c => stepD (c, mirTm c tw)))
    ⟨[], none, none, rfl, e02, hb2, hl2, .nil⟩ (fun _ _ _ _ _ => trivial) ?_ ?_
  · rintro i v σ H3 H3' hi ⟨ys, o4, o5, rfl, e3, hb3, hl3, hys⟩ ⟨rfl, c, hc, rfl⟩
    have hyl := hys.len
    rw [List.length_map, List.length_take, signs_len] at hyl
    have vc : ∀ {σ : L2.St} {H : Hp}, σ[4]? = some (some (.str ⟨#[c]⟩)) → EvD K σ H (tVar 4) (.str ⟨#[c]⟩) := fun h => evd_var h (.str _)
    refine evd_seq (evd_tup (evd_cons (evd_str _) (evd_cons (evd_tup (evd_cons (evd_str _) (evd_cons (evd_str _) evd_nil))  ) (evd_cons (evd_tup (evd_cons (evd_str _) (evd_cons (vc rfl) (evd_cons (evd_tup (evd_cons (evd_str _) (evd_cons (evd_str _) evd_nil))  ) evd_nil)))  ) evd_nil)))  ) fun ve H4 e4 he4 => ?_
    have he4 : Im K H4 ve (Tm.cl (.nm "f") (.pt ⟨#[c]⟩ (.nm "x"))).d := he4
    have hci := signs_at hc
    have tail : ∀ (vx : V) (H5 : Hp), Ex H4 H5 → Im K H5 vx (if tw = true then Tm.pt ⟨#[c]⟩ (.cl (.nm "f") (.pt ⟨#[c]⟩ (.nm "x"))) else .cl (.nm "f") (.pt ⟨#[c]⟩ (.nm "x"))).d →
        EvD K [some (.str z), some (.bl tw), some vb, some (.ref l), some (.str ⟨#[c]⟩), some vx, none] H5 (tTup (tCons (tVar 4) (tCons (tTup (tCons (tC (.str "fun")) (tCons (tC (.str "f")) (tCons (tVar 2) (tCons (tTup (tCons (tC (.str "fun")) (tCons (tC (.str "x")) (tCons (tTup (tCons (tC (.str "text")) tNil)) (tCons (tVar 5) tNil))))) tNil))))) tNil))) (stepD (⟨#[c]⟩, mirTm ⟨#[c]⟩ tw)) := fun vx H5 e5 hx5 =>
      evd_tup (evd_cons (vc rfl) (evd_cons (evd_tup (evd_cons (evd_str _) (evd_cons (evd_str _) (evd_cons (evd_var rfl (hb3.ex (e4.trans e5))) (evd_cons (evd_tup (evd_cons (evd_str _) (evd_cons (evd_str _) (evd_cons t1 (evd_cons (evd_var rfl hx5) evd_nil))))) evd_nil))))) evd_nil))
    have app : ∀ (vx : V) (H5 : Hp), Ex H4 H5 → Im K H5 vx (if tw = true then Tm.pt ⟨#[c]⟩ (.cl (.nm "f") (.pt ⟨#[c]⟩ (.nm "x"))) else .cl (.nm "f") (.pt ⟨#[c]⟩ (.nm "x"))).d → ∀ r H6, Ex H5 H6 → Im K H6 r (stepD (⟨#[c]⟩, mirTm ⟨#[c]⟩ tw)) →
        ∃ ys', H6 l = some (.lst ys) ∧ Ex H (upd H6 l (.lst (ys ++ [r]))) ∧ Im K (upd H6 l (.lst (ys ++ [r]))) vb bothK.d ∧ (upd H6 l (.lst (ys ++ [r]))) l = some (.lst ys') ∧ ImA K (upd H6 l (.lst (ys ++ [r]))) ys' (((signs z).take (i + 1)).map fun c => stepD (c, mirTm c tw)) := by
      intro vx H5 e5 _ r H6 e6 hr
      have e36 := (e4.trans e5).trans e6
      have hl6 := e36 _ _ hl3
      have k7 : Tk K H6 (upd H6 l (.lst (ys ++ [r]))) := Tk.upd (nt_lst hl6)
      refine ⟨ys ++ [r], hl6, (e3.trans e36).mut hlH, (hb3.ex e36).up k7, upd_same, ?_⟩
      rw [List.take_add_one, hci, List.map_append]
      exact ((hys.ex e36).up k7).snoc (hr.up k7)
    cases tw with
    | true =>
      refine ⟨_, rfl, _, rfl, iteT ?_⟩
      refine (evd_tup (evd_cons (evd_str _) (evd_cons (vc rfl) (evd_cons (evd_var rfl he4) evd_nil))) : EvD K _ H4 _ _) H4 (Ex.refl _) _ fun vx H5 e5 hx5 => ?_
      refine ⟨_, rfl, .inl ⟨rfl, _, SqL.of ((e4.trans e5) _ _ hl3)⟩, tail vx H5 e5 hx5 H5 (Ex.refl _) _ fun r H6 e6 hr6 => ?_⟩
      obtain ⟨ys', h1, h2, h3, h4, h5⟩ := app vx H5 e5 hx5 r H6 e6 hr6
      exact ⟨l, _, _, rfl, rfl, h1, small1000 (by omega), ys', _, _, rfl, h2, h3, h4, h5⟩
    | false =>
      refine ⟨_, rfl, _, rfl, iteF ⟨_, rfl, ?_⟩⟩
      refine ⟨_, rfl, .inl ⟨rfl, _, SqL.of (e4 _ _ hl3)⟩, tail ve H4 (Ex.refl _) he4 H4 (Ex.refl _) _ fun r H6 e6 hr6 => ?_⟩
      obtain ⟨ys', h1, h2, h3, h4, h5⟩ := app ve H4 (Ex.refl _) he4 r H6 e6 hr6
      exact ⟨l, _, _, rfl, rfl, h1, small1000 (by omega), ys', _, _, rfl, h2, h3, h4, h5⟩
  · rintro σ H3 ⟨ys, o4, o5, rfl, e3, hb3, hl3, hys⟩
    rw [List.take_of_length_le (by rw [signs_len]; exact Nat.le_refl _)] at hys
    refine evd_seq (evd_tup (evd_cons (evd_str _) (evd_cons (evd_str _) (evd_cons (evd_var rfl hb3) (evd_cons (evd_tup (evd_cons (evd_str _) (evd_cons (evd_tup (evd_cons (evd_str _) (evd_cons (evd_str _) evd_nil))) (evd_cons (evd_tup (evd_cons (evd_str _) evd_nil)) evd_nil)))) evd_nil))))) fun vl H4 e4 hl4 => ?_
    have hl4 : Im K H4 vl (mirProg z tw).last.d := hl4
    refine ⟨_, rfl, ?_⟩
    refine (evd_tup (evd_cons (evd_str _) (evd_cons (evd_str _) (evd_cons t1 (evd_cons (evd_tup (evd_cons (evd_str _) (evd_cons (evd_str _) evd_nil))) evd_nil)))) : EvD K _ H4 _ _) H4 (Ex.refl _) _ fun vi H5 e5 hi5 => ?_
    have hi5 : Im K H5 vi (mirProg z tw).init.d := hi5
    have e35 := e4.trans e5
    refine ⟨_, rfl, l, _, rfl, .inl ⟨SqL.of (e35 _ _ hl3), fun t ht => ?_⟩⟩
    have e6 : Ex H5 (upd H5 t (.tup ys)) := Ex.new ht
    have ht6 : Im K (upd H5 t (.tup ys)) (.ref t) (.tuple ((mirProg z tw).steps.map stepD)) := by
      have hm : (mirProg z tw).steps.map stepD = (signs z).map fun c => stepD (c, mirTm c tw) := by
        show ((signs z).map fun c => (c, mirTm c tw)).map stepD = _
        rw [List.map_map]; rfl
      rw [hm]
      exact .tup (SqT.of upd_same) (hys.ex (e35.trans e6))
    generalize upd H5 t (.tup ys) = H6 at e6 ht6
    refine ⟨_, rfl, by show 5 ≤ sizeLine; decide, fun g hg => ?_⟩
    have e7 : Ex H6 (upd H6 g (.tup [.str "program", vb, vi, .ref t, vl])) := Ex.new hg
    exact q g _ (((e3.trans e35).trans e6).trans e7) (.tup (SqT.of upd_same) (.cons (.str _) (.cons (hb3.ex ((e35.trans e6).trans e7)) (.cons (hi5.ex (e6.trans e7)) (.cons (ht6.ex e7) (.cons (hl4.ex ((e5.trans e6).trans e7)) .nil))))))
end
end Oh

set_option maxHeartbeats 4000000
/-! Oh, part 31: the law's programs, further -/
namespace Oh
open PySem PySem.Spec PyProof.Rows L2
open Evl (Ex)
section
variable {K : PySem.W.Frag} {σ : L2.St} {H : Hp}
theorem evd_asg {te : TE} {d : PyData} {i : Nat} {D : Ends} (h : EvD K σ H te d) (q : ∀ r H1, Ex H H1 → Im K H1 r d → D.nx (σ.set i (some r)) H1) : tAsg te (gName i) D σ H := h H (Ex.refl H) (fun r H1 => D.nx (σ.set i (some r)) H1) q
theorem evd_ret {te : TE} {d : PyData} {D : Ends} (h : EvD K σ H te d) (q : ∀ r H1, Ex H H1 → Im K H1 r d → D.rt r H1) : tRet te D σ H := h H (Ex.refl H) (fun r H1 => D.rt r H1) q
theorem evd_tupOf {i : Nat} {l : Addr} {vs : List V} {ds : List PyData} (h : σ[i]? = some (some (.ref l))) (hl : H l = some (.lst vs)) (hv : ImA K H vs ds) :
    EvD K σ H (tCB (fun xs H Q => ∃ p ys, xs = [.ref p] ∧ ((SqL K H p ys ∧ ∀ l, H l = none → Q (.ref l) (upd H l (.tup ys))) ∨ (SqT K H p ys ∧ Q (.ref p) H))) (tCons (tVar i) tNil)) (.tuple ds) := fun H1 e Q q =>
  ⟨_, h, l, vs, rfl, .inl ⟨SqL.of (e _ _ hl), fun g hg => q _ _ (Ex.new hg) (.tup (SqT.of upd_same) (hv.ex (e.trans (Ex.new hg))))⟩⟩
end
theorem rising_le : ∀ (l : List Str) (p : Str), risingS p l = true → (∀ b ∈ l, p.cps.toList ≤ b.cps.toList) ∧ l.Pairwise fun a b => a.cps.toList ≤ b.cps.toList
  | [], p, _ => ⟨(fun b h => nomatch h), .nil⟩
  | x :: r, p, h => by
    have h' := Bool.and_eq_true_iff.mp (show (!ltCps x.cps.toList p.cps.toList && risingS x r) = true from h)
    rw [ltCps_eq, Bool.not_eq_true', decide_eq_false_iff_not] at h'
    have hpx : p.cps.toList ≤ x.cps.toList := h'.1
    obtain ⟨h1, h2⟩ := rising_le r x h'.2
    refine ⟨fun b hb => ?_, .cons h1 h2⟩
    rcases List.mem_cons.mp hb with rfl | hb
    · exact hpx
    · exact List.le_trans hpx (h1 b hb)
theorem sorted_pw {l : List Str} (h : sortedS l = true) : l.Pairwise fun a b => a.cps.toList ≤ b.cps.toList := by
  cases l with
  | nil => exact .nil
  | cons x r =>
    obtain ⟨h1, h2⟩ := rising_le r x h
    exact .cons h1 h2
theorem asc_pw : ∀ {l : List Str}, ascB l = true → l.Pairwise fun a b => a.cps.toList ≤ b.cps.toList := by
  have key : ∀ (l : List Str) (a : Str), ascB (a :: l) = true → ∀ b ∈ l, a.cps.toList < b.cps.toList := by
    intro l
    induction l with
    | nil => intro a _ b hb; cases hb
    | cons c r ih =>
      intro a h b hb
      have h' := Bool.and_eq_true_iff.mp (show (decide (a.cps.toList < c.cps.toList) && ascB (c :: r)) = true from h)
      have h1 := of_decide_eq_true h'.1
      rcases List.mem_cons.mp hb with rfl | hb
      · exact h1
      · exact List.lt_trans h1 (ih c h'.2 b hb)
  intro l
  induction l with
  | nil => intro _; exact .nil
  | cons a r ih =>
    intro h
    refine .cons (fun b hb => List.le_of_lt (key r a h b hb)) (ih ?_)
    cases r with
    | nil => rfl
    | cons b r => exact (Bool.and_eq_true_iff.mp (show (decide (a.cps.toList < b.cps.toList) && ascB (b :: r)) = true from h)).2
theorem sorted_asc {ys l : List Str} (p : ys.Perm l) (h : sortedS ys = true) (a : ascB l = true) : ys = l :=
  List.Perm.eq_of_pairwise (le := fun a b : Str => a.cps.toList ≤ b.cps.toList) (fun a b _ _ h1 h2 => by
    have := List.le_antisymm h1 h2
    cases a with | mk a => cases b with | mk b =>
    have e : a = b := Array.toList_inj.mp this
    rw [e]) (sorted_pw h) (asc_pw a) p
theorem puts_fold (w : Str) (n : Nat) : ((signs (revStr w)).take n).foldl (fun (e : Tm) c => Tm.pt c e) (.nm "x") = ((signs w).drop ((signs w).length - n)).foldr Tm.pt (.nm "x") := by
  have e : signs (revStr w) = (signs w).reverse := by
    unfold signs
    rw [rev_list, List.map_reverse]
  rw [e, List.take_reverse, List.foldl_reverse]
section
variable {P : Program} {w : World} {K : PySem.W.Frag} {mg : Str → Option Value} {base : Heap}
abbrev sLtr : Stmt := top 68
theorem scLtr : FnScope ["_law_words", "_law_steps", "_law_letter", "_law_e", "_law_sign"] ["_law_words"] (defScope sLtr) := ⟨rfl, rfl, rfl, by decide +kernel, rfl, by decide +kernel, by decide +kernel⟩
def spLtr (K : PySem.W.Frag) : Sp := fun vs H Q _ => ∃ (d : Addr) (kvs : List (Key × V)) (L : List (Str × Str)), vs = [.ref d] ∧ H d = some (.dK kvs) ∧ DRel K H (Sum.inr : Str → Key) PyData.str kvs L ∧ ascB (L.map (·.1)) = true ∧ L.length ≤ 20 ∧ (∀ p ∈ L, p.2.length ≤ 100) ∧ ∀ a H', Ex H H' → Im K H' (.ref a) (ltrProg L).d → Q (.ref a) H'
theorem kn_ltr (B : Std mg) (S : Src K mg "_law_lettered" sLtr ["_law_words"]) : Kn P w K mg base "_law_lettered" 1 ["_law_words"] (spLtr K) := by
  refine S.kn scLtr (fun vs H Q E h => ?_) (fun f cdv A outer s H vs Q E hr h => ?_)
  · obtain ⟨d, kvs, L, rfl, _⟩ := h
    rfl
  obtain ⟨d, kvs, L, rfl, hd, hrel, hasc, hln, hwl, q⟩ := h
  have hu := hu_of hr
  refine ⟨_, (pss_cons (ps_set (i := 1) scLtr.nd rfl (.inl rfl) (pe_lst pa_nil)) (pss_cons (ps_for PassesOwn.never rfl (pi_list (pe_callB (call_sortedD (by rfl)) rfl B.sorted (by decide +kernel) (pa_cons (pv 0) pa_nil))) (pg_name (i := 2) scLtr.nd rfl (.inl rfl)) (pss_cons (ps_set (i := 3) scLtr.nd rfl (.inl rfl) ((pe_tup (pa_cons (pe_str) (pa_cons (pe_str) pa_nil))))) (pss_cons (ps_for PassesOwn.never rfl (pi_str (pe_revS (pe_dget hu (pv 0) (pv 2) (fun _ _ => rfl)))) (pg_name (i := 4) scLtr.nd rfl (.inl rfl)) (pss_one (ps_set (i := 3) scLtr.nd rfl (.inl rfl) ((pe_tup (pa_cons (pe_str) (pa_cons (pv 4) (pa_cons (pv 3) pa_nil)))))))) (pss_one (ps_expr (pe_bm PySem.F.plainAttrs_list PySem.F.slot_list_append PySem.F.type_list_append mt_append (pv 1) (pa_cons ((pe_tup (pa_cons (pv 2) (pa_cons ((pe_tup (pa_cons (pe_str) (pa_cons (pe_str) (pa_cons ((pe_tup (pa_cons (pe_str) pa_nil))) (pa_cons (pv 3) pa_nil)))))) pa_nil)))) pa_nil))))))) (pss_one (ps_ret (pe_tup (pa_cons (pe_str) (pa_cons ((pe_tup (pa_cons (pe_str) pa_nil))) (pa_cons ((pe_tup (pa_cons (pe_str) pa_nil))) (pa_cons (pe_callTy call_tuple_of rfl B.tuple PyProof.Rows.boot_tuple (pa_cons (pv 1) pa_nil)) (pa_cons ((pe_tup (pa_cons (pe_str) (pa_cons (pe_str) (pa_cons ((pe_tup (pa_cons (pe_str) pa_nil))) (pa_cons ((pe_tup (pa_cons (pe_str) (pa_cons (pe_str) pa_nil)))) pa_nil)))))) pa_nil)))))))))), ?_⟩
  have t1 : ∀ {σ H}, EvD K σ H (tTup (tCons (tC (.str "text")) tNil)) txtD := evd_tup (evd_cons (evd_str _) evd_nil)
  have nx : ∀ {σ H}, EvD K σ H (tTup (tCons (tC (.str "name")) (tCons (tC (.str "x")) tNil))) (Tm.nm "x").d := evd_tup (evd_cons (evd_str _) (evd_cons (evd_str _) evd_nil))
  refine ⟨by decide, fun l hl => ?_⟩
  have e1 : Ex H (upd H l (.lst [])) := Ex.new hl
  have hl1 : (upd H l (.lst [])) l = some (.lst []) := upd_same
  generalize upd H l (.lst []) = H1 at e1 hl1
  refine ⟨_, rfl, d, kvs, L.map (·.1), rfl, .inl (e1 _ _ hd), by rw [hrel.keys, List.map_map]; rfl, by rw [List.length_map]; omega, fun ys p hperm hsort hp => ?_⟩
  obtain rfl := sorted_asc hperm hsort hasc
  have e2 : Ex H1 (upd H1 p (.lst ((L.map (·.1)).map V.str))) := Ex.new hp
  have hp2 : (upd H1 p (.lst ((L.map (·.1)).map V.str))) p = some (.lst ((L.map (·.1)).map V.str)) := upd_same
  have hl2 := e2 _ _ hl1
  generalize upd H1 p (.lst ((L.map (·.1)).map V.str)) = H2 at e2 hp2 hl2
  have hlp : l ≠ p := ne_of_none hl1 hp
  refine ⟨p, rfl, ⟨_, SqL.of hp2⟩, ?_⟩
  refine for_it (walk_list (xs := (L.map (·.1)).map V.str)) (fun i σ H' => ∃ (vs : List V) (o2 o3 o4 : Option V), σ = [some (.ref d), some (.ref l), o2, o3, o4] ∧ Ex H H' ∧ H' p = some (.lst ((L.map (·.1)).map V.str)) ∧ H' l = some (.lst vs) ∧ ImA K H' vs ((L.take i).map fun q => stepD (q.1, .fn "x" .tx (puts q.2))))
    ⟨[], none, none, none, rfl, e1.trans e2, hp2, hl2, .nil⟩ (fun i σ H' _ z => ?_) ?_ ?_
  · obtain ⟨_, _, _, _, _, _, z, _⟩ := z
    exact SqL.of z
  · rintro i v σ H3 H3' hi ⟨vs, o2, o3, o4, rfl, e3, hp3, hl3, hvs⟩ ⟨rfl, hv⟩
    rw [List.getElem?_map, List.getElem?_map] at hv
    cases en : L[i]? with
    | none => rw [en] at hv; cases hv
    | some q1 =>
    rw [en] at hv
    obtain rfl := Option.some.inj hv
    obtain ⟨c, w1⟩ := q1
    have hmem := List.mem_of_getElem? en
    have hw1 := hwl _ hmem
    have hvl := hvs.len
    rw [List.length_map, List.length_take] at hvl
    refine evd_seq nx fun ve H4 e4 he4 => ?_
    have e04 := e3.trans e4
    have ndL : (L.map (·.1)).Nodup := asc_nodup hasc
    obtain ⟨vw, hvw, hiw⟩ := (hrel.up (tk e04)).get inr_inj (lookA_of ndL hmem)
    obtain rfl := hiw.s
    refine ⟨_, rfl, _, rfl, d, _, rfl, by rw [← hvw]; exact DGet.k (k := Sum.inr c) (e04 _ _ hd), w1, rfl, sl (by have : (w1.length ≤ 100) := hw1; omega), revStr w1, rfl, ?_⟩
    refine for_it walk_str (fun j σ H' => ∃ (vx : V) (o4 : Option V), σ = [some (.ref d), some (.ref l), some (.str c), some vx, o4] ∧ Ex H4 H' ∧ Im K H' vx (((signs (revStr w1)).take j).foldl (fun (e : Tm) c => Tm.pt c e) (.nm "x")).d)
      ⟨ve, o4, rfl, Ex.refl _, he4⟩ (fun _ _ _ _ _ => trivial) ?_ ?_
    · rintro j v σ H5 H5' hj ⟨vx, o4, rfl, e5, hx5⟩ ⟨rfl, c1, hc1, rfl⟩
      refine evd_asg (evd_tup (evd_cons (evd_str _) (evd_cons (evd_var rfl (.str ⟨#[c1]⟩)) (evd_cons (evd_var rfl hx5) evd_nil)))) fun vy H6 e6 hy6 => ?_
      refine ⟨vy, _, rfl, e5.trans e6, ?_⟩
      rw [List.take_add_one, signs_at hc1, List.foldl_append]
      exact hy6
    · rintro σ H5 ⟨vx, o4, rfl, e5, hx5⟩
      have hx5 : Im K H5 vx (puts w1).d := by
        have hn : (revStr w1).cps.size = (signs w1).length := by rw [signs_len]; exact rev_len w1
        rw [hn, puts_fold, Nat.sub_self, List.drop_zero] at hx5
        exact hx5
      have e45 := e4.trans e5
      refine ⟨_, rfl, .inl ⟨rfl, _, SqL.of (e45 _ _ hl3)⟩, ?_⟩
      refine (evd_tup (evd_cons (evd_var rfl (.str c)) (evd_cons (evd_tup (evd_cons (evd_str _) (evd_cons (evd_str _) (evd_cons t1 (evd_cons (evd_var rfl hx5) evd_nil))))) evd_nil)) : EvD K [some (.ref d), some (.ref l), some (.str c), some vx, o4] H5 _ _) H5 (Ex.refl _) _ fun r H6 e6 hr6 => ?_
      have hr6 : Im K H6 r (stepD (c, .fn "x" .tx (puts w1))) := hr6
      have e46 := e45.trans e6
      have hl6 := e46 _ _ hl3
      have k7 : Tk K H6 (upd H6 l (.lst (vs ++ [r]))) := Tk.upd (nt_lst hl6)
      refine ⟨l, _, _, rfl, rfl, hl6, small1000 (by omega), vs ++ [r], _, _, _, rfl, (e3.trans e46).mut hl, by rw [upd_ne hlp.symm]; exact e46 _ _ hp3, upd_same, ?_⟩
      rw [List.take_add_one, en, List.map_append]
      exact ((hvs.ex e46).up k7).snoc (hr6.up k7)
  · rintro σ H3 ⟨vs, o2, o3, o4, rfl, e3, hp3, hl3, hvs⟩
    rw [List.length_map, List.length_map, List.take_length] at hvs
    have hm : (ltrProg L).steps.map stepD = L.map fun q => stepD (q.1, .fn "x" .tx (puts q.2)) := by
      show (L.map fun p => (p.1, Tm.fn "x" .tx (puts p.2))).map stepD = _
      rw [List.map_map]; rfl
    rw [← hm] at hvs
    have fin := evd_ret (K := K) (σ := [some (.ref d), some (.ref l), o2, o3, o4]) (H := H3) (D := { nx := fun x H' => Q V.non H', rt := Q }) (evd_tup (evd_cons (evd_str _) (evd_cons t1 (evd_cons (evd_tup (evd_cons (evd_str _) evd_nil)) (evd_cons (evd_tupOf (i := 1) rfl hl3 hvs) (evd_cons (evd_tup (evd_cons (evd_str _) (evd_cons (evd_str _) (evd_cons t1 (evd_cons nx evd_nil))))) evd_nil)))))) fun r H4 e4 hr4 => (by
      obtain ⟨g, xs, rfl, _, _⟩ := Im.t hr4
      exact q g H4 (e3.trans e4) hr4)
    exact fin
end
end Oh

set_option maxHeartbeats 4000000
/-! Oh, part 32: the law's programs, the last -/
namespace Oh
open PySem PySem.Spec PyProof.Rows L2
open Evl (Ex)
section
variable {P : Program} {w : World} {K : PySem.W.Frag} {mg : Str → Option Value} {base : Heap}
abbrev sTai : Stmt := top 69
theorem scTai : FnScope ["_law_letters_here", "_law_stop", "_law_steps", "_law_letter", "_law_e"] ["_law_letters_here", "_law_stop"] (defScope sTai) := ⟨rfl, rfl, rfl, by decide +kernel, rfl, by decide +kernel, by decide +kernel⟩
def spTai (K : PySem.W.Frag) : Sp := fun vs H Q _ => ∃ (z stop : Str), vs = [.str z, .str stop] ∧ z.length ≤ 100 ∧ ∀ a H', Ex H H' → Im K H' (.ref a) (taiProg z stop).d → Q (.ref a) H'
theorem kn_tai (B : Std mg) (S : Src K mg "_law_tail" sTai ["_law_letters_here", "_law_stop"]) : Kn P w K mg base "_law_tail" 1 ["_law_letters_here", "_law_stop"] (spTai K) := by
  refine S.kn scTai (fun vs H Q E h => ?_) (fun f cdv A outer s H vs Q E hr h => ?_)
  · obtain ⟨z, stop, rfl, _⟩ := h
    rfl
  obtain ⟨z, stop, rfl, hz, q⟩ := h
  refine ⟨_, (pss_cons (ps_set (i := 2) scTai.nd rfl (.inl rfl) (pe_lst pa_nil)) (pss_cons (ps_for PassesOwn.never rfl (pi_str (pv 0)) (pg_name (i := 3) scTai.nd rfl (.inl rfl)) (pss_cons (ps_set (i := 4) scTai.nd rfl (.inl rfl) (pe_ifExp (pt_cmpR op_eq (pv 3) (pv 1) (nomark _)) (pe_tup (pa_cons (pe_str) pa_nil)) (pe_tup (pa_cons (pe_str) (pa_cons (pv 3) (pa_cons ((pe_tup (pa_cons (pe_str) (pa_cons (pe_str) pa_nil)))) pa_nil)))))) (pss_one (ps_expr (pe_bm PySem.F.plainAttrs_list PySem.F.slot_list_append PySem.F.type_list_append mt_append (pv 2) (pa_cons ((pe_tup (pa_cons (pv 3) (pa_cons ((pe_tup (pa_cons (pe_str) (pa_cons (pe_str) (pa_cons ((pe_tup (pa_cons (pe_str) pa_nil))) (pa_cons (pv 4) pa_nil)))))) pa_nil)))) pa_nil)))))) (pss_one (ps_ret (pe_tup (pa_cons (pe_str) (pa_cons ((pe_tup (pa_cons (pe_str) pa_nil))) (pa_cons ((pe_tup (pa_cons (pe_str) pa_nil))) (pa_cons (pe_callTy call_tuple_of rfl B.tuple PyProof.Rows.boot_tuple (pa_cons (pv 2) pa_nil)) (pa_cons ((pe_tup (pa_cons (pe_str) (pa_cons (pe_str) (pa_cons ((pe_tup (pa_cons (pe_str) pa_nil))) (pa_cons ((pe_tup (pa_cons (pe_str) (pa_cons (pe_str) pa_nil)))) pa_nil)))))) pa_nil)))))))))), ?_⟩
  have t1 : ∀ {σ H}, EvD K σ H (tTup (tCons (tC (.str "text")) tNil)) txtD := evd_tup (evd_cons (evd_str _) evd_nil)
  have nx : ∀ {σ H}, EvD K σ H (tTup (tCons (tC (.str "name")) (tCons (tC (.str "x")) tNil))) (Tm.nm "x").d := evd_tup (evd_cons (evd_str _) (evd_cons (evd_str _) evd_nil))
  refine ⟨by decide, fun l hl => ?_⟩
  have e1 : Ex H (upd H l (.lst [])) := Ex.new hl
  have hl1 : (upd H l (.lst [])) l = some (.lst []) := upd_same
  generalize upd H l (.lst []) = H1 at e1 hl1
  refine ⟨_, rfl, z, rfl, ?_⟩
  refine for_it walk_str (fun i σ H' => ∃ (vs : List V) (o3 o4 : Option V), σ = [some (.str z), some (.str stop), some (.ref l), o3, o4] ∧ Ex H H' ∧ H' l = some (.lst vs) ∧ ImA K H' vs (((signs z).take i).map fun c => stepD (c, taiTm c stop)))
    ⟨[], none, none, rfl, e1, hl1, .nil⟩ (fun _ _ _ _ _ => trivial) ?_ ?_
  · rintro i v σ H3 H3' hi ⟨vs, o3, o4, rfl, e3, hl3, hvs⟩ ⟨rfl, c, hc, rfl⟩
    have hvl := hvs.len
    rw [List.length_map, List.length_take, signs_len] at hvl
    have app : ∀ (vx : V) (H5 : Hp), Ex H3' H5 → Im K H5 vx (if (⟨#[c]⟩ : Str) = stop then Tm.en else .pt ⟨#[c]⟩ (.nm "x")).d → ∀ r H6, Ex H5 H6 → Im K H6 r (stepD (⟨#[c]⟩, taiTm ⟨#[c]⟩ stop)) →
        ∃ ys', H6 l = some (.lst vs) ∧ Ex H (upd H6 l (.lst (vs ++ [r]))) ∧ (upd H6 l (.lst (vs ++ [r]))) l = some (.lst ys') ∧ ImA K (upd H6 l (.lst (vs ++ [r]))) ys' (((signs z).take (i + 1)).map fun c => stepD (c, taiTm c stop)) := by
      intro vx H5 e5 _ r H6 e6 hr
      have e36 := e5.trans e6
      have hl6 := e36 _ _ hl3
      have k7 : Tk K H6 (upd H6 l (.lst (vs ++ [r]))) := Tk.upd (nt_lst hl6)
      refine ⟨vs ++ [r], hl6, (e3.trans e36).mut hl, upd_same, ?_⟩
      rw [List.take_add_one, signs_at hc, List.map_append]
      exact ((hvs.ex e36).up k7).snoc (hr.up k7)
    have tail : ∀ (vx : V) (H5 : Hp), Im K H5 vx (if (⟨#[c]⟩ : Str) = stop then Tm.en else .pt ⟨#[c]⟩ (.nm "x")).d →
        EvD K [some (.str z), some (.str stop), some (.ref l), some (.str ⟨#[c]⟩), some vx] H5 (tTup (tCons (tVar 3) (tCons (tTup (tCons (tC (.str "fun")) (tCons (tC (.str "x")) (tCons (tTup (tCons (tC (.str "text")) tNil)) (tCons (tVar 4) tNil))))) tNil))) (stepD (⟨#[c]⟩, taiTm ⟨#[c]⟩ stop)) := fun vx H5 hx5 =>
      evd_tup (evd_cons (evd_var rfl (.str _)) (evd_cons (evd_tup (evd_cons (evd_str _) (evd_cons (evd_str _) (evd_cons t1 (evd_cons (evd_var rfl hx5) evd_nil))))) evd_nil))
    refine ⟨_, rfl, _, rfl, rfl, _, rfl, ?_⟩
    rw [dec_str]
    by_cases hs : (⟨#[c]⟩ : Str) = stop
    · refine ifT hs ⟨by decide, fun g hg => ?_⟩
      have e4 : Ex H3' (upd H3' g (.tup [.str "end"])) := Ex.new hg
      have hx4 : Im K (upd H3' g (.tup [.str "end"])) (.ref g) (if (⟨#[c]⟩ : Str) = stop then Tm.en else .pt ⟨#[c]⟩ (.nm "x")).d := by
        rw [if_pos hs]
        exact Im.mk1 upd_same (.str _)
      generalize upd H3' g (.tup [.str "end"]) = H5 at e4 hx4
      refine ⟨_, rfl, .inl ⟨rfl, _, SqL.of (e4 _ _ hl3)⟩, tail _ H5 hx4 H5 (Ex.refl _) _ fun r H6 e6 hr6 => ?_⟩
      obtain ⟨ys', h1, h2, h4, h5⟩ := app _ H5 e4 hx4 r H6 e6 hr6
      exact ⟨l, _, _, rfl, rfl, h1, small1000 (by omega), ys', _, _, rfl, h2, h4, h5⟩
    · refine ifF hs ?_
      have hev : EvD K [some (.str z), some (.str stop), some (.ref l), some (.str ⟨#[c]⟩), o4] H3' (tTup (tCons (tC (.str "put")) (tCons (tVar 3) (tCons (tTup (tCons (tC (.str "name")) (tCons (tC (.str "x")) tNil))) tNil)))) (Tm.pt ⟨#[c]⟩ (.nm "x")).d :=
        evd_tup (evd_cons (evd_str _) (evd_cons (evd_var rfl (.str _)) (evd_cons nx evd_nil)))
      refine hev H3' (Ex.refl _) _ fun vx H5 e4 hx4 => ?_
      have hx4 : Im K H5 vx (if (⟨#[c]⟩ : Str) = stop then Tm.en else .pt ⟨#[c]⟩ (.nm "x")).d := by
        rw [if_neg hs]
        exact hx4
      refine ⟨_, rfl, .inl ⟨rfl, _, SqL.of (e4 _ _ hl3)⟩, tail _ H5 hx4 H5 (Ex.refl _) _ fun r H6 e6 hr6 => ?_⟩
      obtain ⟨ys', h1, h2, h4, h5⟩ := app _ H5 e4 hx4 r H6 e6 hr6
      exact ⟨l, _, _, rfl, rfl, h1, small1000 (by omega), ys', _, _, rfl, h2, h4, h5⟩
  · rintro σ H3 ⟨vs, o3, o4, rfl, e3, hl3, hvs⟩
    rw [List.take_of_length_le (by rw [signs_len]; exact Nat.le_refl _)] at hvs
    have hm : (taiProg z stop).steps.map stepD = (signs z).map fun c => stepD (c, taiTm c stop) := by
      show ((signs z).map fun c => (c, taiTm c stop)).map stepD = _
      rw [List.map_map]; rfl
    rw [← hm] at hvs
    have fin := evd_ret (K := K) (σ := [some (.str z), some (.str stop), some (.ref l), o3, o4]) (H := H3) (D := { nx := fun x H' => Q V.non H', rt := Q }) (evd_tup (evd_cons (evd_str "program") (evd_cons t1 (evd_cons (evd_tup (evd_cons (evd_str "end") evd_nil)) (evd_cons (evd_tupOf (i := 2) rfl hl3 hvs) (evd_cons (evd_tup (evd_cons (evd_str "fun") (evd_cons (evd_str "x") (evd_cons t1 (evd_cons nx evd_nil))))) evd_nil)))))) fun r H4 e4 hr4 => (by
      obtain ⟨g, xs, rfl, _, _⟩ := Im.t hr4
      exact q g H4 (e3.trans e4) hr4)
    exact fin
end
end Oh

set_option maxHeartbeats 4000000
/-! Oh, part 33: the plain law: what the walks write -/
namespace Oh
open PySem PySem.Spec
abbrev five : List Str := ["a", "b", "c", "d", "z"]
abbrev alphabets : List Str := ["a", "ab", "abc", "bz", "abcd"]
def wordsOf (c : Str) : List Str := ["", c, dblStr c, "xy", "a"]
theorem mir_facts : ∀ c ∈ five, ∀ tw : Bool, (mirTm c tw).has (.to bothK bothK) = true ∧ (mirTm c tw).dep ≤ 20 ∧ (mirTm c tw).table = some ([(3, if tw = true then c else "", some 1), (0, c, some 2)] : Tab) := by decide +kernel
theorem mir_init : (Tm.fn "x" .tx (.nm "x")).has bothK = true ∧ (Tm.fn "x" .tx (.nm "x")).table = some ([(1, "", some 0)] : Tab) := by decide +kernel
theorem mir_last : (Tm.fn "f" bothK (.cl (.nm "f") .en)).has (.to bothK .tx) = true ∧ (Tm.fn "f" bothK (.cl (.nm "f") .en)).table = some ([(2, "", some 1), (0, "", none)] : Tab) := by decide +kernel
theorem en_facts : Tm.en.has .tx = true ∧ Tm.en.table = some ([(0, "", none)] : Tab) := by decide +kernel
theorem ltr_all : (five.all fun c => (wordsOf c).all fun w => (Tm.fn "x" .tx (puts w)).has (.to .tx .tx) && decide ((Tm.fn "x" .tx (puts w)).dep ≤ 20) && decide ((Tm.fn "x" .tx (puts w)).table = some ([(1, w, some 0)] : Tab)) && decide (w.length ≤ 2)) = true := by decide +kernel
theorem ltr_facts {c w : Str} (hc : c ∈ five) (hw : w ∈ wordsOf c) : (Tm.fn "x" .tx (puts w)).has (.to .tx .tx) = true ∧ (Tm.fn "x" .tx (puts w)).dep ≤ 20 ∧ (Tm.fn "x" .tx (puts w)).table = some ([(1, w, some 0)] : Tab) ∧ w.length ≤ 2 := by
  have h := List.all_eq_true.mp (List.all_eq_true.mp ltr_all c hc) w hw
  simp only [Bool.and_eq_true, decide_eq_true_eq] at h
  exact ⟨h.1.1.1, h.1.1.2, h.1.2, h.2⟩
theorem tai_facts : ∀ c ∈ five, ∀ s ∈ five, (taiTm c s).has (.to .tx .tx) = true ∧ (taiTm c s).dep ≤ 20 ∧ (taiTm c s).table = some ([(1, (if c = s then "" else c : Str), if c = s then none else some 0)] : Tab) := by decide +kernel
theorem alph_facts : ∀ Z ∈ alphabets, (1 ≤ (signs Z).length ∧ (signs Z).length ≤ 4) ∧ ((signs Z).all fun c => isLetter c && decide (c ∈ five)) = true ∧ ascB (signs Z) = true ∧ isText Z = true ∧ Z.length ≤ 4 := by decide +kernel
/-! ### lookups in a head -/
theorem ways_first (h : Head) : lookA h.ways "first" = some h.last := by
  unfold Head.ways
  rw [lookA_put, if_neg (by decide +kernel), lookA_put, if_pos rfl]
theorem ways_last (h : Head) : lookA h.ways "last" = some h.init := by
  unfold Head.ways
  rw [lookA_put, if_pos rfl]
theorem ways_step (h : Head) {c : Str} (hc : c.length = 1) : lookA h.ways c = lookA h.steps c := by
  have h1 : c ≠ "last" := fun z => by rw [z] at hc; revert hc; decide +kernel
  have h2 : c ≠ "first" := fun z => by rw [z] at hc; revert hc; decide +kernel
  unfold Head.ways
  rw [lookA_put, if_neg h1, lookA_put, if_neg h2]
theorem look_map {α β : Type} [DecidableEq α] (g : α → β) {c : α} : ∀ {l : List α}, c ∈ l → lookA (l.map fun a => (a, g a)) c = some (g c)
  | [], h => nomatch h
  | a :: r, h => by
    rw [List.map_cons, lookA_cons]
    by_cases e : a = c
    · rw [if_pos e, e]
    · rw [if_neg e]
      exact look_map g ((List.mem_cons.mp h).resolve_left fun z => e z.symm)
theorem look_map2 {α β γ : Type} [DecidableEq α] (g : α → β → γ) {c : α} {b : β} : ∀ {l : List (α × β)}, lookA l c = some b → lookA (l.map fun p => (p.1, g p.1 p.2)) c = some (g c b)
  | [], h => nomatch h
  | p :: r, h => by
    rw [lookA_cons] at h
    rw [List.map_cons, lookA_cons]
    by_cases e : p.1 = c
    · rw [if_pos e] at h ⊢
      rw [← Option.some.inj h, e]
    · rw [if_neg e] at h ⊢
      exact look_map2 g h
def sgn (T : Str) (i : Nat) : Str := (signs T).getD i ""
theorem sgn_at {T : Str} {i : Nat} (h : i < T.length) : (signs T)[i]? = some (sgn T i) := by
  have h' : i < (signs T).length := by rw [signs_len]; exact h
  unfold sgn
  rw [List.getD_eq_getElem?_getD, List.getElem?_eq_getElem h']; rfl
theorem name_at {T : Str} {i : Nat} {c : Str} (h : (signs T)[i]? = some c) : nameAt T (i + 1) = c ∧ i < T.length ∧ c.length = 1 := by
  have hl : i < T.length := by
    have := (List.getElem?_eq_some_iff.mp h).1
    rw [signs_len] at this
    exact this
  unfold signs at h
  rw [List.getElem?_map] at h
  cases e : T.cps.toList[i]? with
  | none => rw [e] at h; cases h
  | some k =>
    rw [e] at h
    obtain rfl := Option.some.inj h
    refine ⟨?_, hl, rfl⟩
    unfold nameAt
    rw [if_neg (by omega), if_neg (by omega)]
    show (⟨#[T.cps.toList.getD (i + 1 - 1) 0]⟩ : Str) = ⟨#[k]⟩
    rw [Nat.add_sub_cancel, List.getD_eq_getElem?_getD, e]; rfl
theorem marks_nil (n : Nat) : marks "" n = [] := rfl
theorem marks_one {T : Str} {i : Nat} {c : Str} (h : (signs T)[i]? = some c) (n : Nat) : marks c n = [(c, (n : Int))] := by
  unfold signs at h
  rw [List.getElem?_map] at h
  cases e : T.cps.toList[i]? with
  | none => rw [e] at h; cases h
  | some k =>
    rw [e] at h
    obtain rfl := Option.some.inj h
    rfl
theorem marks_char (w : Str) (n : Nat) : ∀ q ∈ marks w n, q.1.length = 1 := fun q h => by
  unfold marks at h
  obtain ⟨k, _, rfl⟩ := List.mem_map.mp h
  rfl
theorem joinStr_ext {a b : List Str} (h : (a.flatMap fun w => w.cps.toList) = b.flatMap fun w => w.cps.toList) : joinStr a = joinStr b := by
  unfold joinStr
  rw [h]
theorem chars_signs (z : Str) : ((signs z).flatMap fun w => w.cps.toList) = z.cps.toList := by
  unfold signs
  rw [List.flatMap_map]
  induction z.cps.toList with
  | nil => rfl
  | cons a r ih => rw [List.flatMap_cons, ih]; rfl
theorem join_signs (z : Str) : joinStr (signs z) = z := by
  unfold joinStr
  rw [chars_signs]
theorem marks_fst (w : Str) (n : Nat) : (marks w n).map (·.1) = signs w := by
  unfold marks signs
  rw [List.map_map]; rfl
/-! ### forward: one end in, one end out -/
structure Fwd (h : Head) (Z : Str) (w : Str → Str) (g : Str → Option Int) : Prop where
  many : h.k.ends = 1
  first : lookA h.last 1 = some (("", some 0) : Str × Option Int)
  last : lookA h.init 0 = some (("", none) : Str × Option Int)
  step : ∀ c ∈ signs Z, lookA h.steps c = some ([(1, w c, g c)] : Tab)
  goal : ∀ c, g c = none ∨ g c = some 0
def fwd (w : Str → Str) (g : Str → Option Int) : List Str → Nat → Wrt
  | [], _ => []
  | c :: r, i => marks (w c) i ++ if g c = none then [] else fwd w g r (i + 1)
theorem at_pre {α : Type} {l pre r : List α} {c : α} (h : l = pre ++ c :: r) : l[pre.length]? = some c := by
  rw [h, List.getElem?_append_right (Nat.le_refl _), Nat.sub_self]; rfl
theorem fwd_go {h : Head} {Z T : Str} {w : Str → Str} {g : Str → Option Int} (F : Fwd h Z w g) (hT : ∀ c ∈ signs T, c ∈ signs Z) : ∀ (rest pre : List Str) (f : Nat) (ws : Wrt), signs T = pre ++ rest → rest.length + 1 ≤ f →
    walkGo h T f (pre.length + 1) (if pre.length + 1 = T.length + 1 then 0 else 1) ws = some (ws ++ fwd w g rest (pre.length + 1))
  | [], pre, f, ws, hs, hf => by
    have hl : pre.length = T.length := by
      have := congrArg List.length hs
      rw [signs_len, List.append_nil] at this
      exact this.symm
    obtain ⟨f, rfl⟩ : ∃ f', f = f' + 1 := ⟨f - 1, by omega⟩
    rw [if_pos (by omega)]
    unfold walkGo
    have hn : nameAt T (pre.length + 1) = "last" := by
      unfold nameAt
      rw [if_neg (by omega), if_pos (by omega)]
    rw [hn, ways_last]
    simp only
    rw [F.last]
    rfl
  | c :: r, pre, f, ws, hs, hf => by
    obtain ⟨f, rfl⟩ : ∃ f', f = f' + 1 := ⟨f - 1, by omega⟩
    have ha := at_pre hs
    obtain ⟨hn, hlt, hc1⟩ := name_at ha
    have hcZ := hT c (List.mem_of_getElem? ha)
    rw [if_neg (by omega)]
    unfold walkGo
    rw [hn, ways_step h hc1, F.step c hcZ]
    simp only
    show (match (some (w c, g c) : Option (Str × Option Int)) with | none => none | some (w, none) => some (ws ++ marks w (pre.length + 1)) | some (w, some g) => walkGo h T f (leadOf h.k.ends (T.length + 1) (pre.length + 1) g).1 (leadOf h.k.ends (T.length + 1) (pre.length + 1) g).2 (ws ++ marks w (pre.length + 1))) = _
    rcases F.goal c with e | e
    · rw [e]
      unfold fwd
      rw [if_pos e, List.append_nil]
    · rw [e]
      have hlead : leadOf h.k.ends (T.length + 1) (pre.length + 1) 0 = (pre.length + 1 + 1, if pre.length + 1 + 1 = T.length + 1 then 0 else 1) := by
        unfold leadOf
        rw [F.many, if_pos (.inr ⟨by omega, by decide⟩), Int.zero_add]
        rfl
      simp only
      rw [hlead]
      have ih := fwd_go F hT r (pre ++ [c]) f (ws ++ marks (w c) (pre.length + 1)) (by rw [hs, List.append_assoc]; rfl) (by rw [List.length_cons] at hf; omega)
      rw [List.length_append, List.length_singleton] at ih
      simp only
      rw [ih]
      conv => rhs; unfold fwd
      rw [if_neg (by rw [e]; exact fun z => nomatch z), List.append_assoc]
theorem fwd_all {h : Head} {Z T : Str} {w : Str → Str} {g : Str → Option Int} (F : Fwd h Z w g) (hT : ∀ c ∈ signs T, c ∈ signs Z) (hl : T.length ≤ 400) : walkGo h T 900 0 1 [] = some (fwd w g (signs T) 1) := by
  unfold walkGo
  have hn : nameAt T 0 = "first" := by unfold nameAt; rw [if_pos rfl]
  rw [hn, ways_first]
  simp only
  rw [F.first]
  simp only
  have hlead : leadOf h.k.ends (T.length + 1) 0 0 = (1, if 0 + 1 = T.length + 1 then 0 else 1) := by
    unfold leadOf
    rw [F.many, if_pos (.inl rfl), Int.zero_add]
    rfl
  rw [hlead]
  have ih := fwd_go F hT (signs T) [] 899 ([] ++ marks "" 0) rfl (by rw [signs_len]; omega)
  rw [List.length_nil, Nat.zero_add] at ih
  simp only [Nat.zero_add]
  rw [ih]
  rfl
theorem fwd_char (w : Str → Str) (g : Str → Option Int) : ∀ (l : List Str) (i : Nat), ∀ q ∈ fwd w g l i, q.1.length = 1
  | [], _ => fun q h => nomatch h
  | c :: r, i => fun q h => by
    unfold fwd at h
    rcases List.mem_append.mp h with h | h
    · exact marks_char _ _ q h
    · split at h
      · cases h
      · exact fwd_char w g r (i + 1) q h
theorem fwd_len (w : Str → Str) (g : Str → Option Int) (hw : ∀ c, (w c).length ≤ 2) : ∀ (l : List Str) (i : Nat), (fwd w g l i).length ≤ 2 * l.length
  | [], _ => Nat.le_refl _
  | c :: r, i => by
    unfold fwd
    rw [List.length_append, marks_len]
    have h1 := hw c
    have h2 := fwd_len w g hw r (i + 1)
    rw [List.length_cons]
    split
    · rw [List.length_nil]; omega
    · omega
/-- what a lettered program writes -/
theorem fwd_words (w : Str → Str) : ∀ (l : List Str) (i : Nat), (((fwd w (fun _ => some 0) l i).map (·.1)).flatMap fun z => z.cps.toList) = (l.map w).flatMap fun z => z.cps.toList
  | [], _ => rfl
  | c :: r, i => by
    unfold fwd
    rw [if_neg (fun z => nomatch z), List.map_append, List.flatMap_append, marks_fst, chars_signs, fwd_words w r (i + 1), List.map_cons, List.flatMap_cons]
end Oh

set_option maxHeartbeats 4000000
/-! Oh, part 34: the plain law: there and back -/
namespace Oh
open PySem PySem.Spec
structure Mir (h : Head) (Z : Str) (w : Str → Str) : Prop where
  many : h.k.ends = 2
  first2 : lookA h.last 2 = some (("", some 1) : Str × Option Int)
  first0 : lookA h.last 0 = some (("", none) : Str × Option Int)
  last : lookA h.init 1 = some (("", some 0) : Str × Option Int)
  step : ∀ c ∈ signs Z, lookA h.steps c = some ([(3, w c, some 1), (0, c, some 2)] : Tab)
def upW (w : Str → Str) : List Str → Nat → Wrt
  | [], _ => []
  | c :: r, i => marks (w c) i ++ upW w r (i + 1)
def dnW (T : Str) : Nat → Wrt
  | 0 => []
  | i + 1 => marks (sgn T i) (i + 1) ++ dnW T i
theorem mir_up {h : Head} {Z T : Str} {w : Str → Str} (F : Mir h Z w) (hT : ∀ c ∈ signs T, c ∈ signs Z) : ∀ (rest pre : List Str) (f : Nat) (ws : Wrt), signs T = pre ++ rest →
    walkGo h T (f + rest.length) (pre.length + 1) (if pre.length + 1 = T.length + 1 then 1 else 3) ws = walkGo h T f (T.length + 1) 1 (ws ++ upW w rest (pre.length + 1))
  | [], pre, f, ws, hs => by
    have hl : pre.length = T.length := by
      have := congrArg List.length hs
      rw [signs_len, List.append_nil] at this
      exact this.symm
    rw [if_pos (by omega), hl]
    show walkGo h T f (T.length + 1) 1 ws = walkGo h T f (T.length + 1) 1 (ws ++ [])
    rw [List.append_nil]
  | c :: r, pre, f, ws, hs => by
    have ha := at_pre hs
    obtain ⟨hn, hlt, hc1⟩ := name_at ha
    have hcZ := hT c (List.mem_of_getElem? ha)
    rw [if_neg (by omega)]
    show walkGo h T ((f + r.length) + 1) (pre.length + 1) 3 ws = _
    conv => lhs; unfold walkGo
    rw [hn, ways_step h hc1, F.step c hcZ]
    simp only
    show walkGo h T (f + r.length) (leadOf h.k.ends (T.length + 1) (pre.length + 1) 1).1 (leadOf h.k.ends (T.length + 1) (pre.length + 1) 1).2 (ws ++ marks (w c) (pre.length + 1)) = _
    have hlead : leadOf h.k.ends (T.length + 1) (pre.length + 1) 1 = (pre.length + 1 + 1, if pre.length + 1 + 1 = T.length + 1 then 1 else 3) := by
      unfold leadOf
      rw [F.many, if_pos (.inr ⟨by omega, by decide⟩)]
      by_cases z : pre.length + 1 + 1 = T.length + 1
      · rw [if_pos z, if_pos z]; rfl
      · rw [if_neg z, if_neg z]; rfl
    rw [hlead]
    have ih := mir_up F hT r (pre ++ [c]) f (ws ++ marks (w c) (pre.length + 1)) (by rw [hs, List.append_assoc]; rfl)
    rw [List.length_append, List.length_singleton] at ih
    simp only
    rw [ih]
    conv => rhs; unfold upW
    rw [List.append_assoc]
theorem mir_down {h : Head} {Z T : Str} {w : Str → Str} (F : Mir h Z w) (hT : ∀ c ∈ signs T, c ∈ signs Z) : ∀ (i : Nat) (f : Nat) (ws : Wrt), i ≤ T.length → i + 1 ≤ f → walkGo h T f i 0 ws = some (ws ++ dnW T i)
  | 0, f, ws, hi, hf => by
    obtain ⟨f, rfl⟩ : ∃ f', f = f' + 1 := ⟨f - 1, by omega⟩
    unfold walkGo
    have hn : nameAt T 0 = "first" := by unfold nameAt; rw [if_pos rfl]
    rw [hn, ways_first]
    simp only
    rw [F.first0]
    rfl
  | i + 1, f, ws, hi, hf => by
    obtain ⟨f, rfl⟩ : ∃ f', f = f' + 1 := ⟨f - 1, by omega⟩
    have ha := sgn_at (T := T) (i := i) (by omega)
    obtain ⟨hn, hlt, hc1⟩ := name_at ha
    have hcZ := hT _ (List.mem_of_getElem? ha)
    unfold walkGo
    rw [hn, ways_step h hc1, F.step _ hcZ]
    simp only
    show walkGo h T f (leadOf h.k.ends (T.length + 1) (i + 1) 2).1 (leadOf h.k.ends (T.length + 1) (i + 1) 2).2 (ws ++ marks (sgn T i) (i + 1)) = _
    have hlead : leadOf h.k.ends (T.length + 1) (i + 1) 2 = (i, 0) := by
      unfold leadOf
      rw [F.many, if_neg (fun z => z.elim (by omega) fun y => absurd y.2 (by decide)), if_neg (by omega)]
      rfl
    rw [hlead]
    simp only
    rw [mir_down F hT i f _ (by omega) (by omega)]
    conv => rhs; unfold dnW
    rw [List.append_assoc]
theorem mir_all {h : Head} {Z T : Str} {w : Str → Str} (F : Mir h Z w) (hT : ∀ c ∈ signs T, c ∈ signs Z) (hl : T.length ≤ 200) : walkGo h T 900 0 2 [] = some (upW w (signs T) 1 ++ dnW T T.length) := by
  conv => lhs; unfold walkGo
  have hn : nameAt T 0 = "first" := by unfold nameAt; rw [if_pos rfl]
  rw [hn, ways_first]
  simp only
  rw [F.first2]
  simp only
  have hlead : leadOf h.k.ends (T.length + 1) 0 1 = (1, if 0 + 1 = T.length + 1 then 1 else 3) := by
    unfold leadOf
    rw [F.many, if_pos (.inl rfl)]
    by_cases z : 0 + 1 = T.length + 1
    · rw [if_pos z, if_pos z]; rfl
    · rw [if_neg z, if_neg z]; rfl
  rw [hlead]
  have ih := mir_up F hT (signs T) [] (899 - T.length) ([] ++ marks "" 0) rfl
  rw [List.length_nil, Nat.zero_add, signs_len, show 899 - T.length + T.length = 899 by omega] at ih
  simp only [Nat.zero_add]
  rw [ih]
  obtain ⟨f, hf⟩ : ∃ f', 899 - T.length = f' + 1 := ⟨898 - T.length, by omega⟩
  rw [hf]
  conv => lhs; unfold walkGo
  have hn2 : nameAt T (T.length + 1) = "last" := by
    unfold nameAt
    rw [if_neg (by omega), if_pos rfl]
  rw [hn2, ways_last]
  simp only
  rw [F.last]
  simp only
  have hlead2 : leadOf h.k.ends (T.length + 1) (T.length + 1) 0 = (T.length, 0) := by
    unfold leadOf
    rw [F.many, if_neg (fun z => z.elim (by omega) fun y => y.1 rfl), if_pos rfl]
    rfl
  rw [hlead2]
  simp only
  rw [mir_down F hT T.length f _ (Nat.le_refl _) (by omega)]
  simp only [marks_nil, List.append_nil, List.nil_append]
/-! ### what the law works out -/
def dueW (T : Str) : Wrt := (List.range T.length).map fun k => (sgn (revStr T) k, (T.length : Int) - (k : Int))
def aheadW (T : Str) : Wrt := (List.range T.length).map fun k => (sgn T k, (k : Int) + 1)
theorem dnW_eq (T : Str) : ∀ i, i ≤ T.length → dnW T i = (List.range i).map fun k => (sgn T (i - 1 - k), (i : Int) - (k : Int))
  | 0, _ => rfl
  | i + 1, h => by
    have ih := dnW_eq T i (by omega)
    have ha := sgn_at (T := T) (i := i) (by omega)
    unfold dnW
    rw [marks_one ha, ih, List.range_succ_eq_map, List.map_cons, List.map_map]
    show (sgn T i, ((i + 1 : Nat) : Int)) :: _ = (sgn T (i + 1 - 1 - 0), ((i + 1 : Nat) : Int) - ((0 : Nat) : Int)) :: _
    refine List.cons_eq_cons.mpr ⟨?_, ?_⟩
    · rw [show i + 1 - 1 - 0 = i by omega, show ((i + 1 : Nat) : Int) - ((0 : Nat) : Int) = ((i + 1 : Nat) : Int) by omega]
    · show List.map _ (List.range i) = _
      apply List.map_congr_left
      intro k hk
      have hk := List.mem_range.mp hk
      show (sgn T (i - 1 - k), (i : Int) - (k : Int)) = (sgn T (i + 1 - 1 - (k + 1)), ((i + 1 : Nat) : Int) - ((k + 1 : Nat) : Int))
      rw [show i + 1 - 1 - (k + 1) = i - 1 - k by omega, show ((i + 1 : Nat) : Int) - ((k + 1 : Nat) : Int) = (i : Int) - (k : Int) by omega]
theorem signs_rev (T : Str) : signs (revStr T) = (signs T).reverse := by
  unfold signs
  rw [rev_list, List.map_reverse]
theorem sgn_rev {T : Str} {k : Nat} (h : k < T.length) : sgn (revStr T) k = sgn T (T.length - 1 - k) := by
  unfold sgn
  rw [signs_rev, List.getD_eq_getElem?_getD, List.getD_eq_getElem?_getD, List.getElem?_reverse (by rw [signs_len]; exact h), signs_len]
theorem dn_due (T : Str) : dnW T T.length = dueW T := by
  rw [dnW_eq T _ (Nat.le_refl _)]
  unfold dueW
  apply List.map_congr_left
  intro k hk
  have hk := List.mem_range.mp hk
  rw [sgn_rev hk]
theorem up_nil : ∀ (l : List Str) (i : Nat), upW (fun _ => "") l i = []
  | [], _ => rfl
  | c :: r, i => by
    unfold upW
    rw [marks_nil, up_nil r (i + 1)]; rfl
theorem up_eq (T : Str) : ∀ (rest pre : List Str), signs T = pre ++ rest → upW id rest (pre.length + 1) = (List.range rest.length).map fun k => (sgn T (pre.length + k), ((pre.length + k : Nat) : Int) + 1)
  | [], _, _ => rfl
  | c :: r, pre, hs => by
    have ha := at_pre hs
    have ih := up_eq T r (pre ++ [c]) (by rw [hs, List.append_assoc]; rfl)
    rw [List.length_append, List.length_singleton] at ih
    unfold upW
    rw [ih, List.length_cons, List.range_succ_eq_map, List.map_cons, List.map_map]
    have e0 : sgn T (pre.length + 0) = c := by
      unfold sgn
      rw [Nat.add_zero, List.getD_eq_getElem?_getD, ha]; rfl
    rw [show (id c : Str) = c from rfl, marks_one ha]
    show (c, ((pre.length + 1 : Nat) : Int)) :: _ = (sgn T (pre.length + 0), ((pre.length + 0 : Nat) : Int) + 1) :: _
    refine List.cons_eq_cons.mpr ⟨?_, ?_⟩
    · rw [e0, show ((pre.length + 1 : Nat) : Int) = ((pre.length + 0 : Nat) : Int) + 1 by omega]
    · show List.map _ (List.range r.length) = _
      apply List.map_congr_left
      intro k _
      show (sgn T (pre.length + 1 + k), ((pre.length + 1 + k : Nat) : Int) + 1) = (sgn T (pre.length + (k + 1)), ((pre.length + (k + 1) : Nat) : Int) + 1)
      rw [show pre.length + 1 + k = pre.length + (k + 1) by omega]
theorem up_ahead (T : Str) : upW id (signs T) 1 = aheadW T := by
  have h := up_eq T (signs T) [] rfl
  rw [List.length_nil, Nat.zero_add, signs_len] at h
  rw [h]
  unfold aheadW
  apply List.map_congr_left
  intro k _
  rw [Nat.zero_add]
theorem range_sgn (T : Str) : ((List.range T.length).map fun k => sgn T k) = signs T := by
  refine List.ext_getElem? fun i => ?_
  rw [List.getElem?_map]
  by_cases h : i < T.length
  · rw [List.getElem?_range h, sgn_at h]; rfl
  · rw [List.getElem?_eq_none (by rw [List.length_range]; omega), List.getElem?_eq_none (by rw [signs_len]; omega)]; rfl
theorem due_fst (T : Str) : (dueW T).map (·.1) = signs (revStr T) := by
  unfold dueW
  rw [List.map_map, ← range_sgn (revStr T), rev_len]
  rfl
theorem ahead_fst (T : Str) : (aheadW T).map (·.1) = signs T := by
  unfold aheadW
  rw [List.map_map, ← range_sgn T]
  rfl
theorem fst_one {W : Wrt} {z : Str} (h : W.map (·.1) = signs z) : ∀ q ∈ W, q.1.length = 1 := fun q hq => by
  have : q.1 ∈ signs z := by rw [← h]; exact List.mem_map.mpr ⟨q, hq, rfl⟩
  unfold signs at this
  obtain ⟨k, _, e⟩ := List.mem_map.mp this
  rw [← e]; rfl
theorem due_len (T : Str) : (dueW T).length = T.length := by unfold dueW; rw [List.length_map, List.length_range]
theorem ahead_len (T : Str) : (aheadW T).length = T.length := by unfold aheadW; rw [List.length_map, List.length_range]
end Oh

set_option maxHeartbeats 4000000
/-! Oh, part 35: list(text); the three programs run on any text -/
namespace Oh
open PySem PySem.Spec PyProof.Rows L2
open TL (joinL split_join tl_join ext_tl)
theorem call_listS {X : Cx} (hc : X.calm = true) : CallR X (.type "list") (fun xs H Q => ∃ z : Str, xs = [.str z] ∧ z.length ≤ sizeLine ∧ ∀ l, H l = none → Q (.ref l) (upd H l (.lst ((signs z).map V.str)))) := by
  intro pins s σ H xs us Q I r h
  obtain ⟨z, e, hz, q⟩ := h
  subst e
  obtain ⟨u, eu, rx⟩ := vals1 r
  subst eu
  obtain ⟨t, rfl⟩ := rx
  refine call_list_str (I.ok.hd hc) z t (hn := hz) fun h' tk acc' c' hkeep hS hacc => ?_
  have hl : ((signs z).map V.str).length = z.cps.size := by rw [List.length_map, signs_len]; rfl
  refine ⟨.ref s.heap.objs.size, upd H s.heap.objs.size (.lst ((signs z).map V.str)), I.laid hkeep (Nat.le_refl _) (show ObjOk X.prog X.w _ _ _ (.lst ((signs z).map V.str)) from ⟨?_, acc'.toList, c', ?_, ?_⟩), rfl, q _ (I.hok.fresh (Nat.le_refl _))⟩
  · rw [hl]; exact hz
  · have el : acc'.toList.length = acc'.size := by simp
    refine vals_of_at (by rw [hl, el, hacc.1]) fun j x w h1 h2 => ?_
    obtain ⟨c, u, hcx, rfl⟩ := hacc.2 j w (by rw [← Array.getElem?_toList]; exact h2)
    rw [List.getElem?_map, signs_at hcx] at h1
    obtain rfl := Option.some.inj h1
    exact ⟨u, rfl⟩
  · simpa using hS
/-! ### the programs are programs -/
structure Abc (Z T : Str) : Prop where
  alph : Z ∈ alphabets
  sub : ∀ c ∈ signs T, c ∈ signs Z
  len : T.length ≤ 40
section
variable {Z T : Str}
theorem Abc.five (A : Abc Z T) : ∀ c ∈ signs Z, isLetter c = true ∧ c ∈ five := fun c hc => by
  have h := List.all_eq_true.mp (alph_facts Z A.alph).2.1 c hc
  simp only [Bool.and_eq_true, decide_eq_true_eq] at h
  exact h
theorem Abc.char (A : Abc Z T) {k : Nat} (hk : k ∈ T.cps.toList) : (⟨#[k]⟩ : Str) ∈ signs Z := A.sub _ (by unfold signs; exact List.mem_map.mpr ⟨k, hk, rfl⟩)
theorem mem_signs {z : Str} {k : Nat} (h : (⟨#[k]⟩ : Str) ∈ signs z) : k ∈ z.cps.toList := by
  unfold signs at h
  obtain ⟨j, hj, e⟩ := List.mem_map.mp h
  have : j = k := by
    have e2 := congrArg (fun s : Str => s.cps.toList) e
    simpa using e2
  rw [← this]; exact hj
theorem Abc.text (A : Abc Z T) : isText T = true := by
  unfold isText
  rw [List.all_eq_true]
  intro k hk
  have h := (A.five _ (A.char hk)).1
  unfold isLetter isText at h
  rw [Bool.and_eq_true, List.all_eq_true] at h
  exact h.1 k (by simp)
theorem Abc.lets (A : Abc Z T) {p : Prog} (h : p.steps.map (·.1) = signs Z) : ∀ c ∈ T.cps.toList, c ∈ p.letters.cps.toList := fun c hc => by
  unfold Prog.letters
  rw [h, join_signs]
  exact mem_signs (A.char hc)
theorem head_steps_map (p : Prog) : p.head.steps = p.steps.map fun q => (q.1, q.2.table.getD []) := rfl
/-! ### mirror -/
theorem mir_fst (tw : Bool) : (mirProg Z tw).steps.map (·.1) = signs Z := by
  show ((signs Z).map fun c => (c, mirTm c tw)).map (·.1) = signs Z
  rw [List.map_map]
  exact List.map_id _
theorem mir_good (A : Abc Z T) (tw : Bool) : PGood (mirProg Z tw) ∧ PTab (mirProg Z tw) := by
  have al := alph_facts Z A.alph
  have sl : (mirProg Z tw).steps.length = (signs Z).length := by rw [← List.length_map (f := (·.1)), mir_fst]
  have mem : ∀ q ∈ (mirProg Z tw).steps, ∃ c ∈ signs Z, q = (c, mirTm c tw) := fun q hq => by
    obtain ⟨c, hc, e⟩ := List.mem_map.mp hq
    exact ⟨c, hc, e.symm⟩
  refine ⟨⟨by show 2 * bothK.ends ≤ 60; decide, by show bothK.dep ≤ 8; decide, by rw [sl]; exact al.1.1, by rw [sl]; exact al.1.2, fun q hq => ?_, by rw [mir_fst]; exact al.2.2.1, mir_init.1, mir_last.1, fun q hq => ?_, by show Tm.dep (.fn "x" .tx (.nm "x")) ≤ 20; decide, by show Tm.dep (.fn "f" bothK (.cl (.nm "f") .en)) ≤ 20; decide, fun q hq => ?_⟩, ⟨?_, ?_, fun q hq => ?_⟩⟩
  · obtain ⟨c, hc, rfl⟩ := mem q hq
    exact (A.five c hc).1
  · obtain ⟨c, hc, rfl⟩ := mem q hq
    exact (mir_facts c (A.five c hc).2 tw).1
  · obtain ⟨c, hc, rfl⟩ := mem q hq
    exact (mir_facts c (A.five c hc).2 tw).2.1
  · show (Tm.fn "x" .tx (.nm "x")).table.isSome = true
    rw [mir_init.2]; rfl
  · show (Tm.fn "f" bothK (.cl (.nm "f") .en)).table.isSome = true
    rw [mir_last.2]; rfl
  · obtain ⟨c, hc, rfl⟩ := mem q hq
    show (mirTm c tw).table.isSome = true
    rw [(mir_facts c (A.five c hc).2 tw).2.2]; rfl
theorem mir_is (A : Abc Z T) (tw : Bool) : Mir (mirProg Z tw).head Z (fun c => if tw = true then c else "") where
  many := by show bothK.ends = 2; decide
  first2 := by
    show lookA ((Tm.fn "f" bothK (.cl (.nm "f") .en)).table.getD []) 2 = _
    rw [mir_last.2]; rfl
  first0 := by
    show lookA ((Tm.fn "f" bothK (.cl (.nm "f") .en)).table.getD []) 0 = _
    rw [mir_last.2]; rfl
  last := by
    show lookA ((Tm.fn "x" .tx (.nm "x")).table.getD []) 1 = _
    rw [mir_init.2]; rfl
  step := fun c hc => by
    have e : (mirProg Z tw).head.steps = (signs Z).map fun c => (c, (mirTm c tw).table.getD []) := by
      rw [head_steps_map]
      show ((signs Z).map fun c => (c, mirTm c tw)).map _ = _
      rw [List.map_map]; rfl
    rw [e, look_map (fun c => (mirTm c tw).table.getD []) hc, (mir_facts c (A.five c hc).2 tw).2.2]; rfl
theorem run_mir (A : Abc Z T) : Runs (mirProg Z false) T (dueW T) where
  good := (mir_good A false).1
  tab := (mir_good A false).2
  len := Nat.le_trans A.len (by decide)
  text := A.text
  lets := A.lets (mir_fst false)
  go := by
    have h := mir_all (mir_is A false) A.sub (Nat.le_trans A.len (by decide))
    have e : (fun c : Str => if false = true then c else ("" : Str)) = fun _ => ("" : Str) := by funext c; rfl
    rw [e, up_nil, dn_due, List.nil_append] at h
    exact h
  small := by rw [due_len]; exact Nat.le_trans A.len (by decide)
  chars := fst_one (due_fst T)
theorem run_mir2 (A : Abc Z T) : Runs (mirProg Z true) T (aheadW T ++ dueW T) where
  good := (mir_good A true).1
  tab := (mir_good A true).2
  len := Nat.le_trans A.len (by decide)
  text := A.text
  lets := A.lets (mir_fst true)
  go := by
    have h := mir_all (mir_is A true) A.sub (Nat.le_trans A.len (by decide))
    have e : (fun c : Str => if true = true then c else ("" : Str)) = id := by funext c; rfl
    rw [e, up_ahead, dn_due] at h
    exact h
  small := by rw [List.length_append, due_len, ahead_len]; have := A.len; omega
  chars := fun q hq => by
    rcases List.mem_append.mp hq with h | h
    · exact fst_one (ahead_fst T) q h
    · exact fst_one (due_fst T) q h
theorem due_join (T : Str) : joinStr ((dueW T).map (·.1)) = revStr T := by rw [due_fst, join_signs]
/-! ### words for letters -/
structure Words (Z : Str) (L : List (Str × Str)) : Prop where
  fst : L.map (·.1) = signs Z
  of : ∀ p ∈ L, p.2 ∈ wordsOf p.1
def wordIn (L : List (Str × Str)) (c : Str) : Str := (lookA L c).getD ""
theorem ltr_fst {L : List (Str × Str)} : (ltrProg L).steps.map (·.1) = L.map (·.1) := by
  show (L.map fun p => (p.1, Tm.fn "x" .tx (puts p.2))).map (·.1) = _
  rw [List.map_map]; rfl
theorem Words.at {L : List (Str × Str)} (W : Words Z L) {c : Str} (hc : c ∈ signs Z) : lookA L c = some (wordIn L c) ∧ wordIn L c ∈ wordsOf c := by
  obtain ⟨w, hw⟩ := lookA_in (L := L) (a := c) (by rw [W.fst]; exact hc)
  have := W.of _ (lookA_some hw)
  unfold wordIn
  rw [hw]
  exact ⟨rfl, this⟩
theorem Words.nd {L : List (Str × Str)} (A : Abc Z T) (W : Words Z L) : (L.map (·.1)).Nodup := by rw [W.fst]; exact asc_nodup (alph_facts Z A.alph).2.2.1
theorem ltr_good {L : List (Str × Str)} (A : Abc Z T) (W : Words Z L) : PGood (ltrProg L) ∧ PTab (ltrProg L) := by
  have al := alph_facts Z A.alph
  have sl : (ltrProg L).steps.length = (signs Z).length := by rw [← List.length_map (f := (·.1)), ltr_fst, W.fst]
  have mem : ∀ q ∈ (ltrProg L).steps, ∃ p ∈ L, q = (p.1, Tm.fn "x" .tx (puts p.2)) ∧ p.1 ∈ signs Z ∧ p.2 ∈ wordsOf p.1 := fun q hq => by
    obtain ⟨p, hp, e⟩ := List.mem_map.mp hq
    exact ⟨p, hp, e.symm, by rw [← W.fst]; exact List.mem_map.mpr ⟨p, hp, rfl⟩, W.of p hp⟩
  refine ⟨⟨by show 2 * Kd.tx.ends ≤ 60; decide, by show Kd.tx.dep ≤ 8; decide, by rw [sl]; exact al.1.1, by rw [sl]; exact al.1.2, fun q hq => ?_, by rw [ltr_fst, W.fst]; exact al.2.2.1, en_facts.1, mir_init.1, fun q hq => ?_, by show Tm.dep .en ≤ 20; decide, by show Tm.dep (.fn "x" .tx (.nm "x")) ≤ 20; decide, fun q hq => ?_⟩, ⟨?_, ?_, fun q hq => ?_⟩⟩
  · obtain ⟨p, hp, rfl, hc, hw⟩ := mem q hq
    exact (A.five _ hc).1
  · obtain ⟨p, hp, rfl, hc, hw⟩ := mem q hq
    exact (ltr_facts (A.five _ hc).2 hw).1
  · obtain ⟨p, hp, rfl, hc, hw⟩ := mem q hq
    exact (ltr_facts (A.five _ hc).2 hw).2.1
  · show Tm.en.table.isSome = true
    rw [en_facts.2]; rfl
  · show (Tm.fn "x" .tx (.nm "x")).table.isSome = true
    rw [mir_init.2]; rfl
  · obtain ⟨p, hp, rfl, hc, hw⟩ := mem q hq
    show (Tm.fn "x" .tx (puts p.2)).table.isSome = true
    rw [(ltr_facts (A.five _ hc).2 hw).2.2.1]; rfl
theorem ltr_is {L : List (Str × Str)} (A : Abc Z T) (W : Words Z L) : Fwd (ltrProg L).head Z (wordIn L) (fun _ => some 0) where
  many := by show Kd.tx.ends = 1; decide
  first := by
    show lookA ((Tm.fn "x" .tx (.nm "x")).table.getD []) 1 = _
    rw [mir_init.2]; rfl
  last := by
    show lookA (Tm.en.table.getD []) 0 = _
    rw [en_facts.2]; rfl
  step := fun c hc => by
    have e : (ltrProg L).head.steps = L.map fun p => (p.1, (fun (_ : Str) (w : Str) => (Tm.fn "x" .tx (puts w)).table.getD []) p.1 p.2) := by
      rw [head_steps_map]
      show (L.map fun p => (p.1, Tm.fn "x" .tx (puts p.2))).map _ = _
      rw [List.map_map]; rfl
    obtain ⟨h1, h2⟩ := W.at hc
    rw [e, look_map2 (fun (_ : Str) (w : Str) => (Tm.fn "x" .tx (puts w)).table.getD []) h1, (ltr_facts (A.five _ hc).2 h2).2.2.1]; rfl
  goal := fun _ => .inr rfl
theorem word_len {L : List (Str × Str)} (A : Abc Z T) (W : Words Z L) : ∀ c, (wordIn L c).length ≤ 2 := fun c => by
  by_cases hc : c ∈ signs Z
  · exact (ltr_facts (A.five _ hc).2 (W.at hc).2).2.2.2
  · unfold wordIn
    rw [lookA_none (by rw [W.fst]; exact hc)]
    decide
theorem run_ltr {L : List (Str × Str)} (A : Abc Z T) (W : Words Z L) : Runs (ltrProg L) T (fwd (wordIn L) (fun _ => some 0) (signs T) 1) where
  good := (ltr_good A W).1
  tab := (ltr_good A W).2
  len := Nat.le_trans A.len (by decide)
  text := A.text
  lets := A.lets (by rw [ltr_fst, W.fst])
  go := fwd_all (ltr_is A W) A.sub (Nat.le_trans A.len (by decide))
  small := by
    have h := fwd_len (wordIn L) (fun _ => some 0) (word_len A W) (signs T) 1
    rw [signs_len] at h
    have := A.len
    omega
  chars := fwd_char _ _ _ _
theorem ltr_join (L : List (Str × Str)) (T : Str) : joinStr ((fwd (wordIn L) (fun _ => some 0) (signs T) 1).map (·.1)) = joinStr ((signs T).map (wordIn L)) := joinStr_ext (fwd_words _ _ _)
/-! ### what stands ahead of a letter -/
theorem tai_fst {stop : Str} : (taiProg Z stop).steps.map (·.1) = signs Z := by
  show ((signs Z).map fun c => (c, taiTm c stop)).map (·.1) = signs Z
  rw [List.map_map]
  exact List.map_id _
theorem tai_good (A : Abc Z T) {stop : Str} (hs : stop ∈ signs Z) : PGood (taiProg Z stop) ∧ PTab (taiProg Z stop) := by
  have al := alph_facts Z A.alph
  have h5 := (A.five _ hs).2
  have sl : (taiProg Z stop).steps.length = (signs Z).length := by rw [← List.length_map (f := (·.1)), tai_fst]
  have mem : ∀ q ∈ (taiProg Z stop).steps, ∃ c ∈ signs Z, q = (c, taiTm c stop) := fun q hq => by
    obtain ⟨c, hc, e⟩ := List.mem_map.mp hq
    exact ⟨c, hc, e.symm⟩
  refine ⟨⟨by show 2 * Kd.tx.ends ≤ 60; decide, by show Kd.tx.dep ≤ 8; decide, by rw [sl]; exact al.1.1, by rw [sl]; exact al.1.2, fun q hq => ?_, by rw [tai_fst]; exact al.2.2.1, en_facts.1, mir_init.1, fun q hq => ?_, by show Tm.dep .en ≤ 20; decide, by show Tm.dep (.fn "x" .tx (.nm "x")) ≤ 20; decide, fun q hq => ?_⟩, ⟨?_, ?_, fun q hq => ?_⟩⟩
  · obtain ⟨c, hc, rfl⟩ := mem q hq
    exact (A.five c hc).1
  · obtain ⟨c, hc, rfl⟩ := mem q hq
    exact (tai_facts c (A.five c hc).2 stop h5).1
  · obtain ⟨c, hc, rfl⟩ := mem q hq
    exact (tai_facts c (A.five c hc).2 stop h5).2.1
  · show Tm.en.table.isSome = true
    rw [en_facts.2]; rfl
  · show (Tm.fn "x" .tx (.nm "x")).table.isSome = true
    rw [mir_init.2]; rfl
  · obtain ⟨c, hc, rfl⟩ := mem q hq
    show (taiTm c stop).table.isSome = true
    rw [(tai_facts c (A.five c hc).2 stop h5).2.2]; rfl
def taiW (stop : Str) : Str → Str := fun c => if c = stop then "" else c
def taiG (stop : Str) : Str → Option Int := fun c => if c = stop then none else some 0
theorem tai_is (A : Abc Z T) {stop : Str} (hs : stop ∈ signs Z) : Fwd (taiProg Z stop).head Z (taiW stop) (taiG stop) where
  many := by show Kd.tx.ends = 1; decide
  first := by
    show lookA ((Tm.fn "x" .tx (.nm "x")).table.getD []) 1 = _
    rw [mir_init.2]; rfl
  last := by
    show lookA (Tm.en.table.getD []) 0 = _
    rw [en_facts.2]; rfl
  step := fun c hc => by
    have e : (taiProg Z stop).head.steps = (signs Z).map fun c => (c, (taiTm c stop).table.getD []) := by
      rw [head_steps_map]
      show ((signs Z).map fun c => (c, taiTm c stop)).map _ = _
      rw [List.map_map]; rfl
    rw [e, look_map (fun c => (taiTm c stop).table.getD []) hc, (tai_facts c (A.five c hc).2 stop (A.five _ hs).2).2.2]; rfl
  goal := fun c => by
    unfold taiG
    split
    · exact .inl rfl
    · exact .inr rfl
def takeS (stop : Str) : List Str → List Str
  | [] => []
  | c :: r => if c = stop then [] else c :: takeS stop r
theorem tai_fwd (stop : Str) : ∀ (l : List Str) (i : Nat), (∀ c ∈ l, ∀ n, marks c n = [(c, (n : Int))]) → (fwd (taiW stop) (taiG stop) l i).map (·.1) = takeS stop l ∧ (fwd (taiW stop) (taiG stop) l i).length ≤ l.length
  | [], _, _ => ⟨rfl, Nat.le_refl _⟩
  | c :: r, i, h => by
    unfold fwd takeS
    by_cases e : c = stop
    · have e1 : taiW stop c = "" := by unfold taiW; rw [if_pos e]
      have e2 : taiG stop c = none := by unfold taiG; rw [if_pos e]
      rw [e1, e2, if_pos rfl, if_pos e, marks_nil]
      exact ⟨rfl, Nat.zero_le _⟩
    · have e1 : taiW stop c = c := by unfold taiW; rw [if_neg e]
      have e2 : taiG stop c = some 0 := by unfold taiG; rw [if_neg e]
      obtain ⟨h1, h2⟩ := tai_fwd stop r (i + 1) fun d hd => h d (List.mem_cons_of_mem _ hd)
      rw [e1, e2, if_neg (fun z => nomatch z), if_neg e, h c List.mem_cons_self i, List.map_append, h1]
      exact ⟨rfl, by rw [List.length_append, List.length_singleton, List.length_cons]; omega⟩
theorem marks_all (T : Str) : ∀ c ∈ signs T, ∀ n, marks c n = [(c, (n : Int))] := fun c hc n => by
  obtain ⟨i, hi, e⟩ := List.mem_iff_getElem.mp hc
  exact marks_one (T := T) (i := i) (by rw [← e]; exact List.getElem?_eq_getElem hi) n
theorem run_tai (A : Abc Z T) {stop : Str} (hs : stop ∈ signs Z) : Runs (taiProg Z stop) T (fwd (taiW stop) (taiG stop) (signs T) 1) where
  good := (tai_good A hs).1
  tab := (tai_good A hs).2
  len := Nat.le_trans A.len (by decide)
  text := A.text
  lets := A.lets tai_fst
  go := fwd_all (tai_is A hs) A.sub (Nat.le_trans A.len (by decide))
  small := by
    have h := (tai_fwd stop (signs T) 1 (marks_all T)).2
    rw [signs_len] at h
    have := A.len
    omega
  chars := fwd_char _ _ _ _
theorem tai_join (stop T : Str) : joinStr ((fwd (taiW stop) (taiG stop) (signs T) 1).map (·.1)) = joinStr (takeS stop (signs T)) := by rw [(tai_fwd stop (signs T) 1 (marks_all T)).1]
/-- the first piece of a split -/
theorem cut_parts (s : Nat) : ∀ l : List Nat, ∃ (p : List Nat) (ps : List (List Nat)), (∀ q ∈ p :: ps, s ∉ q) ∧ joinL [s] (p :: ps) = l ∧ p = l.takeWhile (fun c => decide (c ≠ s)) ∧ ps.length ≤ l.length
  | [] => ⟨[], [], by simp, rfl, rfl, Nat.le_refl _⟩
  | c :: l => by
    obtain ⟨p, ps, h1, h2, h3, h4⟩ := cut_parts s l
    by_cases e : c = s
    · refine ⟨[], p :: ps, fun q hq => ?_, ?_, ?_, by rw [List.length_cons, List.length_cons]; omega⟩
      · rcases List.mem_cons.mp hq with rfl | hq
        · simp
        · exact h1 q hq
      · show [] ++ ([s] ++ joinL [s] (p :: ps)) = c :: l
        rw [h2, e]; rfl
      · rw [List.takeWhile_cons, decide_eq_false (fun z => z e)]; rfl
    · refine ⟨c :: p, ps, fun q hq => ?_, ?_, ?_, by rw [List.length_cons]; omega⟩
      · rcases List.mem_cons.mp hq with rfl | hq
        · rw [List.mem_cons, not_or]
          exact ⟨fun z => e z.symm, h1 p List.mem_cons_self⟩
        · exact h1 q (List.mem_cons_of_mem _ hq)
      · cases ps with
        | nil =>
          show c :: p = c :: l
          have h2 : p = l := h2
          rw [h2]
        | cons q r =>
          show c :: (p ++ ([s] ++ joinL [s] (q :: r))) = c :: l
          have h2 : p ++ ([s] ++ joinL [s] (q :: r)) = l := h2
          rw [h2]
      · rw [List.takeWhile_cons, decide_eq_true e, ← h3]; rfl
theorem tl_mk (l : List Nat) : (⟨l.toArray⟩ : Str).cps.toList = l := rfl
theorem takeS_chars (s : Nat) : ∀ l : List Nat, ((takeS ⟨#[s]⟩ (l.map fun c => (⟨#[c]⟩ : Str))).flatMap fun w => w.cps.toList) = l.takeWhile fun c => decide (c ≠ s)
  | [] => rfl
  | c :: l => by
    rw [List.map_cons]
    unfold takeS
    by_cases e : c = s
    · rw [if_pos (by rw [e]), List.takeWhile_cons, decide_eq_false (fun z => z e)]; rfl
    · rw [if_neg (fun z => e (by have := congrArg (fun t : Str => t.cps.toList) z; simpa using this)), List.takeWhile_cons, decide_eq_true e, List.flatMap_cons, takeS_chars s l]; rfl
theorem split_head {T stop : Str} {s : Nat} (hs : stop = ⟨#[s]⟩) (h256 : s < 256) : ∃ rest, PySem.Txt.split T stop = joinStr (takeS stop (signs T)) :: rest ∧ rest.length ≤ T.length := by
  subst hs
  obtain ⟨p, ps, h1, h2, h3, h4⟩ := cut_parts s T.cps.toList
  have hsp := split_join (y := ⟨#[s]⟩) (s := s) (S := []) rfl (by simp [h256]) (parts := (p :: ps).map fun l => (⟨l.toArray⟩ : Str)) (by simp) (fun q hq => by
    obtain ⟨l, hl, rfl⟩ := List.mem_map.mp hq
    exact h1 l hl)
  have hj : PySem.Txt.join ⟨#[s]⟩ ((p :: ps).map fun l => (⟨l.toArray⟩ : Str)) = T := by
    refine ext_tl ?_
    rw [TL.join_eq, tl_join, List.map_map]
    have e : ((p :: ps).map ((fun x : Str => x.cps.toList) ∘ fun l => (⟨l.toArray⟩ : Str))) = p :: ps := by
      conv => rhs; rw [← List.map_id (p :: ps)]
      rfl
    show joinL [s] ((p :: ps).map ((fun x : Str => x.cps.toList) ∘ fun l => (⟨l.toArray⟩ : Str))) = T.cps.toList
    rw [e]
    exact h2
  rw [hj] at hsp
  refine ⟨ps.map fun l => (⟨l.toArray⟩ : Str), ?_, by rw [List.length_map]; rw [Array.length_toList] at h4; exact h4⟩
  rw [hsp, List.map_cons]
  congr 1
  unfold joinStr signs
  rw [takeS_chars, ← h3]
end
end Oh

set_option maxHeartbeats 8000000
/-! Oh, part 36: the law -/
namespace Oh
open PySem PySem.Spec PyProof.Rows L2
open Evl (Ex)
theorem StAt.off {H : Hp} {d lg lc D : Addr} {n : Nat} {o : HO} (h : StAt H d lg lc n) (h1 : D ≠ d) (h2 : D ≠ lg) (h3 : D ≠ lc) : StAt (upd H D o) d lg lc n :=
  ⟨let ⟨gs, cs, r, t, a1, a2, a3, a4⟩ := h.ex; ⟨gs, cs, r, t, by rw [upd_ne h1.symm]; exact a1, by rw [upd_ne h2.symm]; exact a2, by rw [upd_ne h3.symm]; exact a3, a4⟩, h.ne⟩
theorem StAt.apart {H : Hp} {d lg lc D : Addr} {n : Nat} (h : StAt H d lg lc n) (hD : H D = none) : D ≠ d ∧ D ≠ lg ∧ D ≠ lc := by
  obtain ⟨gs, cs, r, t, a1, a2, a3, _⟩ := h.ex
  exact ⟨(ne_of_none a1 hD).symm, (ne_of_none a2 hD).symm, (ne_of_none a3 hD).symm⟩
theorem signs_join {cs : List Str} (h : ∀ c ∈ cs, ∃ k, c = (⟨#[k]⟩ : Str)) : signs (joinStr cs) = cs := by
  unfold signs joinStr
  show ((cs.flatMap fun w => w.cps.toList)).map _ = cs
  induction cs with
  | nil => rfl
  | cons c r ih =>
    obtain ⟨k, rfl⟩ := h c List.mem_cons_self
    rw [List.flatMap_cons, List.map_append, ih fun d hd => h d (List.mem_cons_of_mem _ hd)]
    rfl
theorem signs_mk {z c : Str} (h : c ∈ signs z) : ∃ k, c = (⟨#[k]⟩ : Str) := by
  unfold signs at h
  obtain ⟨k, _, e⟩ := List.mem_map.mp h
  exact ⟨k, e.symm⟩
theorem signs_one {z c : Str} (h : c ∈ signs z) : c.length = 1 := by
  obtain ⟨k, rfl⟩ := signs_mk h
  rfl
theorem sum_one : ∀ {l : List Str}, (∀ c ∈ l, c.length = 1) → (l.map (·.length)).sum = l.length
  | [], _ => rfl
  | c :: r, h => by rw [List.map_cons, List.sum_cons, h c List.mem_cons_self, sum_one fun d hd => h d (List.mem_cons_of_mem _ hd), List.length_cons, Nat.add_comm]
theorem sum_two : ∀ {l : List Str}, (∀ c ∈ l, c.length ≤ 2) → (l.map (·.length)).sum ≤ 2 * l.length
  | [], _ => Nat.le_refl _
  | c :: r, h => by
    rw [List.map_cons, List.sum_cons, List.length_cons]
    have h1 := h c List.mem_cons_self
    have h2 := sum_two (l := r) fun d hd => h d (List.mem_cons_of_mem _ hd)
    omega
theorem due_at {T : Str} {i c : Nat} (h : (revStr T).cps[i]? = some c) : (dueW T)[i]? = some ((⟨#[c]⟩ : Str), (T.length : Int) - (i : Int)) := by
  have hs := signs_at h
  have hi : i < T.length := by
    have := (List.getElem?_eq_some_iff.mp hs).1
    rw [signs_len, rev_len] at this
    exact this
  unfold dueW
  rw [List.getElem?_map, List.getElem?_range hi]
  show some (sgn (revStr T) i, _) = _
  unfold sgn
  rw [List.getD_eq_getElem?_getD, hs]; rfl
theorem ahead_at {T : Str} {i c : Nat} (h : T.cps[i]? = some c) : (aheadW T)[i]? = some ((⟨#[c]⟩ : Str), (i : Int) + 1) := by
  have hs := signs_at h
  have hi : i < T.length := by
    have := (List.getElem?_eq_some_iff.mp hs).1
    rw [signs_len] at this
    exact this
  unfold aheadW
  rw [List.getElem?_map, List.getElem?_range hi]
  show some (sgn T i, _) = _
  unfold sgn
  rw [List.getD_eq_getElem?_getD, hs]; rfl
theorem depthAll_le {α : Type} (f : α → PyData) (n : Nat) (h : ∀ a, (f a).depth ≤ n) : ∀ l : List α, PyData.depthAll (l.map f) ≤ n
  | [] => by simp [PyData.depthAll]
  | a :: r => by
    have h1 := h a
    have h2 := depthAll_le f n h r
    show max (f a).depth (PyData.depthAll (r.map f)) ≤ n
    omega
theorem layAll {α : Type} (f : α → PyData) : ∀ l : List α, (∀ a ∈ l, (f a).canLay0 = true) → PyData.canLayAll0 (l.map f) = true
  | [], _ => rfl
  | a :: r, h => by
    show ((f a).canLay0 && PyData.canLayAll0 (r.map f)) = true
    rw [h a List.mem_cons_self, layAll f r fun b hb => h b (List.mem_cons_of_mem _ hb)]; rfl
theorem strOk_text {T c : Str} (ht : isText T = true) (hc : c ∈ signs T) : PySem.PyData.strOk c = true := by
  obtain ⟨k, rfl⟩ := signs_mk hc
  have hk := mem_signs hc
  unfold isText at ht
  have h := of_decide_eq_true (List.all_eq_true.mp ht k hk)
  have h2 : ∀ j ∈ letters.cps.toList, j < 0x110000 := by decide +kernel
  unfold PySem.PyData.strOk
  simp [h2 k h]
theorem pairs_shaped {T : Str} {W : Wrt} (ht : isText T = true) (h : ∀ q ∈ W, q.1 ∈ signs T) : SeqAt.shaped (.tuple (W.map pairD)) = true := by
  have h1 : (PyData.tuple (W.map pairD)).canLay0 = true := by
    show PyData.canLayAll0 (W.map pairD) = true
    refine layAll pairD W fun q hq => ?_
    show PyData.canLayAll0 [.str q.1, .int q.2] = true
    show (PySem.PyData.strOk q.1 && (true && true)) = true
    rw [strOk_text ht (h q hq)]; rfl
  have h2 : (PyData.tuple (W.map pairD)).depth ≤ 3 := by
    have h3 := depthAll_le pairD 2 (fun a => by simp [pairD, PyData.depth, PyData.depthAll]) W
    show PyData.depthAll (W.map pairD) + 1 ≤ 3
    omega
  unfold SeqAt.shaped
  rw [h1, Bool.true_and]
  exact decide_eq_true (by omega)
theorem pairs_eqv {T : Str} {W : Wrt} (ht : isText T = true) (h : ∀ q ∈ W, q.1 ∈ signs T) : PyData.eqv (.tuple (W.map pairD)) (.tuple (W.map pairD)) = true :=
  PySem.SeqAt.eqv_refl _ (PySem.SeqAt.canLay_of_shaped (pairs_shaped ht h))
theorem due_mem (T : Str) : ∀ q ∈ dueW T, q.1 ∈ signs T := fun q hq => by
  have : q.1 ∈ (dueW T).map (·.1) := List.mem_map.mpr ⟨q, hq, rfl⟩
  rw [due_fst, signs_rev] at this
  exact List.mem_reverse.mp this
theorem ahead_mem (T : Str) : ∀ q ∈ aheadW T, q.1 ∈ signs T := fun q hq => by
  have : q.1 ∈ (aheadW T).map (·.1) := List.mem_map.mpr ⟨q, hq, rfl⟩
  rw [ahead_fst] at this
  exact this
theorem notin_take {α : Type} {l : List α} {i : Nat} {c : α} (nd : l.Nodup) (h : l[i]? = some c) : c ∉ l.take i := fun hm => by
  obtain ⟨hi, e⟩ := List.getElem?_eq_some_iff.mp h
  rw [← List.take_append_drop i l] at nd
  refine (List.nodup_append.mp nd).2.2 c hm c ?_ rfl
  rw [List.drop_eq_getElem_cons hi, e]
  exact List.mem_cons_self
theorem mem_put {α β : Type} [DecidableEq α] {L : List (α × β)} {a : α} {b : β} : ∀ p ∈ putA L a b, p ∈ L ∨ p = (a, b) := by
  induction L with
  | nil => intro p hp; exact .inr (List.mem_singleton.mp hp)
  | cons q r ih =>
    intro p hp
    unfold putA at hp
    split at hp
    · rename_i e
      rcases List.mem_cons.mp hp with rfl | hp
      · exact .inr (by rw [e])
      · exact .inl (List.mem_cons_of_mem _ hp)
    · rcases List.mem_cons.mp hp with rfl | hp
      · exact .inl List.mem_cons_self
      · exact (ih p hp).imp (List.mem_cons_of_mem _) id
section
variable {P : Program} {w : World} {K : PySem.W.Frag} {mg : Str → Option Value} {base : Heap}
abbrev sLaw : Stmt := top 70
abbrev nLaw : List Str := ["_law_script", "_law_state", "_law_turn", "_law_letters_here", "_law_text", "_law_many", "_law_letter", "_law_due", "_law_ahead", "_law_words", "_law_stop", "_law_lap", "_law_k"]
theorem scLaw : FnScope ["_law_script", "_law_state", "_law_turn", "_law_letters_here", "_law_text", "_law_many", "_law_letter", "_law_due", "_law_ahead", "_law_words", "_law_stop", "_law_lap", "_law_k"] ["_law_script"] (defScope sLaw) := ⟨rfl, rfl, rfl, by decide +kernel, rfl, by decide +kernel, by decide +kernel⟩
def spLaw (K : PySem.W.Frag) : Sp := fun vs H Q _ => ∃ (a : Addr) (ns : List Int), vs = [.ref a] ∧ SqL K H a (ns.map V.int) ∧ ns.length ≤ 63 ∧ ∀ H', Q (.bl true) H'
theorem ok_law (B : Std mg) (GB : Kn P w K mg base "_law_begun" 1 ["_law_script"] (spBegun K)) (GD : Kn P w K mg base "_law_draw" 2 ["_law_state", "_law_room"] (spDraw K)) (GK : Kn P w K mg base "_law_pick" 3 ["_law_state", "_law_some"] (spPick K))
    (GM : Kn P w K mg base "_law_mirror" 1 ["_law_letters_here", "_law_is_twice"] (spMir K)) (GL : Kn P w K mg base "_law_lettered" 1 ["_law_words"] (spLtr K)) (GT : Kn P w K mg base "_law_tail" 1 ["_law_letters_here", "_law_stop"] (spTai K))
    (GR : Kn P w K mg base "run" 36 ["program", "text"] (spRun K)) (GW : Kn P w K mg base "walk" 36 ["program", "text"] (spWalk K)) {f : Addr} {fd : FuncData} (F : Fun K "law" "law" sLaw f fd) : FnOk P w K mg base CX0 37 f fd ["_law_script"] (spLaw K) := by
  refine F.ok scLaw (fun vs H Q E h => ?_) (fun cdv A outer s H vs Q E hr h => ?_)
  · obtain ⟨a, ns, rfl, _⟩ := h
    rfl
  obtain ⟨a, ns, rfl, hs, hln, q⟩ := h
  have hu := hu_of hr
  have hr1 : Room 1 _ := hr.mono (show 1 ≤ 36 by omega)
  have hr2 : Room 2 _ := hr.mono (show 2 ≤ 36 by omega)
  have hr3 : Room 3 _ := hr.mono (show 3 ≤ 36 by omega)
  refine ⟨_, (pss_cons (ps_set (i := 1) scLaw.nd rfl (.inr rfl) ((pe_kn GB hr1 (pa_cons (pv 0) pa_nil)))) (pss_cons (ps_for PassesOwn.never rfl (pi_range1 rfl B.range (pa_cons ((pe_op op_add (pe_int) (pe_callB (call_min2 (by rfl)) rfl B.min (by decide +kernel) (pa_cons (pe_len B (pv 0)) (pa_cons (pe_int) pa_nil))))) pa_nil)) (pg_name (i := 2) scLaw.nd rfl (.inl rfl)) (pss_cons (ps_set (i := 3) scLaw.nd rfl (.inr rfl) ((pe_kn GK hr3 (pa_cons (pv 1) (pa_cons ((pe_lst (pa_cons (pe_str) (pa_cons (pe_str) (pa_cons (pe_str) (pa_cons (pe_str) (pa_cons (pe_str) pa_nil))))))) pa_nil))))) (pss_cons (ps_set (i := 4) scLaw.nd rfl (.inl rfl) (pe_join pe_str (pe_lc (own := [("_law_lap", 11)]) (g := gName 11) (tt := tYes) (te := tCall (spPick K) [] E0 _) (by rfl) scLaw.nd (pi_range1 rfl B.range (pa_cons ((pe_kn GD hr2 (pa_cons (pv 1) (pa_cons (pe_int) pa_nil)))) pa_nil)) (blkOk_by (N := nLaw) (sc := defScope sLaw) (by decide +kernel)) (fun _ _ _ _ _ => pg_name (i := 11) scLaw.nd rfl (.inl rfl)) (fun _ _ _ _ _ => pts_nil) (fun _ _ _ _ _ => (pe_kn GK hr3 (pa_cons (pv 1) (pa_cons (pe_callTy (call_listS (by rfl)) rfl B.list (by decide +kernel) (pa_cons (pv 3) pa_nil)) pa_nil))))))) (pss_cons (ps_set (i := 5) scLaw.nd rfl (.inr rfl) (pe_len B (pv 4))) (pss_cons (ps_if (pt_cmpR op_ne ((pe_kn GR hr (pa_cons ((pe_kn GM hr1 (pa_cons (pv 3) (pa_cons (pe_bl) pa_nil)))) (pa_cons (pv 4) pa_nil)))) (pe_revS (pv 4)) (nomark _)) (pss_one (ps_ret pe_bl)) pss_nil) (pss_cons (ps_set (i := 7) scLaw.nd rfl (.inl rfl) (pe_callTy call_tuple_of rfl B.tuple PyProof.Rows.boot_tuple (pa_cons ((pe_lc (own := [("_law_k", 12), ("_law_letter", 6)]) (g := gTup K 2 (gCons (gName 12) (gCons (gName 6) gNil))) (tt := tYes) (by rfl) scLaw.nd (pi_enumS rfl B.enumerate (pa_cons (pe_revS (pv 4)) pa_nil)) (blkOk_by (N := nLaw) (sc := defScope sLaw) (by decide +kernel)) (fun _ _ _ _ _ => pg_tup (by rfl) (pgs_cons (pg_name (i := 12) scLaw.nd rfl (.inl rfl)) (pgs_cons (pg_name (i := 6) scLaw.nd rfl (.inl rfl)) pgs_nil))) (fun _ _ _ _ _ => pts_nil) (fun _ _ _ _ _ => (pe_tup (pa_cons (pv 6) (pa_cons ((pe_op op_sub (pv 5) (pv 12))) pa_nil)))))) pa_nil))) (pss_cons (ps_if (pt_cmpR (op_neD hr.units) ((pe_ix ix_tup ((pe_kn GW hr (pa_cons ((pe_kn GM hr1 (pa_cons (pv 3) (pa_cons (pe_bl) pa_nil)))) (pa_cons (pv 4) pa_nil)))) pe_int (fun _ _ => rfl))) (pv 7) (nomark _)) (pss_one (ps_ret pe_bl)) pss_nil) (pss_cons (ps_set (i := 8) scLaw.nd rfl (.inl rfl) (pe_callTy call_tuple_of rfl B.tuple PyProof.Rows.boot_tuple (pa_cons ((pe_lc (own := [("_law_k", 12), ("_law_letter", 6)]) (g := gTup K 2 (gCons (gName 12) (gCons (gName 6) gNil))) (tt := tYes) (by rfl) scLaw.nd (pi_enumS rfl B.enumerate (pa_cons (pv 4) pa_nil)) (blkOk_by (N := nLaw) (sc := defScope sLaw) (by decide +kernel)) (fun _ _ _ _ _ => pg_tup (by rfl) (pgs_cons (pg_name (i := 12) scLaw.nd rfl (.inl rfl)) (pgs_cons (pg_name (i := 6) scLaw.nd rfl (.inl rfl)) pgs_nil))) (fun _ _ _ _ _ => pts_nil) (fun _ _ _ _ _ => (pe_tup (pa_cons (pv 6) (pa_cons ((pe_op op_add (pv 12) (pe_int))) pa_nil)))))) pa_nil))) (pss_cons (ps_if (pt_cmpR (op_neD hr.units) ((pe_ix ix_tup ((pe_kn GW hr (pa_cons ((pe_kn GM hr1 (pa_cons (pv 3) (pa_cons (pe_bl) pa_nil)))) (pa_cons (pv 4) pa_nil)))) pe_int (fun _ _ => rfl))) ((pe_op op_catA (pv 8) (pv 7))) (nomark _)) (pss_one (ps_ret pe_bl)) pss_nil) (pss_cons (ps_set (i := 9) scLaw.nd rfl (.inr rfl) (pe_dnewK)) (pss_cons (ps_for PassesOwn.never rfl (pi_str (pv 3)) (pg_name (i := 6) scLaw.nd rfl (.inl rfl)) (pss_one (ps_dput hu (pv 9) (pv 6) (pe_kn GK hr3 (pa_cons (pv 1) (pa_cons ((pe_lst (pa_cons (pe_str) (pa_cons (pv 6) (pa_cons ((pe_op op_dbl (pv 6) (pe_int))) (pa_cons (pe_str) (pa_cons (pe_str) pa_nil))))))) pa_nil))) rfl))) (pss_cons (ps_if (pt_cmpR op_ne ((pe_kn GR hr (pa_cons ((pe_kn GL hr1 (pa_cons (pv 9) pa_nil))) (pa_cons (pv 4) pa_nil)))) (pe_join pe_str (pe_lc (own := [("_law_letter", 6)]) (g := gName 6) (tt := tYes) (by rfl) scLaw.nd (pi_str (pv 4)) (blkOk_by (N := nLaw) (sc := defScope sLaw) (by decide +kernel)) (fun _ _ _ _ _ => pg_name (i := 6) scLaw.nd rfl (.inl rfl)) (fun _ _ _ _ _ => pts_nil) (fun _ _ _ _ _ => (pe_dget hu (pv 9) (pv 6) (fun _ _ => rfl))))) (nomark _)) (pss_one (ps_ret pe_bl)) pss_nil) (pss_cons (ps_set (i := 10) scLaw.nd rfl (.inl rfl) ((pe_kn GK hr3 (pa_cons (pv 1) (pa_cons (pe_callTy (call_listS (by rfl)) rfl B.list (by decide +kernel) (pa_cons (pv 3) pa_nil)) pa_nil))))) (pss_one (ps_if (pt_cmpR op_ne ((pe_kn GR hr (pa_cons ((pe_kn GT hr1 (pa_cons (pv 3) (pa_cons (pv 10) pa_nil)))) (pa_cons (pv 4) pa_nil)))) (pe_ix ix_list (pe_split (pv 4) (pv 10)) pe_int (fun _ _ => rfl)) (nomark _)) (pss_one (ps_ret pe_bl)) pss_nil))))))))))))))) (pss_one (ps_ret pe_bl)))), ?_⟩
  have s2 : 2 ≤ sizeLine := by decide
  have s5 : 5 ≤ sizeLine := by decide
  refine ⟨_, rfl, a, ns, rfl, hs, hln, fun d lg lc H1 e1 hd0 hlg0 hst0 => ?_⟩
  have hs1 := Evl.ex_l e1 hs
  refine ⟨_, rfl, _, _, rfl, .inl ⟨_, hs1, rfl⟩, _, _, rfl, _, _, rfl, rfl, _, rfl, ?_, ?_, ?_⟩
  · split <;> omega
  · rw [List.length_map]
    split <;> omega
  have hN : (2 + if (4 : Int) < ((ns.map V.int).length : Nat) then (4 : Int) else ((ns.map V.int).length : Nat)).toNat ≤ 6 := by
    split <;> omega
  generalize (2 + if (4 : Int) < ((ns.map V.int).length : Nat) then (4 : Int) else ((ns.map V.int).length : Nat)).toNat = N at hN
  refine for_it (walk_range (lo := 0) (n := N)) (fun i σ H' => ∃ (o2 o3 o4 o5 o6 o7 o8 o9 o10 : Option V), σ = [some (.ref a), some (.ref d), o2, o3, o4, o5, o6, o7, o8, o9, o10, none, none] ∧ StAt H' d lg lc (100 * i))
    ⟨none, none, none, none, none, none, none, none, none, rfl, hst0⟩ (fun _ _ _ _ _ => trivial) ?_ ?_
  · rintro it v σ H2 H2' hi ⟨o2, o3, o4, o5, o6, o7, o8, o9, o10, rfl, hst2⟩ ⟨rfl, rfl⟩
    -- the letters
    refine ⟨_, rfl, s5, fun lp hlp => ?_⟩
    have e3 : Ex H2' (upd H2' lp (.lst [.str "a", .str "ab", .str "abc", .str "bz", .str "abcd"])) := Ex.new hlp
    obtain ⟨n1, n2, n3⟩ := hst2.apart hlp
    refine ⟨d, lg, lc, 100 * it, lp, _, rfl, hst2.up e3, by omega, upd_same, n2, by show 0 < 5; decide, by show 5 ≤ 1000; decide, fun v H3 x3 hst3 hv => ?_⟩
    obtain ⟨Z, hZ, rfl⟩ : ∃ Z ∈ alphabets, v = V.str Z := by
      have hv' : v ∈ alphabets.map V.str := hv
      obtain ⟨Z, hZ, e⟩ := List.mem_map.mp hv'
      exact ⟨Z, hZ, e.symm⟩
    clear hv x3 e3 n1 n2 n3
    have hZf := alph_facts Z hZ
    -- the text
    refine ⟨⟨_, rfl⟩, _, rfl, d, lg, lc, 100 * it + 1, 41, rfl, hst3, by omega, by decide, by decide, fun v H4 x4 hst4 hv0 hv1 => ⟨_, rfl, by omega, by omega, fun D hD => ?_⟩⟩
    obtain ⟨nD1, nD2, nD3⟩ := hst4.apart hD
    refine lc_range (fun i H' => ∃ cs : List Str, H' D = some (.lst (cs.map V.str)) ∧ cs.length = i ∧ (∀ c ∈ cs, c ∈ signs Z) ∧ StAt H' d lg lc (100 * it + 2 + i)) ⟨[], upd_same, rfl, (fun c h => nomatch h), hst4.up (Ex.new hD)⟩ ?_ ?_
    · rintro i H5 hi5 ⟨cs, hD5, hcl, hcs, hst5⟩
      refine ⟨rfl, yes_if ⟨_, rfl, _, rfl, Z, rfl, sl (by omega), fun l hl => ?_⟩⟩
      have e6 : Ex H5 (upd H5 l (.lst ((signs Z).map V.str))) := Ex.new hl
      obtain ⟨m1, m2, m3⟩ := hst5.apart hl
      refine ⟨d, lg, lc, 100 * it + 2 + i, l, _, rfl, hst5.up e6, by omega, upd_same, m2, by rw [List.length_map]; omega, by rw [List.length_map]; omega, fun v2 H6 x6 hst6 hv2 => ?_⟩
      obtain ⟨c, hc, rfl⟩ := List.mem_map.mp hv2
      have hD6 := x6 _ _ (e6 _ _ hD5) nD1 nD2
      refine ⟨_, hD6, small1000 (by rw [List.length_map]; omega), cs ++ [c], by rw [upd_same, List.map_append]; rfl, by rw [List.length_append, hcl]; rfl, fun c2 hc2 => ?_, hst6.off nD1 nD2 nD3⟩
      rcases List.mem_append.mp hc2 with h | h
      · exact hcs c2 h
      · rw [List.mem_singleton.mp h]; exact hc
    rintro H5 ⟨cs, hD5, hcl, hcs, hst5⟩
    refine ⟨_, D, cs, rfl, rfl, .inl (SqL.of hD5), ?_, ?_⟩
    · rw [sum_one fun c hc => signs_one (hcs c hc)]
      have : ("" : Str).length = 0 := rfl
      rw [this]; omega
    rw [join_eq]
    have hsg : signs (joinStr cs) = cs := signs_join fun c hc => signs_mk (hcs c hc)
    generalize joinStr cs = T at hsg
    have hTl : T.length = cs.length := by rw [← hsg, signs_len]
    have AB : Abc Z T := ⟨hZ, by rw [hsg]; exact hcs, by omega⟩
    have hst5 : StAt H5 d lg lc (100 * it + 43) := hst5.mono (by omega)
    clear hD5 hcl hcs hst4 x4 hv1 hv0 nD1 nD2 nD3 hsg
    have hT40 := AB.len
    have ht := AB.text
    refine ⟨_, rfl, _, _, rfl, ⟨sl (by omega), rfl⟩, ?_⟩
    -- run: turned round
    refine ⟨_, rfl, Z, false, rfl, by omega, fun am H7 e7 hm => ⟨_, rfl, .ref am, mirProg Z false, T, dueW T, rfl, hm, run_mir AB, fun H8 e8 => ⟨_, rfl, T, rfl, sl (by omega), rfl, _, rfl, ifNF (by rw [due_join]) ?_⟩⟩⟩
    have e58 := e7.trans e8
    clear hm
    -- due
    refine ⟨_, rfl, T, rfl, sl (by omega), revStr T, rfl, fun D hD => ?_⟩
    refine lc_it walk_enumS (fun i H' => Ex H8 H' ∧ ∃ ys, H' D = some (.lst ys) ∧ ImA K H' ys (((dueW T).take i).map pairD)) ⟨Ex.new hD, [], upd_same, .nil⟩ (fun _ _ _ _ => trivial) ?_ ?_
    · rintro i v H9 H9' hi9 ⟨eB, ys, hD9, hys⟩ ⟨Tt, c, rfl, hTt, rfl, hc⟩
      have eC : Ex H9 (upd H9 Tt (.tup [.int (i : Nat), .str ⟨#[c]⟩])) := Ex.new hTt
      have hTt' : (upd H9 Tt (.tup [.int (i : Nat), .str ⟨#[c]⟩])) Tt = some (.tup [.int (i : Nat), .str ⟨#[c]⟩]) := upd_same
      generalize upd H9 Tt (.tup [.int (i : Nat), .str ⟨#[c]⟩]) = HC at eC hTt'
      have hyl := hys.len
      rw [List.length_map, List.length_take, due_len] at hyl
      refine ⟨Tt, _, rfl, SqT.of hTt', rfl, _, _, rfl, _, _, rfl, rfl, rfl, yes_if ⟨_, rfl, _, rfl, _, rfl, _, _, rfl, rfl, s2, fun g hg => ?_⟩⟩
      have eD : Ex HC (upd HC g (.tup [.str ⟨#[c]⟩, .int ((T.length : Nat) - (i : Nat))])) := Ex.new hg
      have hg' : (upd HC g (.tup [.str ⟨#[c]⟩, .int ((T.length : Nat) - (i : Nat))])) g = some (.tup [.str ⟨#[c]⟩, .int ((T.length : Nat) - (i : Nat))]) := upd_same
      generalize upd HC g (.tup [.str ⟨#[c]⟩, .int ((T.length : Nat) - (i : Nat))]) = HD at eD hg'
      have hDD := (eC.trans eD) _ _ hD9
      have k6 : Tk K HD (upd HD D (.lst (ys ++ [.ref g]))) := Tk.upd (nt_lst hDD)
      refine ⟨_, hDD, small1000 (by omega), ((eB.trans eC).trans eD).mut hD, _, upd_same, ?_⟩
      rw [List.take_add_one, due_at hc, List.map_append]
      exact ((hys.ex (eC.trans eD)).up k6).snoc ((Im.mk2 hg' (.str _) (.int _)).up k6)
    rintro H9 ⟨eB, ys, hD9, hys⟩
    rw [List.take_of_length_le (by rw [due_len]; exact Nat.le_of_eq (rev_len T).symm)] at hys
    refine ⟨D, _, rfl, .inl ⟨SqL.of hD9, fun pd hpd => ?_⟩⟩
    have eC : Ex H9 (upd H9 pd (.tup ys)) := Ex.new hpd
    have hdue : Im K (upd H9 pd (.tup ys)) (.ref pd) (.tuple ((dueW T).map pairD)) := .tup (SqT.of upd_same) (hys.ex eC)
    generalize upd H9 pd (.tup ys) = H10 at eC hdue
    have e510 := (e58.trans eB).trans eC
    clear hys hD9 hD
    -- walk: due
    refine ⟨_, rfl, Z, false, rfl, by omega, fun am2 H11 e11 hm2 => ⟨_, rfl, .ref am2, mirProg Z false, T, dueW T, rfl, hm2, run_mir AB, fun tt aw ac H12 e12 htt haw => ?_⟩⟩
    have hdue12 := hdue.ex (e11.trans e12)
    refine ⟨tt, _, 0, _, rfl, rfl, htt, atI_nat (j := 0) rfl, _, rfl, _, _, haw.dpv, hdue12.dpv, pairs_shaped ht (due_mem T), pairs_shaped ht (due_mem T), _, rfl, ?_⟩
    rw [pairs_eqv ht (due_mem T)]
    refine iteF ?_
    have e512 := (e510.trans e11).trans e12
    clear hm2 haw htt
    -- ahead
    refine ⟨_, rfl, T, rfl, fun D hD => ?_⟩
    refine lc_it walk_enumS (fun i H' => Ex H12 H' ∧ ∃ ys, H' D = some (.lst ys) ∧ ImA K H' ys (((aheadW T).take i).map pairD)) ⟨Ex.new hD, [], upd_same, .nil⟩ (fun _ _ _ _ => trivial) ?_ ?_
    · rintro i v H13 H13' hi13 ⟨eB, ys, hD13, hys⟩ ⟨Tt, c, rfl, hTt, rfl, hc⟩
      have eC : Ex H13 (upd H13 Tt (.tup [.int (i : Nat), .str ⟨#[c]⟩])) := Ex.new hTt
      have hTt' : (upd H13 Tt (.tup [.int (i : Nat), .str ⟨#[c]⟩])) Tt = some (.tup [.int (i : Nat), .str ⟨#[c]⟩]) := upd_same
      generalize upd H13 Tt (.tup [.int (i : Nat), .str ⟨#[c]⟩]) = HC at eC hTt'
      have hyl := hys.len
      rw [List.length_map, List.length_take, ahead_len] at hyl
      refine ⟨Tt, _, rfl, SqT.of hTt', rfl, _, _, rfl, _, _, rfl, rfl, rfl, yes_if ⟨_, rfl, _, rfl, _, _, rfl, rfl, s2, fun g hg => ?_⟩⟩
      have eD : Ex HC (upd HC g (.tup [.str ⟨#[c]⟩, .int ((i : Nat) + 1)])) := Ex.new hg
      have hg' : (upd HC g (.tup [.str ⟨#[c]⟩, .int ((i : Nat) + 1)])) g = some (.tup [.str ⟨#[c]⟩, .int ((i : Nat) + 1)]) := upd_same
      generalize upd HC g (.tup [.str ⟨#[c]⟩, .int ((i : Nat) + 1)]) = HD at eD hg'
      have hDD := (eC.trans eD) _ _ hD13
      have k6 : Tk K HD (upd HD D (.lst (ys ++ [.ref g]))) := Tk.upd (nt_lst hDD)
      refine ⟨_, hDD, small1000 (by omega), ((eB.trans eC).trans eD).mut hD, _, upd_same, ?_⟩
      rw [List.take_add_one, ahead_at hc, List.map_append]
      exact ((hys.ex (eC.trans eD)).up k6).snoc ((Im.mk2 hg' (.str _) (.int _)).up k6)
    rintro H13 ⟨eB2, ys, hD13, hys⟩
    rw [List.take_of_length_le (by rw [ahead_len]; exact Nat.le_refl _)] at hys
    refine ⟨D, _, rfl, .inl ⟨SqL.of hD13, fun pa hpa => ?_⟩⟩
    have eC2 : Ex H13 (upd H13 pa (.tup ys)) := Ex.new hpa
    have hah : Im K (upd H13 pa (.tup ys)) (.ref pa) (.tuple ((aheadW T).map pairD)) := .tup (SqT.of upd_same) (hys.ex eC2)
    generalize upd H13 pa (.tup ys) = H14 at eC2 hah
    have e1214 := eB2.trans eC2
    have hdue14 := hdue12.ex e1214
    have e514 := e512.trans e1214
    clear hys hD13 hD hdue12 hdue
    -- walk: ahead and due
    refine ⟨_, rfl, Z, true, rfl, by omega, fun am3 H15 e15 hm3 => ⟨_, rfl, .ref am3, mirProg Z true, T, aheadW T ++ dueW T, rfl, hm3, run_mir2 AB, fun tt aw ac H16 e16 htt haw => ?_⟩⟩
    have e1416 := e15.trans e16
    have mem2 : ∀ q ∈ aheadW T ++ dueW T, q.1 ∈ signs T := fun q hq => (List.mem_append.mp hq).elim (ahead_mem T q) (due_mem T q)
    obtain ⟨pa', xa, ea, hsa, hia⟩ := (hah.ex e1416).t
    cases ea
    obtain ⟨pd', xd, ed, hsd, hid⟩ := (hdue14.ex e1416).t
    cases ed
    have hxa := hia.len
    have hxd := hid.len
    rw [List.length_map, ahead_len] at hxa
    rw [List.length_map, due_len] at hxd
    have fin : ∀ (pv : Addr) (H17 : Hp), Ex H16 H17 → Im K H17 (.ref pv) (.tuple ((aheadW T ++ dueW T).map pairD)) → ∃ d1 d2, Dp K H17 (.ref aw) d1 ∧ Dp K H17 (.ref pv) d2 ∧ SeqAt.shaped d1 = true ∧ SeqAt.shaped d2 = true ∧ PyData.eqv d1 d2 = true := fun pv H17 e17 hpv =>
      ⟨_, _, (haw.ex e17).dpv, hpv.dpv, pairs_shaped ht mem2, pairs_shaped ht mem2, pairs_eqv ht mem2⟩
    have go : ∀ (H17 : Hp), Ex H16 H17 → True := fun _ _ => trivial
    refine ⟨tt, _, 0, _, rfl, rfl, htt, atI_nat (j := 0) rfl, _, rfl, _, rfl, pa, pd, xa, xd, rfl, rfl, hsa, hsd, sl (by omega), fun hx0 => ?g1, fun hx0 hx1 => ?g2, fun hx0 hx1 pv hpv => ?g3⟩
    case' g1 =>
      have h0 : aheadW T = [] := List.length_eq_zero_iff.mp (by rw [ahead_len]; rw [hx0] at hxa; exact hxa.symm)
      obtain ⟨d1, d2, f1, f2, f3, f4, f5⟩ := fin pd H16 (Ex.refl _) (by rw [h0, List.nil_append]; exact .tup hsd hid)
      refine ⟨d1, d2, f1, f2, f3, f4, _, rfl, ?_⟩
      rw [f5]
      refine iteF ?_
      have hst17 := hst5.up (e514.trans e1416)
    case' g2 =>
      have h0 : dueW T = [] := List.length_eq_zero_iff.mp (by rw [due_len]; rw [hx1] at hxd; exact hxd.symm)
      obtain ⟨d1, d2, f1, f2, f3, f4, f5⟩ := fin pa H16 (Ex.refl _) (by rw [h0, List.append_nil]; exact .tup hsa hia)
      refine ⟨d1, d2, f1, f2, f3, f4, _, rfl, ?_⟩
      rw [f5]
      refine iteF ?_
      have hst17 := hst5.up (e514.trans e1416)
    case' g3 =>
      have e17 : Ex H16 (upd H16 pv (.tup (xa ++ xd))) := Ex.new hpv
      obtain ⟨d1, d2, f1, f2, f3, f4, f5⟩ := fin pv _ e17 (.tup (SqT.of upd_same) (by rw [List.map_append]; exact (hia.app hid).ex e17))
      refine ⟨d1, d2, f1, f2, f3, f4, _, rfl, ?_⟩
      rw [f5]
      refine iteF ?_
      have hst17 := hst5.up ((e514.trans e1416).trans e17)
    all_goals
      -- words
      intro dW hdW
      obtain ⟨w1, w2, w3⟩ := hst17.apart hdW
      have hst18 := hst17.up (Ex.new (o := .dK []) hdW)
      refine ⟨_, rfl, Z, rfl, ?_⟩
      refine for_it walk_str (fun i σ H' => ∃ (L : List (Str × Str)) (kvs : List (Key × V)) (o6 : Option V), σ = [some (.ref a), some (.ref d), some (.int (0 + it)), some (.str Z), some (.str T), some (.int T.length), o6, some (.ref pd), some (.ref pa), some (.ref dW), o10, none, none] ∧ H' dW = some (.dK kvs) ∧ DRel K H' (Sum.inr : Str → Key) PyData.str kvs L ∧ L.map (·.1) = (signs Z).take i ∧ (∀ p ∈ L, p.2 ∈ wordsOf p.1) ∧ StAt H' d lg lc (100 * it + 43 + i))
        ⟨[], [], o6, rfl, upd_same, .nil, rfl, (fun p h => nomatch h), hst18⟩ (fun _ _ _ _ _ => trivial) ?_ ?_
      · rintro j v σ HA HA' hj ⟨L, kvs, o6, rfl, hdWA, hrel, hfst, hof, hstA⟩ ⟨rfl, c, hc, rfl⟩
        refine ⟨_, rfl, _, rfl, _, rfl, ⟨#[c]⟩, rfl, rfl, rfl, s5, fun lp2 hlp2 => ?_⟩
        obtain ⟨m1, m2, m3⟩ := hstA.apart hlp2
        have eA : Ex HA' (upd HA' lp2 (.lst [.str "", .str ⟨#[c]⟩, .str (dblStr ⟨#[c]⟩), .str "xy", .str "a"])) := Ex.new hlp2
        have hLl : L.length ≤ 4 := by
          rw [← List.length_map (f := (·.1)), hfst, List.length_take]
          omega
        have hj4 : j < 4 := by
          have h1 := (List.getElem?_eq_some_iff.mp (signs_at hc)).1
          omega
        refine ⟨d, lg, lc, 100 * it + 43 + j, lp2, _, rfl, hstA.up eA, by omega, upd_same, m2, by show 0 < 5; decide, by show 5 ≤ 1000; decide, fun v H6 x6 hst6 hv => ?_⟩
        obtain ⟨wd, hwd, rfl⟩ := List.mem_map.mp (show v ∈ (wordsOf ⟨#[c]⟩).map V.str from hv)
        have hdW6 := x6 _ _ (eA _ _ hdWA) w1 w2
        have k6 : Tk K HA' H6 := (tk eA).trans ((hstA.up eA).tk x6)
        have nd : (L.map (·.1)).Nodup := by
          rw [hfst]
          exact (asc_nodup hZf.2.2.1).sublist (List.take_sublist _ _)
        refine ⟨_, rfl, _, rfl, dW, _, rfl, DPut.k (k := Sum.inr ⟨#[c]⟩) hdW6 (small1000 (by rw [hrel.len]; omega)), ?_⟩
        refine ⟨putA L ⟨#[c]⟩ wd, _, _, rfl, upd_same, ((hrel.up k6).up (Tk.upd (nt_dK hdW6))).put inr_inj (.str wd) nd, ?_, fun p hp => ?_, hst6.off w1 w2 w3⟩
        · rw [keys_put, hfst, if_neg (notin_take (asc_nodup hZf.2.2.1) (signs_at hc)), List.take_add_one, signs_at hc]; rfl
        · rcases mem_put p hp with h | rfl
          · exact hof p h
          · exact hwd
      rintro σ HB ⟨L, kvs, o6', rfl, hdWB, hrel, hfst, hof, hstB⟩
      rw [List.take_of_length_le (by rw [signs_len]; exact Nat.le_refl _)] at hfst
      have WD : Words Z L := ⟨hfst, hof⟩
      have hLl : L.length ≤ 4 := by
        rw [← List.length_map (f := (·.1)), hfst]
        omega
      have hZ4 : Z.cps.size ≤ 4 := hZf.2.2.2.2
      -- lettered
      refine ⟨_, rfl, dW, kvs, L, rfl, hdWB, hrel, by rw [WD.fst]; exact hZf.2.2.1, by omega, fun p hp => ?_, fun al HC eC hl => ⟨_, rfl, .ref al, ltrProg L, T, _, rfl, hl, run_ltr AB WD, fun HD eD => ⟨⟨_, rfl⟩, _, rfl, T, rfl, fun D hD => ?_⟩⟩⟩
      · have hc : p.1 ∈ signs Z := by rw [← WD.fst]; exact List.mem_map.mpr ⟨p, hp, rfl⟩
        have := (ltr_facts (AB.five _ hc).2 (WD.of p hp)).2.2.2
        omega
      have eBD := eC.trans eD
      refine lc_it walk_str (fun i H' => Ex HD H' ∧ H' D = some (.lst ((((signs T).take i).map (wordIn L)).map V.str))) ⟨Ex.new hD, upd_same⟩ (fun _ _ _ _ => trivial) ?_ ?_
      · rintro i v HE HE' hiE ⟨eE, hDE⟩ ⟨rfl, c, hc, rfl⟩
        have hcT : (⟨#[c]⟩ : Str) ∈ signs T := List.mem_of_getElem? (signs_at hc)
        have hiT : i < T.length := by
          have := (List.getElem?_eq_some_iff.mp (signs_at hc)).1
          rw [signs_len] at this
          exact this
        obtain ⟨v0, hv0, hvi⟩ := (hrel.up (tk (eBD.trans eE))).get inr_inj (WD.at (AB.sub _ hcT)).1
        obtain rfl := hvi.s
        refine ⟨rfl, yes_if ⟨_, rfl, _, rfl, dW, _, rfl, by rw [← hv0]; exact DGet.k (k := Sum.inr ⟨#[c]⟩) ((eBD.trans eE) _ _ hdWB), _, hDE, small1000 (by rw [List.length_map, List.length_map, List.length_take, signs_len]; omega), eE.mut hD, ?_⟩⟩
        rw [upd_same, List.take_add_one, signs_at hc, List.map_append, List.map_append]; rfl
      rintro HE ⟨eE, hDE⟩
      rw [List.take_of_length_le (by rw [signs_len]; exact Nat.le_refl _)] at hDE
      refine ⟨_, D, _, rfl, rfl, .inl (SqL.of hDE), ?_, rfl, _, rfl, ifNF ?_ ?_⟩
      · have h1 := sum_two (l := (signs T).map (wordIn L)) fun z hz => by
          obtain ⟨c, _, rfl⟩ := List.mem_map.mp hz
          exact word_len AB WD c
        rw [List.length_map, signs_len] at h1
        have : ("" : Str).length = 0 := rfl
        rw [this]
        omega
      · rw [ltr_join, join_eq]
      have hstE := hstB.up (eBD.trans eE)
      -- the stop
      refine ⟨_, rfl, _, rfl, Z, rfl, sl (by omega), fun l hl2 => ?_⟩
      obtain ⟨m1, m2, m3⟩ := hstE.apart hl2
      refine ⟨d, lg, lc, _, l, _, rfl, hstE.up (Ex.new hl2), by omega, upd_same, m2, by rw [List.length_map]; omega, by rw [List.length_map]; omega, fun v HF xF hstF hv => ?_⟩
      obtain ⟨stop, hstop, rfl⟩ := List.mem_map.mp hv
      obtain ⟨sc, hsc⟩ := signs_mk hstop
      have hs256 : sc < 256 := by
        have h5 := (AB.five _ hstop).2
        rw [hsc] at h5
        revert h5
        intro h5
        have : ∀ y ∈ five, ∀ k ∈ y.cps.toList, k < 256 := by decide +kernel
        exact this _ h5 sc (by simp)
      obtain ⟨rest, hsp, _⟩ := split_head (T := T) hsc hs256
      -- tail
      refine ⟨_, rfl, _, rfl, Z, stop, rfl, by omega, fun at1 HG eG hat => ⟨_, rfl, .ref at1, taiProg Z stop, T, _, rfl, hat, run_tai AB hstop, fun HH eH => ⟨_, rfl, ⟨_, rfl⟩, _, rfl, T, stop, rfl, rfl, by rw [signs_one hstop]; rfl, by have h63 : 1000 < sizeLine := small1000 (Nat.le_refl _); omega, fun ps hps => ?_⟩⟩⟩
      rw [hsp]
      refine ⟨ps, _, 0, _, rfl, rfl, SqL.of upd_same, atI_nat (j := 0) rfl, rfl, _, rfl, ifNF (by rw [tai_join]) ?_⟩
      have hstH := hstF.up ((eG.trans eH).trans (Ex.new (o := .lst ((joinStr (takeS stop (signs T)) :: rest).map V.str)) hps))
      exact ⟨_, _, _, _, _, _, _, _, _, rfl, hstH.mono (by omega)⟩
  · rintro σ H2 ⟨o2, o3, o4, o5, o6, o7, o8, o9, o10, rfl, hst2⟩
    exact q H2
end
end Oh

set_option maxHeartbeats 8000000
/-! Oh, part 37: what the top has written -/
namespace Oh
open PySem PySem.Spec PyProof.Rows L2
open Evl (Ex)
section
variable {K : PySem.W.Frag} {h : Heap} {mg : Str → Option Value}
theorem src_mk {x : Str} {st : Stmt} {ps : List Str} {f : Addr} {oc kV dc pm cd ct : Value} {od an : Option Addr} {osl : Array (Option Value)} (X : K.In h) (G : h.Ns mainGlobals mg)
    (hb : ∀ (kV doc pm : Value) (an : Option Addr) (cdv ct : Value) (us : List Value), us.length = ps.length → bindArgs (PySem.W.fnOf x x (defArgs st) (defBody st) (defScope st) .none kV doc pm an cdv ct) ⟨us, []⟩ = pure (ps.zip us))
    (a : PySem.W.nsIn K mainGlobals x = some (some (.ref f))) (l : K.lookup f = some ⟨oc, od, .func (PySem.W.fnOf x x (defArgs st) (defBody st) (defScope st) .none kV dc pm an cd ct), osl⟩)
    (c : PySem.W.codeIn K cd x = true) (k : PySem.W.keepIn K (.ref f) = true) : Src K mg x st ps :=
  have F := fun_mk (st := st) l c k
  ⟨f, _, F, PySem.W.mg_of X G a, F.binds (ps := ps) fun kV doc pm an cdv ct us hl => hb kV doc pm an cdv ct us hl⟩
theorem srcM_mk {C : Addr} {m qn : Str} {st : Stmt} {ps : List Str} {f : Addr} {oc kV dc pm cd ct : Value} {od an : Option Addr} {osl : Array (Option Value)}
    (hb : ∀ (kV doc pm : Value) (an : Option Addr) (cdv ct : Value) (us : List Value), us.length = ps.length → bindArgs (PySem.W.fnOf m qn (defArgs st) (defBody st) (defScope st) .none kV doc pm an cdv ct) ⟨us, []⟩ = pure (ps.zip us))
    (a : PySem.W.findIn K (.ref C) m = some (some (.ref f))) (i : PySem.W.isFn K (.ref f) = true) (l : K.lookup f = some ⟨oc, od, .func (PySem.W.fnOf m qn (defArgs st) (defBody st) (defScope st) .none kV dc pm an cd ct), osl⟩)
    (c : PySem.W.codeIn K cd qn = true) (k : PySem.W.keepIn K (.ref f) = true) : SrcM K C m qn st ps :=
  have F := fun_mk (st := st) l c k
  ⟨f, _, F, ⟨a, i, k⟩, F.binds (ps := ps) fun kV doc pm an cdv ct us hl => hb kV doc pm an cdv ct us hl⟩
theorem signs_mk2 {f T : Addr} {oc kV dc pm cd ct tc : Value} {od an td : Option Addr} {osl tsl : Array (Option Value)} {n : Nat} (X : K.In h) (G : h.Ns mainGlobals mg)
    (a : PySem.W.nsIn K mainGlobals "signs_of" = some (some (.ref f))) (l : K.lookup f = some ⟨oc, od, .func (PySem.W.fnOf "signs_of" "signs_of" (defArgs sSigns) (defBody sSigns) (defScope sSigns) (.ref T) kV dc pm an cd ct), osl⟩)
    (t : K.lookup T = some ⟨tc, td, .seq #[.bool true] n, tsl⟩) (c : PySem.W.codeIn K cd "signs_of" = true) (k : PySem.W.keepIn K (.ref f) = true) : SrcD K mg "signs_of" sSigns ["kind", "is_asked"] [.bl true] := by
  have F : FunD K "signs_of" "signs_of" (defArgs sSigns) (defBody sSigns) (defScope sSigns) [.bl true] [] f (PySem.W.fnOf "signs_of" "signs_of" (defArgs sSigns) (defBody sSigns) (defScope sSigns) (.ref T) kV dc pm an cd ct) :=
    ⟨⟨oc, od, .ref T, kV, dc, pm, an, cd, ct, osl, rfl, l, c, .inr ⟨by simp, T, _, [.bool true], n, rfl, t, rfl, .cons rfl .nil⟩, .inl rfl⟩, k⟩
  refine ⟨f, _, F, PySem.W.mg_of X G a, ?_, ?_⟩
  · obtain ⟨ds, hv, hb⟩ := F.binds1 (ps := ["kind", "is_asked"]) 2 1 (by simp) rfl fun T kV doc pm an cdv ct us its hu hi => match us, its, hu, hi with
      | [_, _], [_], _, _ => ⟨_, rfl, rfl⟩
    cases hv
    exact hb
  · exact F.binds1 (ps := ["kind", "is_asked"]) 1 0 (by simp) rfl fun T kV doc pm an cdv ct us its hu hi => match us, its, hu, hi with
      | [_], [_], _, _ => ⟨_, rfl, rfl⟩
theorem tupK {a : Addr} {td : Option Addr} {its : List Value} {n : Nat} {sl : Array (Option Value)} {xs : List V} (l : K.lookup a = some ⟨.type "tuple", td, .seq its.toArray n, sl⟩) (hs : its.length ≤ 1000) (r : Vals xs its) : ∀ H, SqT K H a xs := fun H =>
  .inr ⟨_, its.toArray, n, l, rfl, rfl, by rw [List.size_toArray]; exact Oh.sl hs, by simpa using r⟩
theorem cst_mk {w : World} {aT aK dS : Addr} {t1 t2 t3 t4 t5 t6 tt k1 k2 k3 k4 k5 k6 k7 u1 u2 u3 u4 u5 : Tok} {dT dK : Option Addr} {nT nK nS : Nat} {slT slK : Array (Option Value)} {es : Array DictEntry} (X : K.In h) (G : h.Ns mainGlobals mg)
    (e1 : PySem.W.nsIn K mainGlobals "MOST_ENDS" = some (some (.int 60 t1))) (e2 : PySem.W.nsIn K mainGlobals "MOST_NODES" = some (some (.int 400 t2))) (e3 : PySem.W.nsIn K mainGlobals "MOST_LEVELS" = some (some (.int 60 t3)))
    (e4 : PySem.W.nsIn K mainGlobals "MOST_STEPS" = some (some (.int 4 t4))) (e5 : PySem.W.nsIn K mainGlobals "OWN" = some (some (.str "" t5))) (e6 : PySem.W.nsIn K mainGlobals "LETTERS" = some (some (.str letters t6)))
    (eT : PySem.W.nsIn K mainGlobals "TEXT" = some (some (.ref aT))) (lT : K.lookup aT = some ⟨.type "tuple", dT, .seq #[.str "text" tt] nT, slT⟩)
    (eK : PySem.W.nsIn K mainGlobals "KEPT" = some (some (.ref aK))) (lK : K.lookup aK = some ⟨.type "tuple", dK, .seq #[.str "call" k1, .str "end" k2, .str "fun" k3, .str "name" k4, .str "put" k5, .str "text" k6, .str "to" k7] nK, slK⟩)
    (eS : PySem.W.nsIn K mainGlobals "SIZES" = some (some (.ref dS))) (lS : K.lookup dS = some ⟨.type "dict", none, .dict es nS, #[]⟩) (lit : PySem.W.KeysLit w.params es.toList) (low : (dS == sysModules) = false)
    (n1 : PySem.W.nsIn K dS "name" = some (some (.int 2 u1))) (n2 : PySem.W.nsIn K dS "fun" = some (some (.int 4 u2))) (n3 : PySem.W.nsIn K dS "call" = some (some (.int 3 u3))) (n4 : PySem.W.nsIn K dS "put" = some (some (.int 3 u4))) (n5 : PySem.W.nsIn K dS "end" = some (some (.int 1 u5))) : Cst K mg w where
  most60 := ⟨_, PySem.W.mg_of X G e1⟩
  nodes := ⟨_, PySem.W.mg_of X G e2⟩
  levels := ⟨_, PySem.W.mg_of X G e3⟩
  steps := ⟨_, PySem.W.mg_of X G e4⟩
  own := ⟨_, PySem.W.mg_of X G e5⟩
  letters := ⟨_, PySem.W.mg_of X G e6⟩
  text := ⟨aT, PySem.W.mg_of X G eT, tupK (its := [.str "text" tt]) lT (by show 1 ≤ 1000; decide) (.cons ⟨_, rfl⟩ .nil)⟩
  kept := ⟨aK, PySem.W.mg_of X G eK, tupK (its := [.str "call" k1, .str "end" k2, .str "fun" k3, .str "name" k4, .str "put" k5, .str "text" k6, .str "to" k7]) lK (by show 7 ≤ 1000; decide) (.cons ⟨_, rfl⟩ (.cons ⟨_, rfl⟩ (.cons ⟨_, rfl⟩ (.cons ⟨_, rfl⟩ (.cons ⟨_, rfl⟩ (.cons ⟨_, rfl⟩ (.cons ⟨_, rfl⟩ .nil)))))))⟩
  sizes := ⟨dS, es, nS, PySem.W.mg_of X G eS, ⟨lS, lit, low⟩, fun t => by
    cases t with
    | nm x => exact ⟨_, n1⟩
    | fn x A e => exact ⟨_, n2⟩
    | cl e f => exact ⟨_, n3⟩
    | pt b e => exact ⟨_, n4⟩
    | en => exact ⟨_, n5⟩⟩
theorem std_mk (X : K.In h) (G : h.Ns mainGlobals mg) (z1 : PySem.W.nsIn K mainGlobals "len" = some none) (z2 : PySem.W.nsIn K mainGlobals "isinstance" = some none) (z3 : PySem.W.nsIn K mainGlobals "tuple" = some none) (z4 : PySem.W.nsIn K mainGlobals "str" = some none) (z5 : PySem.W.nsIn K mainGlobals "sum" = some none)
    (z6 : PySem.W.nsIn K mainGlobals "dict" = some none) (z7 : PySem.W.nsIn K mainGlobals "list" = some none) (z8 : PySem.W.nsIn K mainGlobals "sorted" = some none) (z9 : PySem.W.nsIn K mainGlobals "all" = some none) (z10 : PySem.W.nsIn K mainGlobals "set" = some none)
    (z11 : PySem.W.nsIn K mainGlobals "range" = some none) (z12 : PySem.W.nsIn K mainGlobals "enumerate" = some none) (z13 : PySem.W.nsIn K mainGlobals "min" = some none) (z14 : PySem.W.nsIn K mainGlobals "abs" = some none) (z15 : PySem.W.nsIn K mainGlobals "int" = some none) : Std mg :=
  ⟨PySem.W.mg_none_of X G z1, PySem.W.mg_none_of X G z2, PySem.W.mg_none_of X G z3, PySem.W.mg_none_of X G z4, PySem.W.mg_none_of X G z5, PySem.W.mg_none_of X G z6, PySem.W.mg_none_of X G z7, PySem.W.mg_none_of X G z8, PySem.W.mg_none_of X G z9, PySem.W.mg_none_of X G z10, PySem.W.mg_none_of X G z11, PySem.W.mg_none_of X G z12, PySem.W.mg_none_of X G z13, PySem.W.mg_none_of X G z14, PySem.W.mg_none_of X G z15⟩
theorem pl_mk {C : Addr} (X : K.In h) (G : h.Ns mainGlobals mg) (aC : PySem.W.nsIn K mainGlobals "Places" = some (some (.ref C))) (pg : PySem.W.plainGet K C Str.empty = true) (hd : PySem.W.hasDictIn K C = true) (po : PySem.W.plainOver K C = true) (sa : PySem.W.findIn K (.ref C) "__setattr__" = some (some (.builtin "object.__setattr__")))
    (n1 : PySem.W.findIn K (.ref C) "many" = some none) (n2 : PySem.W.findIn K (.ref C) "last" = some none) (n3 : PySem.W.findIn K (.ref C) "text" = some none) (n4 : PySem.W.findIn K (.ref C) "ways" = some none) (n5 : PySem.W.findIn K (.ref C) "backs" = some none) : PlC K mg C :=
  ⟨⟨pg, hd, po, sa⟩, n1, n2, n3, n4, n5, PySem.W.mg_of X G aC⟩
end
end Oh

set_option maxHeartbeats 8000000
/-! Oh, part 38: all defs joined -/
namespace Oh
open PySem PySem.Spec PyProof.Rows L2
open Evl (Ex)
structure Tops (K : PySem.W.Frag) (mg : Str → Option Value) (w : World) (C : Addr) : Prop where
  std : Std mg
  cst : Cst K mg w
  pl : PlC K mg C
  makes : PySem.W.makesIn K C = true
  kp : PySem.W.keepIn K (.ref C) = true
  signs : SrcD K mg "signs_of" sSigns ["kind", "is_asked"] [.bl true]
  s_is_word : Src K mg "is_word" sIsWord ["value", "word", "size"]
  s_is_kind : Src K mg "is_kind" sIsKind ["value"]
  s_arguments_of : Src K mg "arguments_of" sArgs ["kind"]
  s_many_ends : Src K mg "many_ends" sMany ["kind"]
  s_add_parts : Src K mg "add_parts" sAdd ["kind", "first", "found"]
  s_parts_of_ends : Src K mg "parts_of_ends" sParts ["kind"]
  s_is_text : Src K mg "is_text" sIsText ["value"]
  s_is_letter : Src K mg "is_letter" sIsLetter ["value"]
  s_is_name : Src K mg "is_name" sIsName ["value"]
  s_parts_of : Src K mg "parts_of" sPartsOf ["node"]
  s_is_node : Src K mg "is_node" sIsNode ["value"]
  s_is_built : Src K mg "is_built" sBuilt ["value"]
  s_uses : Src K mg "uses" sUses ["node"]
  s_is_term : Src K mg "is_term" sIsTerm ["value"]
  s_with_name : Src K mg "with_name" sWith ["names", "name", "item"]
  s_kind_in : Src K mg "kind_in" sKindIn ["node", "names"]
  s_has_kind : Src K mg "has_kind" sHas ["value", "kind"]
  s_named_links : Src K mg "named_links" sNamed ["name", "kind"]
  s_moved_port : Src K mg "moved_port" sMovedP ["port", "moves"]
  s_moved_links : Src K mg "moved_links" sMovedL ["links", "moves"]
  s_is_inner : Src K mg "is_inner" sInner ["port", "half", "first", "room"]
  s_outer : Src K mg "outer" sOuter ["port", "half", "first", "room"]
  s_walk_ports : Src K mg "walk_ports" sWalkP ["halves", "half", "port", "first", "room"]
  s_joined_links : Src K mg "joined_links" sJoined ["one", "other", "first", "room"]
  s_links_of : Src K mg "links_of" sLinks ["term", "names"]
  s_first_of : Src K mg "first_of" sFirst ["link"]
  s_pruned : Src K mg "pruned" sPruned ["kind", "links"]
  s_table_of : Src K mg "table_of" sTable ["term"]
  s_are_steps : Src K mg "are_steps" sSteps ["value"]
  s_is_frame : Src K mg "is_frame" sFrame ["value", "word"]
  s_is_program : Src K mg "is_program" sProg ["value"]
  s_need_program : Src K mg "need_program" sNeedP ["value"]
  s_letters_of : Src K mg "letters_of" sLettersOf ["frame"]
  s_need_read : Src K mg "need_read" sNeedR ["frame", "text"]
  s_tables_of : Src K mg "tables_of" sTables ["program"]
  s_links_in : Src K mg "links_in" sLinksIn ["table"]
  s_goals_in : Src K mg "goals_in" sGoals ["links"]
  s_walked : Src K mg "walked" sWalked ["head", "text"]
  s_run : Src K mg "run" sRun ["program", "text"]
  s_walk : Src K mg "walk" sWalk ["program", "text"]
  s_law_begun : Src K mg "_law_begun" sBegun ["_law_script"]
  s_law_blended : Src K mg "_law_blended" sBlended ["_law_state"]
  s_law_draw : Src K mg "_law_draw" sDraw ["_law_state", "_law_room"]
  s_law_pick : Src K mg "_law_pick" sPick ["_law_state", "_law_some"]
  s_law_mirror : Src K mg "_law_mirror" sMir ["_law_letters_here", "_law_is_twice"]
  s_law_lettered : Src K mg "_law_lettered" sLtr ["_law_words"]
  s_law_tail : Src K mg "_law_tail" sTai ["_law_letters_here", "_law_stop"]
  s_law : Src K mg "law" sLaw ["_law_script"]
  m__init__ : SrcM K C "__init__" "Places.__init__" sPInit ["self", "head", "text"]
  mcalled : SrcM K C "called" "Places.called" sCalled ["self", "place"]
  mlink : SrcM K C "link" "Places.link" sLink ["self", "place", "end"]
  mlead : SrcM K C "lead" "Places.lead" sLead ["self", "place", "goal"]
theorem tops_mk {K : PySem.W.Frag} {mg : Str → Option Value} {w : World} {C : Addr} (std : Std mg) (cst : Cst K mg w) (pl : PlC K mg C) (makes : PySem.W.makesIn K C = true) (kp : PySem.W.keepIn K (.ref C) = true) (signs : SrcD K mg "signs_of" sSigns ["kind", "is_asked"] [.bl true]) (s_is_word : Src K mg "is_word" sIsWord ["value", "word", "size"]) (s_is_kind : Src K mg "is_kind" sIsKind ["value"]) (s_arguments_of : Src K mg "arguments_of" sArgs ["kind"]) (s_many_ends : Src K mg "many_ends" sMany ["kind"]) (s_add_parts : Src K mg "add_parts" sAdd ["kind", "first", "found"]) (s_parts_of_ends : Src K mg "parts_of_ends" sParts ["kind"]) (s_is_text : Src K mg "is_text" sIsText ["value"]) (s_is_letter : Src K mg "is_letter" sIsLetter ["value"]) (s_is_name : Src K mg "is_name" sIsName ["value"]) (s_parts_of : Src K mg "parts_of" sPartsOf ["node"]) (s_is_node : Src K mg "is_node" sIsNode ["value"]) (s_is_built : Src K mg "is_built" sBuilt ["value"]) (s_uses : Src K mg "uses" sUses ["node"]) (s_is_term : Src K mg "is_term" sIsTerm ["value"]) (s_with_name : Src K mg "with_name" sWith ["names", "name", "item"]) (s_kind_in : Src K mg "kind_in" sKindIn ["node", "names"]) (s_has_kind : Src K mg "has_kind" sHas ["value", "kind"]) (s_named_links : Src K mg "named_links" sNamed ["name", "kind"]) (s_moved_port : Src K mg "moved_port" sMovedP ["port", "moves"]) (s_moved_links : Src K mg "moved_links" sMovedL ["links", "moves"]) (s_is_inner : Src K mg "is_inner" sInner ["port", "half", "first", "room"]) (s_outer : Src K mg "outer" sOuter ["port", "half", "first", "room"]) (s_walk_ports : Src K mg "walk_ports" sWalkP ["halves", "half", "port", "first", "room"]) (s_joined_links : Src K mg "joined_links" sJoined ["one", "other", "first", "room"]) (s_links_of : Src K mg "links_of" sLinks ["term", "names"]) (s_first_of : Src K mg "first_of" sFirst ["link"]) (s_pruned : Src K mg "pruned" sPruned ["kind", "links"]) (s_table_of : Src K mg "table_of" sTable ["term"]) (s_are_steps : Src K mg "are_steps" sSteps ["value"]) (s_is_frame : Src K mg "is_frame" sFrame ["value", "word"]) (s_is_program : Src K mg "is_program" sProg ["value"]) (s_need_program : Src K mg "need_program" sNeedP ["value"]) (s_letters_of : Src K mg "letters_of" sLettersOf ["frame"]) (s_need_read : Src K mg "need_read" sNeedR ["frame", "text"]) (s_tables_of : Src K mg "tables_of" sTables ["program"]) (s_links_in : Src K mg "links_in" sLinksIn ["table"]) (s_goals_in : Src K mg "goals_in" sGoals ["links"]) (s_walked : Src K mg "walked" sWalked ["head", "text"]) (s_run : Src K mg "run" sRun ["program", "text"]) (s_walk : Src K mg "walk" sWalk ["program", "text"]) (s_law_begun : Src K mg "_law_begun" sBegun ["_law_script"]) (s_law_blended : Src K mg "_law_blended" sBlended ["_law_state"]) (s_law_draw : Src K mg "_law_draw" sDraw ["_law_state", "_law_room"]) (s_law_pick : Src K mg "_law_pick" sPick ["_law_state", "_law_some"]) (s_law_mirror : Src K mg "_law_mirror" sMir ["_law_letters_here", "_law_is_twice"]) (s_law_lettered : Src K mg "_law_lettered" sLtr ["_law_words"]) (s_law_tail : Src K mg "_law_tail" sTai ["_law_letters_here", "_law_stop"]) (s_law : Src K mg "law" sLaw ["_law_script"]) (m__init__ : SrcM K C "__init__" "Places.__init__" sPInit ["self", "head", "text"]) (mcalled : SrcM K C "called" "Places.called" sCalled ["self", "place"]) (mlink : SrcM K C "link" "Places.link" sLink ["self", "place", "end"]) (mlead : SrcM K C "lead" "Places.lead" sLead ["self", "place", "goal"]) : ∃ C : Addr, Tops K mg w C := ⟨C, ⟨std, cst, pl, makes, kp, signs, s_is_word, s_is_kind, s_arguments_of, s_many_ends, s_add_parts, s_parts_of_ends, s_is_text, s_is_letter, s_is_name, s_parts_of, s_is_node, s_is_built, s_uses, s_is_term, s_with_name, s_kind_in, s_has_kind, s_named_links, s_moved_port, s_moved_links, s_is_inner, s_outer, s_walk_ports, s_joined_links, s_links_of, s_first_of, s_pruned, s_table_of, s_are_steps, s_is_frame, s_is_program, s_need_program, s_letters_of, s_need_read, s_tables_of, s_links_in, s_goals_in, s_walked, s_run, s_walk, s_law_begun, s_law_blended, s_law_draw, s_law_pick, s_law_mirror, s_law_lettered, s_law_tail, s_law, m__init__, mcalled, mlink, mlead⟩⟩
theorem tops_law {P : Program} {w : World} {K : PySem.W.Frag} {mg : Str → Option Value} {base : Heap} {C : Addr} (T : Tops K mg w C) {f : Addr} {fd : FuncData} (F : Fun K "law" "law" sLaw f fd) : FnOk P w K mg base CX0 37 f fd ["_law_script"] (spLaw K) := by
  have B := T.std
  have C1 := T.cst
  have k_word : Kn P w K mg base _ _ _ _ := kn_is_word B T.s_is_word
  have k_kind : Kn P w K mg base _ _ _ _ := kn_is_kind B C1.most60 k_word T.s_is_kind
  have k_args : Kn P w K mg base _ _ _ _ := kn_args B T.s_arguments_of
  have k_many := kn_many B k_args T.s_many_ends
  have k_many10 : Kn P w K mg base "many_ends" 11 ["kind"] (spMany K 10) := k_many 10
  have k_add := kn_add B k_args k_many T.s_add_parts
  have k_parts : Kn P w K mg base "parts_of_ends" 13 ["kind"] (spParts K 10) := kn_parts B 10 (k_add 10) T.s_parts_of_ends
  have k_text : Kn P w K mg base _ _ _ _ := kn_is_text B C1 T.s_is_text
  have k_letter := kn_is_letter B k_text T.s_is_letter
  have k_name := kn_is_name B C1 k_text T.s_is_name
  have k_pof : Kn P w K mg base _ _ _ _ := kn_parts_of T.s_parts_of
  have k_node := kn_is_node B C1 k_name k_kind k_letter T.s_is_node
  have k_built := kn_built C1 k_node k_pof T.s_is_built
  have k_uses : Kn P w K mg base "uses" 21 ["node"] (spUses K 20) := kn_uses B k_pof T.s_uses 20
  have k_term := kn_is_term k_built k_uses T.s_is_term
  have k_with : Kn P w K mg base _ _ _ _ := kn_with B T.s_with_name
  have k_kindin : Kn P w K mg base "kind_in" 22 ["node", "names"] (spKindIn K 20) := kn_kind_in C1 k_with k_kind T.s_kind_in 20
  have k_has := kn_has k_term k_kindin T.s_has_kind
  have k_signs : KnD P w K mg base "signs_of" 11 ["kind", "is_asked"] (spSigns K 10) [.bl true] := knd_signs T.signs 10
  have k_named : Kn P w K mg base "named_links" 12 ["name", "kind"] (spNamed K 10) := kn_named B C1 10 k_signs T.s_named_links
  have k_mp : Kn P w K mg base _ _ _ _ := kn_moved_port T.s_moved_port
  have k_ml := kn_moved_links k_mp T.s_moved_links
  have k_inner : Kn P w K mg base _ _ _ _ := kn_inner C1 T.s_is_inner
  have k_outer : Kn P w K mg base _ _ _ _ := kn_outer C1 T.s_outer
  have k_wp := kn_walk_ports C1 k_inner k_outer T.s_walk_ports
  have k_joined := kn_joined k_inner k_outer k_wp T.s_joined_links
  have k_links : Kn P w K mg base "links_of" 33 ["term", "names"] (spLinks K 20) := kn_links B C1 k_named k_many10 k_ml k_joined T.s_links_of 20
  have k_pruned := kn_pruned B C1 k_parts k_many10 T.s_first_of T.s_pruned
  have k_table := kn_table k_links k_pruned T.s_table_of
  have k_steps := kn_steps B C1 k_letter T.s_are_steps
  have k_frame := kn_frame B C1 k_kind k_many10 k_steps T.s_is_frame
  have k_prog := kn_prog B C1 k_frame k_has T.s_is_program
  have k_needp := kn_need_p k_prog T.s_need_program
  have k_lof : Kn P w K mg base _ _ _ _ := kn_letters_of T.s_letters_of
  have k_needr := kn_need_r B k_text k_lof T.s_need_read
  have k_tables := kn_tables B k_table T.s_tables_of
  have k_lin : Kn P w K mg base _ _ _ _ := kn_links_in B T.s_links_in
  have k_goals : Kn P w K mg base _ _ _ _ := kn_goals B T.s_goals_in
  have m_init := kn_pinit B T.pl k_many10 k_lin k_goals T.m__init__
  have m_called : KnM P w K mg base C _ _ _ _ := kn_called T.pl T.mcalled
  have m_link := kn_link T.pl m_called T.mlink
  have m_lead : KnM P w K mg base C _ _ _ _ := kn_lead T.pl T.mlead
  have k_walked := kn_walked B T.pl T.makes T.kp m_init k_many10 m_link m_lead T.s_walked
  have k_run := kn_run k_needp k_needr k_tables k_walked T.s_run
  have k_walk := kn_walk k_needp k_needr k_tables k_walked T.s_walk
  have k_begun : Kn P w K mg base _ _ _ _ := kn_begun B T.s_law_begun
  have k_blended : Kn P w K mg base _ _ _ _ := kn_blended B T.s_law_blended
  have k_draw := kn_draw B k_blended T.s_law_draw
  have k_pick := kn_pick B k_draw T.s_law_pick
  have k_mir : Kn P w K mg base _ _ _ _ := kn_mir B T.s_law_mirror
  have k_ltr : Kn P w K mg base _ _ _ _ := kn_ltr B T.s_law_lettered
  have k_tai : Kn P w K mg base _ _ _ _ := kn_tai B T.s_law_tail
  exact ok_law B k_begun k_draw k_pick k_mir k_ltr k_tai k_run k_walk F
theorem walk_end {l : PySem.W.OpenLaw} {q : Program} {loose : List Str} {XP : (Str → Option Value) → Heap → Prop} {YP : World → Heap → Prop} {d : DefRec} {K : Params → PySem.W.Frag} (hn : l.most = some 63) (hdf : d.params.defaults = [])
    (hY : ∀ (w : World) (h : Heap), YP w h → (K w.params).In h)
    (F : ∀ (w : World) (mg : Str → Option Value) (fa : Addr) (h : Heap), (K w.params).In h → h.Ns mainGlobals mg → mg d.name = some (.ref fa) → mg "law" = some (.ref fa) ∧ ∃ C : Addr, Tops (K w.params) mg w C) :
    PySem.W.WalkO q loose XP YP l.row.toRowW d [] (fun f vs => PySem.call f vs) :=
  L2.walk_of (n := 63) (k := 37) (x := "_law_script") (CX := fun _ => CX0) (sp := fun w => spLaw (K w.params)) hn (by decide) hdf ⟨rfl, by decide, by decide⟩ hY (fun w mg fa h KX G hm => by
    obtain ⟨hl, C, T⟩ := F w mg fa h KX G hm
    obtain ⟨f, fd, FF, m, b⟩ := T.s_law.ex
    have e : fa = f := by
      have := hl.symm.trans m
      cases this
      rfl
    subst e
    obtain ⟨oc, od, kV, doc, pm, an, cdv, ct, osl, rfl, lk, hcd⟩ := FF.ex
    exact ⟨_, fun s u => .of_eq rfl, fun base _ _ => tops_law T FF⟩) (fun _ _ a ns hl _ hS => ⟨a, ns, rfl, hS, hl, fun _ => rfl⟩) fun _ _ _ _ _ z => z
end Oh

open PySem PySem.W PyProof.Rows
set_option maxRecDepth 100000 in
set_option maxHeartbeats 0 in
theorem PySem.Challenge.cw_oneuseheads_k13_whole_known_programs_holds : PySem.Challenge.rw_oneuseheads_k13_whole_known_programs.Holds := by
  w_on; o_law; k_head; (case hw => w_witness2)
  k_fill
  refine Oh.walk_end (l := PySem.Challenge.rw_oneuseheads_k13_whole_known_programs) rfl rfl (fun w h Y => PySem.W.kIn_of Y) ?F
  case F =>
    intro w mg fa h KX G hmg
    refine' ⟨hmg, Oh.tops_mk ?std ?cst ?pl ?makes ?kp ?signs ?s_is_word ?s_is_kind ?s_arguments_of ?s_many_ends ?s_add_parts ?s_parts_of_ends ?s_is_text ?s_is_letter ?s_is_name ?s_parts_of ?s_is_node ?s_is_built ?s_uses ?s_is_term ?s_with_name ?s_kind_in ?s_has_kind ?s_named_links ?s_moved_port ?s_moved_links ?s_is_inner ?s_outer ?s_walk_ports ?s_joined_links ?s_links_of ?s_first_of ?s_pruned ?s_table_of ?s_are_steps ?s_is_frame ?s_is_program ?s_need_program ?s_letters_of ?s_need_read ?s_tables_of ?s_links_in ?s_goals_in ?s_walked ?s_run ?s_walk ?s_law_begun ?s_law_blended ?s_law_draw ?s_law_pick ?s_law_mirror ?s_law_lettered ?s_law_tail ?s_law ?m__init__ ?mcalled ?mlink ?mlead⟩
    case std => (refine' Oh.std_mk KX G ?z1 ?z2 ?z3 ?z4 ?z5 ?z6 ?z7 ?z8 ?z9 ?z10 ?z11 ?z12 ?z13 ?z14 ?z15; (case z1 => k_is); (case z2 => k_is); (case z3 => k_is); (case z4 => k_is); (case z5 => k_is); (case z6 => k_is); (case z7 => k_is); (case z8 => k_is); (case z9 => k_is); (case z10 => k_is); (case z11 => k_is); (case z12 => k_is); (case z13 => k_is); (case z14 => k_is); (case z15 => k_is))
    case cst => (refine' Oh.cst_mk KX G ?e1 ?e2 ?e3 ?e4 ?e5 ?e6 ?eT ?lT ?eK ?lK ?eS ?lS ?lit ?low ?n1 ?n2 ?n3 ?n4 ?n5; (case e1 => k_is); (case e2 => k_is); (case e3 => k_is); (case e4 => k_is); (case e5 => k_is); (case e6 => k_is); (case eT => k_is); (case lT => k_is); (case eK => k_is); (case lK => k_is); (case eS => k_is); (case lS => k_is); (case lit => exact ⟨⟨_, _, rfl, rfl⟩, ⟨_, _, rfl, rfl⟩, ⟨_, _, rfl, rfl⟩, ⟨_, _, rfl, rfl⟩, ⟨_, _, rfl, rfl⟩, trivial⟩); (case low => decide); (case n1 => k_is); (case n2 => k_is); (case n3 => k_is); (case n4 => k_is); (case n5 => k_is))
    case pl => (refine' Oh.pl_mk KX G ?aC ?pg ?hd ?po ?sa ?n1 ?n2 ?n3 ?n4 ?n5; (case aC => k_is); (case pg => k_is); (case hd => k_is); (case po => k_is); (case sa => k_is); (case n1 => k_is); (case n2 => k_is); (case n3 => k_is); (case n4 => k_is); (case n5 => k_is))
    case makes => k_is
    case kp => k_is
    case signs => (refine' Oh.signs_mk2 KX G ?a ?l ?t ?c ?k; (case a => k_is); (case l => k_is); (case t => k_is); (case c => k_is); (case k => k_is))
    case s_is_word => (refine' Oh.src_mk KX G (fun _ _ _ _ _ _ us hl => match us, hl with | [_, _, _], _ => rfl) ?a ?l ?c ?k; (case a => k_is); (case l => k_is); (case c => k_is); (case k => k_is))
    case s_is_kind => (refine' Oh.src_mk KX G (fun _ _ _ _ _ _ us hl => match us, hl with | [_], _ => rfl) ?a ?l ?c ?k; (case a => k_is); (case l => k_is); (case c => k_is); (case k => k_is))
    case s_arguments_of => (refine' Oh.src_mk KX G (fun _ _ _ _ _ _ us hl => match us, hl with | [_], _ => rfl) ?a ?l ?c ?k; (case a => k_is); (case l => k_is); (case c => k_is); (case k => k_is))
    case s_many_ends => (refine' Oh.src_mk KX G (fun _ _ _ _ _ _ us hl => match us, hl with | [_], _ => rfl) ?a ?l ?c ?k; (case a => k_is); (case l => k_is); (case c => k_is); (case k => k_is))
    case s_add_parts => (refine' Oh.src_mk KX G (fun _ _ _ _ _ _ us hl => match us, hl with | [_, _, _], _ => rfl) ?a ?l ?c ?k; (case a => k_is); (case l => k_is); (case c => k_is); (case k => k_is))
    case s_parts_of_ends => (refine' Oh.src_mk KX G (fun _ _ _ _ _ _ us hl => match us, hl with | [_], _ => rfl) ?a ?l ?c ?k; (case a => k_is); (case l => k_is); (case c => k_is); (case k => k_is))
    case s_is_text => (refine' Oh.src_mk KX G (fun _ _ _ _ _ _ us hl => match us, hl with | [_], _ => rfl) ?a ?l ?c ?k; (case a => k_is); (case l => k_is); (case c => k_is); (case k => k_is))
    case s_is_letter => (refine' Oh.src_mk KX G (fun _ _ _ _ _ _ us hl => match us, hl with | [_], _ => rfl) ?a ?l ?c ?k; (case a => k_is); (case l => k_is); (case c => k_is); (case k => k_is))
    case s_is_name => (refine' Oh.src_mk KX G (fun _ _ _ _ _ _ us hl => match us, hl with | [_], _ => rfl) ?a ?l ?c ?k; (case a => k_is); (case l => k_is); (case c => k_is); (case k => k_is))
    case s_parts_of => (refine' Oh.src_mk KX G (fun _ _ _ _ _ _ us hl => match us, hl with | [_], _ => rfl) ?a ?l ?c ?k; (case a => k_is); (case l => k_is); (case c => k_is); (case k => k_is))
    case s_is_node => (refine' Oh.src_mk KX G (fun _ _ _ _ _ _ us hl => match us, hl with | [_], _ => rfl) ?a ?l ?c ?k; (case a => k_is); (case l => k_is); (case c => k_is); (case k => k_is))
    case s_is_built => (refine' Oh.src_mk KX G (fun _ _ _ _ _ _ us hl => match us, hl with | [_], _ => rfl) ?a ?l ?c ?k; (case a => k_is); (case l => k_is); (case c => k_is); (case k => k_is))
    case s_uses => (refine' Oh.src_mk KX G (fun _ _ _ _ _ _ us hl => match us, hl with | [_], _ => rfl) ?a ?l ?c ?k; (case a => k_is); (case l => k_is); (case c => k_is); (case k => k_is))
    case s_is_term => (refine' Oh.src_mk KX G (fun _ _ _ _ _ _ us hl => match us, hl with | [_], _ => rfl) ?a ?l ?c ?k; (case a => k_is); (case l => k_is); (case c => k_is); (case k => k_is))
    case s_with_name => (refine' Oh.src_mk KX G (fun _ _ _ _ _ _ us hl => match us, hl with | [_, _, _], _ => rfl) ?a ?l ?c ?k; (case a => k_is); (case l => k_is); (case c => k_is); (case k => k_is))
    case s_kind_in => (refine' Oh.src_mk KX G (fun _ _ _ _ _ _ us hl => match us, hl with | [_, _], _ => rfl) ?a ?l ?c ?k; (case a => k_is); (case l => k_is); (case c => k_is); (case k => k_is))
    case s_has_kind => (refine' Oh.src_mk KX G (fun _ _ _ _ _ _ us hl => match us, hl with | [_, _], _ => rfl) ?a ?l ?c ?k; (case a => k_is); (case l => k_is); (case c => k_is); (case k => k_is))
    case s_named_links => (refine' Oh.src_mk KX G (fun _ _ _ _ _ _ us hl => match us, hl with | [_, _], _ => rfl) ?a ?l ?c ?k; (case a => k_is); (case l => k_is); (case c => k_is); (case k => k_is))
    case s_moved_port => (refine' Oh.src_mk KX G (fun _ _ _ _ _ _ us hl => match us, hl with | [_, _], _ => rfl) ?a ?l ?c ?k; (case a => k_is); (case l => k_is); (case c => k_is); (case k => k_is))
    case s_moved_links => (refine' Oh.src_mk KX G (fun _ _ _ _ _ _ us hl => match us, hl with | [_, _], _ => rfl) ?a ?l ?c ?k; (case a => k_is); (case l => k_is); (case c => k_is); (case k => k_is))
    case s_is_inner => (refine' Oh.src_mk KX G (fun _ _ _ _ _ _ us hl => match us, hl with | [_, _, _, _], _ => rfl) ?a ?l ?c ?k; (case a => k_is); (case l => k_is); (case c => k_is); (case k => k_is))
    case s_outer => (refine' Oh.src_mk KX G (fun _ _ _ _ _ _ us hl => match us, hl with | [_, _, _, _], _ => rfl) ?a ?l ?c ?k; (case a => k_is); (case l => k_is); (case c => k_is); (case k => k_is))
    case s_walk_ports => (refine' Oh.src_mk KX G (fun _ _ _ _ _ _ us hl => match us, hl with | [_, _, _, _, _], _ => rfl) ?a ?l ?c ?k; (case a => k_is); (case l => k_is); (case c => k_is); (case k => k_is))
    case s_joined_links => (refine' Oh.src_mk KX G (fun _ _ _ _ _ _ us hl => match us, hl with | [_, _, _, _], _ => rfl) ?a ?l ?c ?k; (case a => k_is); (case l => k_is); (case c => k_is); (case k => k_is))
    case s_links_of => (refine' Oh.src_mk KX G (fun _ _ _ _ _ _ us hl => match us, hl with | [_, _], _ => rfl) ?a ?l ?c ?k; (case a => k_is); (case l => k_is); (case c => k_is); (case k => k_is))
    case s_first_of => (refine' Oh.src_mk KX G (fun _ _ _ _ _ _ us hl => match us, hl with | [_], _ => rfl) ?a ?l ?c ?k; (case a => k_is); (case l => k_is); (case c => k_is); (case k => k_is))
    case s_pruned => (refine' Oh.src_mk KX G (fun _ _ _ _ _ _ us hl => match us, hl with | [_, _], _ => rfl) ?a ?l ?c ?k; (case a => k_is); (case l => k_is); (case c => k_is); (case k => k_is))
    case s_table_of => (refine' Oh.src_mk KX G (fun _ _ _ _ _ _ us hl => match us, hl with | [_], _ => rfl) ?a ?l ?c ?k; (case a => k_is); (case l => k_is); (case c => k_is); (case k => k_is))
    case s_are_steps => (refine' Oh.src_mk KX G (fun _ _ _ _ _ _ us hl => match us, hl with | [_], _ => rfl) ?a ?l ?c ?k; (case a => k_is); (case l => k_is); (case c => k_is); (case k => k_is))
    case s_is_frame => (refine' Oh.src_mk KX G (fun _ _ _ _ _ _ us hl => match us, hl with | [_, _], _ => rfl) ?a ?l ?c ?k; (case a => k_is); (case l => k_is); (case c => k_is); (case k => k_is))
    case s_is_program => (refine' Oh.src_mk KX G (fun _ _ _ _ _ _ us hl => match us, hl with | [_], _ => rfl) ?a ?l ?c ?k; (case a => k_is); (case l => k_is); (case c => k_is); (case k => k_is))
    case s_need_program => (refine' Oh.src_mk KX G (fun _ _ _ _ _ _ us hl => match us, hl with | [_], _ => rfl) ?a ?l ?c ?k; (case a => k_is); (case l => k_is); (case c => k_is); (case k => k_is))
    case s_letters_of => (refine' Oh.src_mk KX G (fun _ _ _ _ _ _ us hl => match us, hl with | [_], _ => rfl) ?a ?l ?c ?k; (case a => k_is); (case l => k_is); (case c => k_is); (case k => k_is))
    case s_need_read => (refine' Oh.src_mk KX G (fun _ _ _ _ _ _ us hl => match us, hl with | [_, _], _ => rfl) ?a ?l ?c ?k; (case a => k_is); (case l => k_is); (case c => k_is); (case k => k_is))
    case s_tables_of => (refine' Oh.src_mk KX G (fun _ _ _ _ _ _ us hl => match us, hl with | [_], _ => rfl) ?a ?l ?c ?k; (case a => k_is); (case l => k_is); (case c => k_is); (case k => k_is))
    case s_links_in => (refine' Oh.src_mk KX G (fun _ _ _ _ _ _ us hl => match us, hl with | [_], _ => rfl) ?a ?l ?c ?k; (case a => k_is); (case l => k_is); (case c => k_is); (case k => k_is))
    case s_goals_in => (refine' Oh.src_mk KX G (fun _ _ _ _ _ _ us hl => match us, hl with | [_], _ => rfl) ?a ?l ?c ?k; (case a => k_is); (case l => k_is); (case c => k_is); (case k => k_is))
    case s_walked => (refine' Oh.src_mk KX G (fun _ _ _ _ _ _ us hl => match us, hl with | [_, _], _ => rfl) ?a ?l ?c ?k; (case a => k_is); (case l => k_is); (case c => k_is); (case k => k_is))
    case s_run => (refine' Oh.src_mk KX G (fun _ _ _ _ _ _ us hl => match us, hl with | [_, _], _ => rfl) ?a ?l ?c ?k; (case a => k_is); (case l => k_is); (case c => k_is); (case k => k_is))
    case s_walk => (refine' Oh.src_mk KX G (fun _ _ _ _ _ _ us hl => match us, hl with | [_, _], _ => rfl) ?a ?l ?c ?k; (case a => k_is); (case l => k_is); (case c => k_is); (case k => k_is))
    case s_law_begun => (refine' Oh.src_mk KX G (fun _ _ _ _ _ _ us hl => match us, hl with | [_], _ => rfl) ?a ?l ?c ?k; (case a => k_is); (case l => k_is); (case c => k_is); (case k => k_is))
    case s_law_blended => (refine' Oh.src_mk KX G (fun _ _ _ _ _ _ us hl => match us, hl with | [_], _ => rfl) ?a ?l ?c ?k; (case a => k_is); (case l => k_is); (case c => k_is); (case k => k_is))
    case s_law_draw => (refine' Oh.src_mk KX G (fun _ _ _ _ _ _ us hl => match us, hl with | [_, _], _ => rfl) ?a ?l ?c ?k; (case a => k_is); (case l => k_is); (case c => k_is); (case k => k_is))
    case s_law_pick => (refine' Oh.src_mk KX G (fun _ _ _ _ _ _ us hl => match us, hl with | [_, _], _ => rfl) ?a ?l ?c ?k; (case a => k_is); (case l => k_is); (case c => k_is); (case k => k_is))
    case s_law_mirror => (refine' Oh.src_mk KX G (fun _ _ _ _ _ _ us hl => match us, hl with | [_, _], _ => rfl) ?a ?l ?c ?k; (case a => k_is); (case l => k_is); (case c => k_is); (case k => k_is))
    case s_law_lettered => (refine' Oh.src_mk KX G (fun _ _ _ _ _ _ us hl => match us, hl with | [_], _ => rfl) ?a ?l ?c ?k; (case a => k_is); (case l => k_is); (case c => k_is); (case k => k_is))
    case s_law_tail => (refine' Oh.src_mk KX G (fun _ _ _ _ _ _ us hl => match us, hl with | [_, _], _ => rfl) ?a ?l ?c ?k; (case a => k_is); (case l => k_is); (case c => k_is); (case k => k_is))
    case s_law => (refine' Oh.src_mk KX G (fun _ _ _ _ _ _ us hl => match us, hl with | [_], _ => rfl) ?a ?l ?c ?k; (case a => k_is); (case l => k_is); (case c => k_is); (case k => k_is))
    case m__init__ => (refine' Oh.srcM_mk (fun _ _ _ _ _ _ us hl => match us, hl with | [_, _, _], _ => rfl) ?a ?i ?l ?c ?k; (case a => k_is); (case i => k_is); (case l => k_is); (case c => k_is); (case k => k_is))
    case mcalled => (refine' Oh.srcM_mk (fun _ _ _ _ _ _ us hl => match us, hl with | [_, _], _ => rfl) ?a ?i ?l ?c ?k; (case a => k_is); (case i => k_is); (case l => k_is); (case c => k_is); (case k => k_is))
    case mlink => (refine' Oh.srcM_mk (fun _ _ _ _ _ _ us hl => match us, hl with | [_, _, _], _ => rfl) ?a ?i ?l ?c ?k; (case a => k_is); (case i => k_is); (case l => k_is); (case c => k_is); (case k => k_is))
    case mlead => (refine' Oh.srcM_mk (fun _ _ _ _ _ _ us hl => match us, hl with | [_, _, _], _ => rfl) ?a ?i ?l ?c ?k; (case a => k_is); (case i => k_is); (case l => k_is); (case c => k_is); (case k => k_is))
