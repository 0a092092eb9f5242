import PyProof.Rows.All
import Wide.All
import OpenK.AllK
import Wide.FinOn
import HandS.ForMost
import HandS.ForExc
import HandS.Deep
import HandS.IsInst
import HandS.Wide
import HandS.Evl
import HandS.TupAny
import HandS.Conv
import HandS.More
import HandS.WideBits
import HandS.DictComp
import HandS.DeepEq
import PySem.Challenge.RW_slotfitter_k08_rows_that_stand
set_option Elab.async false
set_option linter.all false
set_option maxRecDepth 100000
set_option maxHeartbeats 4000000
/-! A layer of data over HandS: data D, what stands for it (Rp), states of known slots (Sl), evaluation (EvV, EvW, EvO), statements (Sv). -/
namespace Sf
open PySem PySem.Spec PyProof.Rows L2
abbrev Ex := Evl.Ex
abbrev SS := L2.St
/-- data -/
inductive D where
  | non | bl (b : Bool) | int (i : Int) | str (x : Str)
  | lst (ds : List D) | tup (ds : List D) | ktup (ds : List D) | scr (ns : List Int)
  | dk (kvs : List (Key × D)) | dt (kvs : List (List Key × D))
abbrev sOk (x : Str) : Prop := PyData.strOk x = true
mutual
inductive Rp (K : PySem.W.Frag) (H : Hp) : V → D → Prop
  | non : Rp K H .non .non
  | bl (b : Bool) : Rp K H (.bl b) (.bl b)
  | int (i : Int) : Rp K H (.int i) (.int i)
  | str (x : Str) (h : sOk x) : Rp K H (.str x) (.str x)
  | lst {a : Addr} {xs : List V} {ds : List D} : H a = some (.lst xs) → RpA K H xs ds → Rp K H (.ref a) (.lst ds)
  | scr {a : Addr} {ns : List Int} : SqL K H a (ns.map V.int) → Rp K H (.ref a) (.scr ns)
  | tup {a : Addr} {xs : List V} {ds : List D} : H a = some (.tup xs) → RpA K H xs ds → Rp K H (.ref a) (.tup ds)
  | ktup {a : Addr} {xs : List V} {ds : List D} : SqT K H a xs → RpA K H xs ds → Rp K H (.ref a) (.ktup ds)
  | dk {a : Addr} {xs : List (Key × V)} {kvs : List (Key × D)} : H a = some (.dK xs) → RpK K H xs kvs → Rp K H (.ref a) (.dk kvs)
  | dt {a : Addr} {xs : List (List Key × V)} {kvs : List (List Key × D)} : H a = some (.dT xs) → RpT K H xs kvs → Rp K H (.ref a) (.dt kvs)
inductive RpA (K : PySem.W.Frag) (H : Hp) : List V → List D → Prop
  | nil : RpA K H [] []
  | cons {v : V} {vs : List V} {d : D} {ds : List D} : Rp K H v d → RpA K H vs ds → RpA K H (v :: vs) (d :: ds)
inductive RpK (K : PySem.W.Frag) (H : Hp) : List (Key × V) → List (Key × D) → Prop
  | nil : RpK K H [] []
  | cons {k : Key} {v : V} {vs : List (Key × V)} {d : D} {ds : List (Key × D)} : Rp K H v d → RpK K H vs ds → RpK K H ((k, v) :: vs) ((k, d) :: ds)
inductive RpT (K : PySem.W.Frag) (H : Hp) : List (List Key × V) → List (List Key × D) → Prop
  | nil : RpT K H [] []
  | cons {k : List Key} {v : V} {vs : List (List Key × V)} {d : D} {ds : List (List Key × D)} : Rp K H v d → RpT K H vs ds → RpT K H ((k, v) :: vs) ((k, d) :: ds)
end
section
variable {K : PySem.W.Frag} {H H' : Hp}
mutual
theorem Rp.mono (e : Ex H H') : ∀ {v : V} {d : D}, Rp K H v d → Rp K H' v d
  | _, _, .non => .non
  | _, _, .bl b => .bl b
  | _, _, .int i => .int i
  | _, _, .str x h => .str x h
  | _, _, .lst s r => .lst (e _ _ s) (RpA.mono e r)
  | _, _, .scr s => .scr (Evl.ex_l e s)
  | _, _, .tup s r => .tup (e _ _ s) (RpA.mono e r)
  | _, _, .ktup s r => .ktup (Evl.ex_t e s) (RpA.mono e r)
  | _, _, .dk s r => .dk (e _ _ s) (RpK.mono e r)
  | _, _, .dt s r => .dt (e _ _ s) (RpT.mono e r)
theorem RpA.mono (e : Ex H H') : ∀ {v : List V} {d : List D}, RpA K H v d → RpA K H' v d
  | _, _, .nil => .nil
  | _, _, .cons r t => .cons (Rp.mono e r) (RpA.mono e t)
theorem RpK.mono (e : Ex H H') : ∀ {v : List (Key × V)} {d : List (Key × D)}, RpK K H v d → RpK K H' v d
  | _, _, .nil => .nil
  | _, _, .cons r t => .cons (Rp.mono e r) (RpK.mono e t)
theorem RpT.mono (e : Ex H H') : ∀ {v : List (List Key × V)} {d : List (List Key × D)}, RpT K H v d → RpT K H' v d
  | _, _, .nil => .nil
  | _, _, .cons r t => .cons (Rp.mono e r) (RpT.mono e t)
end
theorem RpA.length : ∀ {xs : List V} {ds : List D}, RpA K H xs ds → xs.length = ds.length
  | _, _, .nil => rfl
  | _, _, .cons _ t => by rw [List.length_cons, List.length_cons, RpA.length t]
theorem RpA.get : ∀ {xs : List V} {ds : List D} {i : Nat} {d : D}, RpA K H xs ds → ds[i]? = some d → ∃ v, xs[i]? = some v ∧ Rp K H v d
  | _, _, _, _, .nil, e => by simp at e
  | _, _, 0, _, .cons r _, e => by simp at e; subst e; exact ⟨_, rfl, r⟩
  | _, _, i + 1, d, .cons _ t, e => by
    obtain ⟨v, h1, h2⟩ := RpA.get (i := i) (d := d) t (by simpa using e)
    exact ⟨v, by simpa using h1, h2⟩
theorem RpA.getV : ∀ {xs : List V} {ds : List D} {i : Nat} {v : V}, RpA K H xs ds → xs[i]? = some v → ∃ d, ds[i]? = some d ∧ Rp K H v d
  | _, _, _, _, .nil, e => by simp at e
  | _, _, 0, _, .cons r _, e => by simp at e; subst e; exact ⟨_, rfl, r⟩
  | _, _, i + 1, d, .cons _ t, e => by
    obtain ⟨v, h1, h2⟩ := RpA.getV (i := i) (v := d) t (by simpa using e)
    exact ⟨v, by simpa using h1, h2⟩
theorem RpA.append : ∀ {xs ys : List V} {ds es : List D}, RpA K H xs ds → RpA K H ys es → RpA K H (xs ++ ys) (ds ++ es)
  | _, _, _, _, .nil, s => s
  | _, _, _, _, .cons r t, s => .cons r (RpA.append t s)
theorem RpA.set {x : V} {d : D} (r : Rp K H x d) : ∀ {xs : List V} {ds : List D} (i : Nat), RpA K H xs ds → RpA K H (xs.set i x) (ds.set i d)
  | _, _, _, .nil => .nil
  | _, _, 0, .cons _ t => .cons r t
  | _, _, i + 1, .cons q t => .cons q (RpA.set r i t)
theorem RpA.take : ∀ {xs : List V} {ds : List D} (n : Nat), RpA K H xs ds → RpA K H (xs.take n) (ds.take n)
  | _, _, 0, _ => .nil
  | _, _, _ + 1, .nil => .nil
  | _, _, n + 1, .cons r t => .cons r (RpA.take n t)
theorem RpA.drop : ∀ {xs : List V} {ds : List D} (n : Nat), RpA K H xs ds → RpA K H (xs.drop n) (ds.drop n)
  | _, _, 0, r => r
  | _, _, _ + 1, .nil => .nil
  | _, _, n + 1, .cons _ t => RpA.drop n t
theorem RpA.eraseIdx : ∀ {xs : List V} {ds : List D} (i : Nat), RpA K H xs ds → RpA K H (xs.eraseIdx i) (ds.eraseIdx i)
  | _, _, _, .nil => .nil
  | _, _, 0, .cons _ t => t
  | _, _, i + 1, .cons q t => .cons q (RpA.eraseIdx i t)
theorem RpA.dropLast : ∀ {xs : List V} {ds : List D}, RpA K H xs ds → RpA K H xs.dropLast ds.dropLast
  | _, _, .nil => .nil
  | _, _, .cons _ .nil => .nil
  | _, _, .cons r (.cons q t) => .cons r (RpA.dropLast (.cons q t))
theorem RpA.insertIdx {x : V} {d : D} (r : Rp K H x d) : ∀ {xs : List V} {ds : List D} (i : Nat), RpA K H xs ds → RpA K H (xs.insertIdx i x) (ds.insertIdx i d)
  | _, _, 0, t => .cons r t
  | _, _, _ + 1, .nil => .nil
  | _, _, i + 1, .cons q t => .cons q (RpA.insertIdx r i t)
theorem RpA.ints : ∀ {xs : List V} {ns : List Int}, RpA K H xs (ns.map D.int) → xs = ns.map V.int
  | xs, [], h => by cases h; rfl
  | xs, n :: r, h => by
    cases h with
    | cons a b => cases a; rw [RpA.ints b]; rfl
theorem RpA.of_ints : ∀ {ns : List Int}, RpA K H (ns.map V.int) (ns.map D.int)
  | [] => .nil
  | n :: r => .cons (.int n) RpA.of_ints
theorem RpA.strs : ∀ {xs : List V} {ns : List Str}, RpA K H xs (ns.map D.str) → xs = ns.map V.str ∧ ∀ x ∈ ns, sOk x
  | xs, [], h => by cases h; exact ⟨rfl, fun _ z => nomatch z⟩
  | xs, n :: r, h => by
    cases h with
    | cons a b =>
      cases a with
      | str _ ok =>
        obtain ⟨e, o⟩ := RpA.strs b
        subst e
        exact ⟨rfl, fun x hx => by rcases List.mem_cons.mp hx with rfl | hx; exact ok; exact o x hx⟩
theorem RpA.of_strs : ∀ {ns : List Str}, (∀ x ∈ ns, sOk x) → RpA K H (ns.map V.str) (ns.map D.str)
  | [], _ => .nil
  | n :: r, h => .cons (.str n (h n List.mem_cons_self)) (RpA.of_strs fun x hx => h x (List.mem_cons_of_mem _ hx))
theorem RpA.bls : ∀ {xs : List V} {ns : List Bool}, RpA K H xs (ns.map D.bl) → xs = ns.map V.bl
  | xs, [], h => by cases h; rfl
  | xs, n :: r, h => by
    cases h with
    | cons a b => cases a; rw [RpA.bls b]; rfl
/-- values of a dict -/
theorem RpK.keys : ∀ {xs : List (Key × V)} {ds : List (Key × D)}, RpK K H xs ds → xs.map (·.1) = ds.map (·.1)
  | _, _, .nil => rfl
  | _, _, .cons _ t => by simp only [List.map_cons, RpK.keys t]
theorem RpK.length {xs : List (Key × V)} {ds : List (Key × D)} (h : RpK K H xs ds) : xs.length = ds.length := by
  have := congrArg List.length h.keys
  simpa using this
theorem RpT.keys : ∀ {xs : List (List Key × V)} {ds : List (List Key × D)}, RpT K H xs ds → xs.map (·.1) = ds.map (·.1)
  | _, _, .nil => rfl
  | _, _, .cons _ t => by simp only [List.map_cons, RpT.keys t]
theorem RpT.length {xs : List (List Key × V)} {ds : List (List Key × D)} (h : RpT K H xs ds) : xs.length = ds.length := by
  have := congrArg List.length h.keys
  simpa using this
end
/-! ### dicts as data -/
section
variable {κ : Type} [DecidableEq κ]
def vD (kvs : List (κ × D)) (k : κ) : Option D := (kvs.find? fun kv => decide (kv.1 = k)).map (·.2)
def putD (kvs : List (κ × D)) (k : κ) (v : D) : List (κ × D) := if (kvs.any fun kv => decide (kv.1 = k)) = true then kvs.map (fun kv => if kv.1 = k then (kv.1, v) else kv) else kvs ++ [(k, v)]
def dropD (kvs : List (κ × D)) (k : κ) : List (κ × D) := kvs.filter fun kv => decide (kv.1 ≠ k)
end

section
variable {κ : Type} [DecidableEq κ] {K : PySem.W.Frag} {H : Hp}
theorem vD_nil {k : κ} : vD ([] : List (κ × D)) k = none := rfl
theorem vD_cons {j k : κ} {d : D} {r : List (κ × D)} : vD ((j, d) :: r) k = if j = k then some d else vD r k := by
  unfold vD
  by_cases e : j = k
  · simp [List.find?_cons, e]
  · simp [List.find?_cons, e]
theorem vD_any (k : κ) : ∀ kvs : List (κ × D), (kvs.any fun kv => decide (kv.1 = k)) = (vD kvs k).isSome
  | [] => rfl
  | (j, d) :: r => by
    rw [List.any_cons, vD_cons, vD_any k r]
    by_cases e : j = k <;> simp [e]
theorem vD_map (k j : κ) (y : D) : ∀ kvs : List (κ × D), vD (kvs.map fun kv => if kv.1 = k then (kv.1, y) else kv) j = (vD kvs j).map fun x => if j = k then y else x
  | [] => rfl
  | (i, d) :: r => by
    rw [List.map_cons]
    by_cases h : i = k
    · rw [if_pos h, vD_cons, vD_cons, vD_map k j y r]
      by_cases e : i = j
      · simp [e, ← h]
      · simp [e]
    · rw [if_neg h, vD_cons, vD_cons, vD_map k j y r]
      by_cases e : i = j
      · have : ¬ j = k := fun z => h (e.trans z)
        simp [e, this]
      · simp [e]
theorem vD_snoc (k j : κ) (y : D) : ∀ kvs : List (κ × D), vD kvs k = none → vD (kvs ++ [(k, y)]) j = if j = k then some y else vD kvs j
  | [], _ => by
    show vD [(k, y)] j = _
    rw [vD_cons]
    by_cases e : j = k
    · simp [e]
    · have : ¬ k = j := fun z => e z.symm
      simp [e, this]
  | (i, d) :: r, h => by
    rw [vD_cons] at h
    by_cases hi : i = k
    · rw [if_pos hi] at h; cases h
    · rw [if_neg hi] at h
      show vD ((i, d) :: (r ++ [(k, y)])) j = _
      rw [vD_cons, vD_cons, vD_snoc k j y r h]
      by_cases e : i = j
      · have : ¬ j = k := fun z => hi (e.trans z)
        simp [e, this]
      · simp [e]
theorem vD_put (kvs : List (κ × D)) (k j : κ) (y : D) : vD (putD kvs k y) j = if j = k then some y else vD kvs j := by
  unfold putD
  have q := vD_any k kvs
  cases e : vD kvs k with
  | none =>
    rw [e] at q
    rw [if_neg (by rw [q]; simp), vD_snoc k j y kvs e]
  | some z =>
    rw [e] at q
    rw [if_pos (by rw [q]; rfl), vD_map]
    by_cases h : j = k
    · rw [h, e]; simp
    · simp [h]
theorem vD_drop (k j : κ) : ∀ kvs : List (κ × D), vD (dropD kvs k) j = if j = k then none else vD kvs j
  | [] => by simp [dropD, vD]
  | (i, d) :: r => by
    have ih := vD_drop k j r
    unfold dropD at ih ⊢
    by_cases h : i = k
    · rw [List.filter_cons_of_neg (by simp [h]), ih, vD_cons]
      by_cases e : j = k
      · simp [e]
      · have : ¬ i = j := fun z => e (z.symm.trans h)
        simp [e, this]
    · rw [List.filter_cons_of_pos (by simp [h]), vD_cons, vD_cons, ih]
      by_cases e : i = j
      · have : ¬ j = k := fun z => h (e.trans z)
        simp [e, this]
      · simp [e]
theorem length_putD (kvs : List (κ × D)) (k : κ) (v : D) : (putD kvs k v).length ≤ kvs.length + 1 := by
  unfold putD
  split <;> simp
theorem length_dropD (kvs : List (κ × D)) (k : κ) : (dropD kvs k).length ≤ kvs.length := List.length_filter_le _ _
end
section
variable {K : PySem.W.Frag} {H : Hp}
theorem RpK.val {k : Key} : ∀ {xs : List (Key × V)} {ds : List (Key × D)}, RpK K H xs ds → (vD ds k = none ∧ valV xs k = none) ∨ ∃ d v, vD ds k = some d ∧ valV xs k = some v ∧ Rp K H v d
  | _, _, .nil => .inl ⟨rfl, rfl⟩
  | _, _, .cons (k := j) (v := v) (d := d) r t => by
    rw [vD_cons]
    by_cases e : j = k
    · rw [if_pos e, valV_pos (p := (j, v)) e]
      exact .inr ⟨d, v, rfl, rfl, r⟩
    · rw [if_neg e, valV_neg (p := (j, v)) e]
      exact RpK.val t
theorem RpK.rep {k : Key} {v : V} {d : D} (r : Rp K H v d) : ∀ {xs : List (Key × V)} {ds : List (Key × D)}, RpK K H xs ds → RpK K H (xs.map fun kv => if kv.1 = k then (kv.1, v) else kv) (ds.map fun kv => if kv.1 = k then (kv.1, d) else kv)
  | _, _, .nil => .nil
  | _, _, .cons (k := j) q t => by
    rw [List.map_cons, List.map_cons]
    by_cases e : j = k
    · rw [if_pos e, if_pos e]
      exact .cons r (RpK.rep r t)
    · rw [if_neg e, if_neg e]
      exact .cons q (RpK.rep r t)
theorem RpK.snoc {k : Key} {v : V} {d : D} (r : Rp K H v d) : ∀ {xs : List (Key × V)} {ds : List (Key × D)}, RpK K H xs ds → RpK K H (xs ++ [(k, v)]) (ds ++ [(k, d)])
  | _, _, .nil => .cons r .nil
  | _, _, .cons q t => .cons q (RpK.snoc r t)
theorem RpK.any {k : Key} {xs : List (Key × V)} {ds : List (Key × D)} (h : RpK K H xs ds) : (xs.any fun kv => decide (kv.1 = k)) = (ds.any fun kv => decide (kv.1 = k)) := by
  rw [vD_any, valV_any]
  rcases h.val (k := k) with ⟨a, b⟩ | ⟨d, v, a, b, _⟩ <;> rw [a, b] <;> rfl
theorem RpK.put {k : Key} {v : V} {d : D} {xs : List (Key × V)} {ds : List (Key × D)} (h : RpK K H xs ds) (r : Rp K H v d) : RpK K H (putK xs k v) (putD ds k d) := by
  unfold putK putD
  rw [h.any]
  split
  · exact h.rep r
  · exact h.snoc r
theorem RpK.drop {k : Key} : ∀ {xs : List (Key × V)} {ds : List (Key × D)}, RpK K H xs ds → RpK K H (dropK xs k) (dropD ds k)
  | _, _, .nil => .nil
  | _, _, .cons (k := j) (v := v) (d := d) r t => by
    have ih := RpK.drop (k := k) t
    unfold dropK dropD at ih ⊢
    by_cases e : j = k
    · rw [List.filter_cons_of_neg (by simp [e]), List.filter_cons_of_neg (by simp [e])]
      exact ih
    · rw [List.filter_cons_of_pos (by simp [e]), List.filter_cons_of_pos (by simp [e])]
      exact .cons r ih
theorem RpT.val {k : List Key} : ∀ {xs : List (List Key × V)} {ds : List (List Key × D)}, RpT K H xs ds → (vD ds k = none ∧ valV xs k = none) ∨ ∃ d v, vD ds k = some d ∧ valV xs k = some v ∧ Rp K H v d
  | _, _, .nil => .inl ⟨rfl, rfl⟩
  | _, _, .cons (k := j) (v := v) (d := d) r t => by
    rw [vD_cons]
    by_cases e : j = k
    · rw [if_pos e, valV_pos (p := (j, v)) e]
      exact .inr ⟨d, v, rfl, rfl, r⟩
    · rw [if_neg e, valV_neg (p := (j, v)) e]
      exact RpT.val t
theorem RpT.rep {k : List Key} {v : V} {d : D} (r : Rp K H v d) : ∀ {xs : List (List Key × V)} {ds : List (List Key × D)}, RpT K H xs ds → RpT K H (xs.map fun kv => if kv.1 = k then (kv.1, v) else kv) (ds.map fun kv => if kv.1 = k then (kv.1, d) else kv)
  | _, _, .nil => .nil
  | _, _, .cons (k := j) q t => by
    rw [List.map_cons, List.map_cons]
    by_cases e : j = k
    · rw [if_pos e, if_pos e]
      exact .cons r (RpT.rep r t)
    · rw [if_neg e, if_neg e]
      exact .cons q (RpT.rep r t)
theorem RpT.snoc {k : List Key} {v : V} {d : D} (r : Rp K H v d) : ∀ {xs : List (List Key × V)} {ds : List (List Key × D)}, RpT K H xs ds → RpT K H (xs ++ [(k, v)]) (ds ++ [(k, d)])
  | _, _, .nil => .cons r .nil
  | _, _, .cons q t => .cons q (RpT.snoc r t)
theorem RpT.put {k : List Key} {v : V} {d : D} {xs : List (List Key × V)} {ds : List (List Key × D)} (h : RpT K H xs ds) (r : Rp K H v d) : RpT K H (putK xs k v) (putD ds k d) := by
  unfold putK putD
  have e : (xs.any fun kv => decide (kv.1 = k)) = (ds.any fun kv => decide (kv.1 = k)) := by
    rw [vD_any, valV_any]
    rcases h.val (k := k) with ⟨a, b⟩ | ⟨d, v, a, b, _⟩ <;> rw [a, b] <;> rfl
  rw [e]
  split
  · exact h.rep r
  · exact h.snoc r
end

/-! ### two heaps: what is fixed (A), all (B) -/
structure Gr (A B A' B' : Hp) : Prop where
  fix : Ex A A'
  all : Ex B B'
  sub : Ex A' B'
  new : ∀ a o, A' a = some o → (∃ u, A a = some u) ∨ B a = none
theorem Gr.refl {A B : Hp} (h : Ex A B) : Gr A B A B := ⟨fun _ _ q => q, fun _ _ q => q, h, fun _ _ q => .inl ⟨_, q⟩⟩
theorem ex_free {H H' : Hp} (e : Ex H H') {p : Addr} (h : H' p = none) : H p = none := Evl.fresh_back e h
theorem Gr.trans {A B A1 B1 A2 B2 : Hp} (g : Gr A B A1 B1) (k : Gr A1 B1 A2 B2) : Gr A B A2 B2 :=
  ⟨fun a o h => k.fix a o (g.fix a o h), fun a o h => k.all a o (g.all a o h), k.sub, fun a o h => by
    rcases k.new a o h with ⟨u, e⟩ | e
    · exact g.new a u e
    · exact .inr (ex_free g.all e)⟩
/-- an owned address stays out of what is fixed -/
theorem Gr.out {A B A' B' : Hp} (g : Gr A B A' B') {p : Addr} {o : HO} (h : A p = none) (hb : B p = some o) : A' p = none := by
  cases q : A' p with
  | none => rfl
  | some u =>
    rcases g.new p u q with ⟨w, e⟩ | e
    · rw [h] at e; cases e
    · rw [hb] at e; cases e
/-- a new object, kept apart -/
theorem Gr.lay {A B : Hp} (h : Ex A B) {p : Addr} {o : HO} (hp : B p = none) : Gr A B A (upd B p o) :=
  ⟨fun _ _ q => q, Evl.Ex.new hp, fun a u q => Evl.Ex.new hp a u (h a u q), fun _ _ q => .inl ⟨_, q⟩⟩
/-- a new object, fixed at once -/
theorem Gr.layF {A B : Hp} (h : Ex A B) {p : Addr} {o : HO} (hp : B p = none) : Gr A B (upd A p o) (upd B p o) :=
  ⟨Evl.Ex.new (ex_free h hp), Evl.Ex.new hp, fun a u q => by
    by_cases e : a = p
    · subst e; rw [upd_same] at q ⊢; exact q
    · rw [upd_ne e] at q ⊢; exact h a u q, fun a u q => by
    by_cases e : a = p
    · subst e; exact .inr hp
    · rw [upd_ne e] at q; exact .inl ⟨_, q⟩⟩
/-- a new object that is kept apart becomes fixed -/
theorem Gr.fixed {A B A' B' : Hp} (g : Gr A B A' B') {p : Addr} {o : HO} (hp : B p = none) (hA : A' p = none) (hB : B' p = some o) : Gr A B (upd A' p o) B' :=
  ⟨fun a u q => Evl.Ex.new hA a u (g.fix a u q), g.all, fun a u q => by
    by_cases e : a = p
    · subst e; rw [upd_same] at q; rw [hB, ← q]
    · rw [upd_ne e] at q; exact g.sub a u q, fun a u q => by
    by_cases e : a = p
    · subst e; exact .inr hp
    · rw [upd_ne e] at q; exact g.new a u q⟩

/-! ### what is known of a slot -/
inductive Sl where
  | un
  | im (d : D)
  | ow (ds : List D)
  | ok (kvs : List (Key × D))
  | ot (kvs : List (List Key × D))
  | pg (p : List (List D × List D))
  | ll (dss : List (List D))
  | kl (kvs : List (Key × List D))
  | f3 (as : List D) (bs cs : List (List D × List D))
  | tl (d : D) (ds : List D)
  | bag (n : Nat) (l : List Addr)
/-- the blocks of an owned program: tuples ts, their lists rs, ws -/
inductive PgB (K : PySem.W.Frag) (A B : Hp) : List V → List (List D × List D) → List Addr → Prop
  | nil : PgB K A B [] [] []
  | cons {t r w : Addr} {xs ys : List V} {ds es : List D} {vs : List V} {bs : List (List D × List D)} {fp : List Addr} :
      A t = some (.tup [.ref r, .ref w]) → A r = none → B r = some (.lst xs) → RpA K A xs ds → A w = none → B w = some (.lst ys) → RpA K A ys es → PgB K A B vs bs fp → PgB K A B (.ref t :: vs) ((ds, es) :: bs) (r :: w :: fp)
/-- owned lists, each by itself -/
inductive PgL (K : PySem.W.Frag) (A B : Hp) : List V → List (List D) → List Addr → Prop
  | nil : PgL K A B [] [] []
  | cons {r : Addr} {xs : List V} {ds : List D} {vs : List V} {dss : List (List D)} {fp : List Addr} : A r = none → B r = some (.lst xs) → RpA K A xs ds → PgL K A B vs dss fp → PgL K A B (.ref r :: vs) (ds :: dss) (r :: fp)
def SlOk (K : PySem.W.Frag) (A B : Hp) : Sl → Option V → List Addr → Prop
  | .un, _, fp => fp = []
  | .im d, o, fp => fp = [] ∧ ∃ v, o = some v ∧ Rp K A v d
  | .ow ds, o, fp => ∃ p xs, o = some (.ref p) ∧ fp = [p] ∧ A p = none ∧ B p = some (.lst xs) ∧ RpA K A xs ds
  | .ok kvs, o, fp => ∃ p xs, o = some (.ref p) ∧ fp = [p] ∧ A p = none ∧ B p = some (.dK xs) ∧ RpK K A xs kvs
  | .ot kvs, o, fp => ∃ p xs, o = some (.ref p) ∧ fp = [p] ∧ A p = none ∧ B p = some (.dT xs) ∧ RpT K A xs kvs
  | .pg bs, o, fp => ∃ p xs gp, o = some (.ref p) ∧ fp = p :: gp ∧ A p = none ∧ B p = some (.lst xs) ∧ PgB K A B xs bs gp ∧ fp.Nodup
  | .ll dss, o, fp => ∃ p xs gp, o = some (.ref p) ∧ fp = p :: gp ∧ A p = none ∧ B p = some (.lst xs) ∧ PgL K A B xs dss gp ∧ fp.Nodup
  | .kl kvs, o, fp => ∃ p xs gp, o = some (.ref p) ∧ fp = p :: gp ∧ A p = none ∧ B p = some (.dK xs) ∧ xs.map (·.1) = kvs.map (·.1) ∧ PgL K A B (xs.map (·.2)) (kvs.map (·.2)) gp ∧ fp.Nodup
  | .f3 as bs cs, o, fp => ∃ p x y z xs ys zs f1 f2, o = some (.ref p) ∧ fp = p :: x :: y :: z :: (f1 ++ f2) ∧ (A p = none ∧ B p = some (.lst [.ref x, .ref y, .ref z])) ∧ (A x = none ∧ B x = some (.lst xs) ∧ RpA K A xs as) ∧ (A y = none ∧ B y = some (.lst ys) ∧ PgB K A B ys bs f1) ∧ (A z = none ∧ B z = some (.lst zs) ∧ PgB K A B zs cs f2) ∧ fp.Nodup
  | .tl d ds, o, fp => ∃ t v r xs, o = some (.ref t) ∧ A t = some (.tup [v, .ref r]) ∧ Rp K A v d ∧ fp = [r] ∧ A r = none ∧ B r = some (.lst xs) ∧ RpA K A xs ds
  | .bag n l, _, fp => fp = l ∧ ∀ p ∈ l, A p = none ∧ ∃ xs, B p = some (.lst xs) ∧ xs.length ≤ n
section
variable {K : PySem.W.Frag} {A B A' B' : Hp}
theorem PgB.frame (e : Ex A A') : ∀ {vs : List V} {bs : List (List D × List D)} {fp : List Addr}, PgB K A B vs bs fp → (∀ p ∈ fp, A' p = none ∧ B' p = B p) → PgB K A' B' vs bs fp
  | _, _, _, .nil, _ => .nil
  | _, _, _, .cons (r := r) (w := w) h1 h2 h3 h4 h5 h6 h7 t, k => by
    obtain ⟨a1, b1⟩ := k r List.mem_cons_self
    obtain ⟨a2, b2⟩ := k w (List.mem_cons_of_mem _ List.mem_cons_self)
    exact .cons (e _ _ h1) a1 (b1.trans h3) (h4.mono e) a2 (b2.trans h6) (h7.mono e) (PgB.frame e t fun p hp => k p (List.mem_cons_of_mem _ (List.mem_cons_of_mem _ hp)))
theorem PgB.out : ∀ {vs : List V} {bs : List (List D × List D)} {fp : List Addr}, PgB K A B vs bs fp → ∀ p ∈ fp, A p = none ∧ ∃ o, B p = some o
  | _, _, _, .nil, _, hp => nomatch hp
  | _, _, _, .cons h1 h2 h3 h4 h5 h6 h7 t, p, hp => by
    rcases List.mem_cons.mp hp with rfl | hp
    · exact ⟨h2, _, h3⟩
    rcases List.mem_cons.mp hp with rfl | hp
    · exact ⟨h5, _, h6⟩
    · exact PgB.out t p hp
theorem PgL.frame (e : Ex A A') : ∀ {vs : List V} {dss : List (List D)} {fp : List Addr}, PgL K A B vs dss fp → (∀ p ∈ fp, A' p = none ∧ B' p = B p) → PgL K A' B' vs dss fp
  | _, _, _, .nil, _ => .nil
  | _, _, _, .cons (r := r) h2 h3 h4 t, k => by
    obtain ⟨a1, b1⟩ := k r List.mem_cons_self
    exact .cons a1 (b1.trans h3) (h4.mono e) (PgL.frame e t fun p hp => k p (List.mem_cons_of_mem _ hp))
theorem PgL.out : ∀ {vs : List V} {dss : List (List D)} {fp : List Addr}, PgL K A B vs dss fp → ∀ p ∈ fp, A p = none ∧ ∃ o, B p = some o
  | _, _, _, .nil, _, hp => nomatch hp
  | _, _, _, .cons h2 h3 h4 t, p, hp => by
    rcases List.mem_cons.mp hp with rfl | hp
    · exact ⟨h2, _, h3⟩
    · exact PgL.out t p hp
theorem SlOk.out {s : Sl} {o : Option V} {fp : List Addr} (h : SlOk K A B s o fp) : ∀ p ∈ fp, A p = none ∧ ∃ u, B p = some u := by
  cases s with
  | un => rw [show fp = [] from h]; exact fun _ z => nomatch z
  | im d => rw [show fp = [] from h.1]; exact fun _ z => nomatch z
  | ow ds => obtain ⟨p, xs, _, rfl, h1, h2, _⟩ := h; intro q hq; rw [List.mem_singleton.mp hq]; exact ⟨h1, _, h2⟩
  | ok ds => obtain ⟨p, xs, _, rfl, h1, h2, _⟩ := h; intro q hq; rw [List.mem_singleton.mp hq]; exact ⟨h1, _, h2⟩
  | ot ds => obtain ⟨p, xs, _, rfl, h1, h2, _⟩ := h; intro q hq; rw [List.mem_singleton.mp hq]; exact ⟨h1, _, h2⟩
  | pg bs =>
    obtain ⟨p, xs, gp, _, rfl, h1, h2, h3, _⟩ := h
    intro q hq
    rcases List.mem_cons.mp hq with rfl | hq
    · exact ⟨h1, _, h2⟩
    · exact h3.out q hq
  | ll dss =>
    obtain ⟨p, xs, gp, _, rfl, h1, h2, h3, _⟩ := h
    intro q hq
    rcases List.mem_cons.mp hq with rfl | hq
    · exact ⟨h1, _, h2⟩
    · exact h3.out q hq
  | kl kvs =>
    obtain ⟨p, xs, gp, _, rfl, h1, h2, _, h3, _⟩ := h
    intro q hq
    rcases List.mem_cons.mp hq with rfl | hq
    · exact ⟨h1, _, h2⟩
    · exact h3.out q hq
  | f3 as bs cs =>
    obtain ⟨p, x, y, z, xs, ys, zs, f1, f2, _, rfl, ⟨h1, h2⟩, ⟨x1, x2, _⟩, ⟨y1, y2, y3⟩, ⟨z1, z2, z3⟩, _⟩ := h
    intro q hq
    rcases List.mem_cons.mp hq with rfl | hq
    · exact ⟨h1, _, h2⟩
    rcases List.mem_cons.mp hq with rfl | hq
    · exact ⟨x1, _, x2⟩
    rcases List.mem_cons.mp hq with rfl | hq
    · exact ⟨y1, _, y2⟩
    rcases List.mem_cons.mp hq with rfl | hq
    · exact ⟨z1, _, z2⟩
    rcases List.mem_append.mp hq with hq | hq
    · exact y3.out q hq
    · exact z3.out q hq
  | tl d ds =>
    obtain ⟨t, v, r, xs, _, _, _, rfl, h1, h2, _⟩ := h
    intro q hq; rw [List.mem_singleton.mp hq]; exact ⟨h1, _, h2⟩
  | bag n l =>
    obtain ⟨rfl, h⟩ := h
    intro q hq
    obtain ⟨a, u, b, _⟩ := h q hq
    exact ⟨a, _, b⟩
theorem SlOk.frame (e : Ex A A') {s : Sl} {o : Option V} {fp : List Addr} (h : SlOk K A B s o fp) (k : ∀ p ∈ fp, A' p = none ∧ B' p = B p) : SlOk K A' B' s o fp := by
  cases s with
  | un => exact h
  | im d => obtain ⟨h0, v, h1, h2⟩ := h; exact ⟨h0, v, h1, h2.mono e⟩
  | ow ds =>
    obtain ⟨p, xs, h0, rfl, h1, h2, h3⟩ := h
    obtain ⟨a, b⟩ := k p List.mem_cons_self
    exact ⟨p, xs, h0, rfl, a, b.trans h2, h3.mono e⟩
  | ok ds =>
    obtain ⟨p, xs, h0, rfl, h1, h2, h3⟩ := h
    obtain ⟨a, b⟩ := k p List.mem_cons_self
    exact ⟨p, xs, h0, rfl, a, b.trans h2, h3.mono e⟩
  | ot ds =>
    obtain ⟨p, xs, h0, rfl, h1, h2, h3⟩ := h
    obtain ⟨a, b⟩ := k p List.mem_cons_self
    exact ⟨p, xs, h0, rfl, a, b.trans h2, h3.mono e⟩
  | pg bs =>
    obtain ⟨p, xs, gp, h0, rfl, h1, h2, h3, h4⟩ := h
    obtain ⟨a, b⟩ := k p List.mem_cons_self
    exact ⟨p, xs, gp, h0, rfl, a, b.trans h2, h3.frame e fun q hq => k q (List.mem_cons_of_mem _ hq), h4⟩
  | ll dss =>
    obtain ⟨p, xs, gp, h0, rfl, h1, h2, h3, h4⟩ := h
    obtain ⟨a, b⟩ := k p List.mem_cons_self
    exact ⟨p, xs, gp, h0, rfl, a, b.trans h2, h3.frame e fun q hq => k q (List.mem_cons_of_mem _ hq), h4⟩
  | kl kvs =>
    obtain ⟨p, xs, gp, h0, rfl, h1, h2, hk, h3, h4⟩ := h
    obtain ⟨a, b⟩ := k p List.mem_cons_self
    exact ⟨p, xs, gp, h0, rfl, a, b.trans h2, hk, h3.frame e fun q hq => k q (List.mem_cons_of_mem _ hq), h4⟩
  | f3 as bs cs =>
    obtain ⟨p, x, y, z, xs, ys, zs, f1, f2, h0, rfl, ⟨h1, h2⟩, ⟨x1, x2, x3⟩, ⟨y1, y2, y3⟩, ⟨z1, z2, z3⟩, nd⟩ := h
    obtain ⟨a, b⟩ := k p (by simp)
    obtain ⟨ax, bx⟩ := k x (by simp)
    obtain ⟨ay, by'⟩ := k y (by simp)
    obtain ⟨az, bz⟩ := k z (by simp)
    exact ⟨p, x, y, z, xs, ys, zs, f1, f2, h0, rfl, ⟨a, b.trans h2⟩, ⟨ax, bx.trans x2, x3.mono e⟩, ⟨ay, by'.trans y2, y3.frame e fun q hq => k q (by simp [hq])⟩, ⟨az, bz.trans z2, z3.frame e fun q hq => k q (by simp [hq])⟩, nd⟩
  | tl d ds =>
    obtain ⟨t, v, r, xs, h0, ht, rv, rfl, h1, h2, h3⟩ := h
    obtain ⟨a, b⟩ := k r List.mem_cons_self
    exact ⟨t, v, r, xs, h0, e _ _ ht, rv.mono e, rfl, a, b.trans h2, h3.mono e⟩
  | bag n l =>
    obtain ⟨rfl, h⟩ := h
    refine ⟨rfl, fun q hq => ?_⟩
    obtain ⟨a, b⟩ := k q hq
    obtain ⟨_, u, c, d⟩ := h q hq
    exact ⟨a, u, b.trans c, d⟩
theorem SlOk.grow {s : Sl} {o : Option V} {fp : List Addr} (h : SlOk K A B s o fp) (g : Gr A B A' B') : SlOk K A' B' s o fp :=
  h.frame g.fix fun p hp => by
    obtain ⟨h1, u, h2⟩ := h.out p hp
    exact ⟨g.out h1 h2, (g.all p u h2).trans h2.symm⟩
end

/-- the slots as they are known; W: the world's heap at the entry, which owned objects are not in -/
structure EnvAt (K : PySem.W.Frag) (W A B : Hp) (Γ : List Sl) (σ : SS) : Prop where
  ex : Ex A B
  len : σ.length = Γ.length
  ok : ∃ F : Nat → List Addr, (∀ i s, Γ[i]? = some s → SlOk K A B s (σ[i]?.getD none) (F i)) ∧ (∀ i j p, p ∈ F i → p ∈ F j → i = j) ∧ (∀ i p, p ∈ F i → W p = none ∧ ∃ u, B p = some u)
section
variable {K : PySem.W.Frag} {W A B A' B' : Hp} {Γ : List Sl} {σ : SS}
theorem EnvAt.grow (h : EnvAt K W A B Γ σ) (g : Gr A B A' B') : EnvAt K W A' B' Γ σ := by
  obtain ⟨ex, len, F, h1, h2, h3⟩ := h
  exact ⟨g.sub, len, F, fun i s e => (h1 i s e).grow g, h2, fun i p hp => ⟨(h3 i p hp).1, let ⟨u, q⟩ := (h3 i p hp).2; ⟨u, g.all p u q⟩⟩⟩
theorem EnvAt.at (h : EnvAt K W A B Γ σ) {i : Nat} {s : Sl} (e : Γ[i]? = some s) : ∃ fp, SlOk K A B s (σ[i]?.getD none) fp ∧ ∀ p ∈ fp, W p = none := by
  obtain ⟨ex, len, F, h1, h2, h3⟩ := h
  exact ⟨F i, h1 i s e, fun p hp => (h3 i p hp).1⟩
theorem EnvAt.im (h : EnvAt K W A B Γ σ) {i : Nat} {d : D} (e : Γ[i]? = some (.im d)) : ∃ v, σ[i]? = some (some v) ∧ Rp K A v d := by
  obtain ⟨fp, ⟨_, v, h1, h2⟩, _⟩ := h.at e
  refine ⟨v, ?_, h2⟩
  cases q : σ[i]? with
  | none => rw [q] at h1; cases h1
  | some o => rw [q] at h1; rw [show o = some v from h1]
theorem slotRef {σ : SS} {i : Nat} {v : V} (h : σ[i]?.getD none = some v) : σ[i]? = some (some v) := by
  cases q : σ[i]? with
  | none => rw [q] at h; cases h
  | some o => rw [q] at h; rw [show o = some v from h]
/-- a slot gets a value that evaluation made: what it held before is forgotten -/
theorem EnvAt.put (h : EnvAt K W A B Γ σ) (g : Gr A B A' B') {s : Sl} {v : V} {fp : List Addr} (i : Nat) (ok : SlOk K A' B' s (some v) fp) (hn : ∀ p ∈ fp, B p = none) (hW : ∀ p ∈ fp, W p = none) : EnvAt K W A' B' (Γ.set i s) (σ.set i (some v)) := by
  obtain ⟨ex, len, F, h1, h2, h3⟩ := h
  have hf : ∀ j p, p ∈ fp → p ∉ F j := fun j p hp hq => by
    obtain ⟨_, u, e⟩ := h3 j p hq
    rw [hn p hp] at e; cases e
  refine ⟨g.sub, by rw [List.length_set, List.length_set, len], fun j => if j = i then fp else F j, fun j s' e => ?_, fun j k p hj hk => ?_, fun j p hp => ?_⟩
  · by_cases hj : j = i
    · subst hj
      have hlt : j < Γ.length := by
        have := (List.getElem?_eq_some_iff.mp e).1
        rwa [List.length_set] at this
      rw [List.getElem?_set_self hlt] at e
      cases e
      simp only [if_true]
      rw [List.getElem?_set_self (by rw [len]; exact hlt)]
      exact ok
    · rw [List.getElem?_set_ne (Ne.symm hj)] at e ⊢
      simp only [if_neg hj]
      exact (h1 j s' e).grow g
  · by_cases e1 : j = i
    · by_cases e2 : k = i
      · rw [e1, e2]
      · simp only [if_pos e1, if_neg e2] at hj hk
        exact absurd hk (hf k p hj)
    · by_cases e2 : k = i
      · simp only [if_neg e1, if_pos e2] at hj hk
        exact absurd hj (hf j p hk)
      · simp only [if_neg e1, if_neg e2] at hj hk
        exact h2 j k p hj hk
  · by_cases e : j = i
    · simp only [if_pos e] at hp
      exact ⟨hW p hp, (ok.out p hp).2⟩
    · simp only [if_neg e] at hp
      exact ⟨(h3 j p hp).1, let ⟨u, q⟩ := (h3 j p hp).2; ⟨u, g.all p u q⟩⟩
theorem EnvAt.wipe (h : EnvAt K W A B Γ σ) (j : Nat) : EnvAt K W A B (Γ.set j .un) (σ.set j none) := by
  obtain ⟨ex, len, F, h1, h2, h3⟩ := h
  refine ⟨ex, by rw [List.length_set, List.length_set, len], fun i => if i = j then [] else F i, fun i s e => ?_, fun i k p hj hk => ?_, fun i p hp => ?_⟩
  · by_cases hi : i = j
    · subst hi
      have hlt : i < Γ.length := by
        have := (List.getElem?_eq_some_iff.mp e).1
        rwa [List.length_set] at this
      rw [List.getElem?_set_self hlt] at e
      cases e
      simp only [if_true]
      exact (rfl : ([] : List Addr) = [])
    · rw [List.getElem?_set_ne (Ne.symm hi)] at e ⊢
      simp only [if_neg hi]
      exact h1 i s e
  · by_cases e1 : i = j
    · simp only [if_pos e1] at hj; exact absurd hj (by simp)
    · by_cases e2 : k = j
      · simp only [if_pos e2] at hk; exact absurd hk (by simp)
      · simp only [if_neg e1, if_neg e2] at hj hk
        exact h2 i k p hj hk
  · by_cases z : i = j
    · simp only [if_pos z] at hp; exact absurd hp (by simp)
    · simp only [if_neg z] at hp
      exact h3 i p hp
/-- the object of an owned slot changes (A grows as evaluation let it) -/
theorem EnvAt.upd1 (h : EnvAt K W A B Γ σ) {i : Nat} {s s' : Sl} {p : Addr} {o : HO} (e : Γ[i]? = some s) (hp : ∀ fp, SlOk K A B s (σ[i]?.getD none) fp → p ∈ fp)
    (ok : ∀ fp, SlOk K A B s (σ[i]?.getD none) fp → SlOk K A (upd B p o) s' (σ[i]?.getD none) fp) : EnvAt K W A (upd B p o) (Γ.set i s') σ := by
  obtain ⟨ex, len, F, h1, h2, h3⟩ := h
  have hi := hp _ (h1 i s e)
  have hA : A p = none := ((h1 i s e).out p hi).1
  refine ⟨fun a u q => ?_, by rw [List.length_set, len], F, fun j t ej => ?_, h2, fun j q hq => ⟨(h3 j q hq).1, ?_⟩⟩
  · rw [upd_ne (ne_of_none q hA)]
    exact ex a u q
  · by_cases hj : j = i
    · subst hj
      have hlt : j < Γ.length := (List.getElem?_eq_some_iff.mp e).1
      rw [List.getElem?_set_self hlt] at ej
      cases ej
      exact ok _ (h1 j s e)
    · rw [List.getElem?_set_ne (Ne.symm hj)] at ej
      refine (h1 j t ej).frame (fun _ _ q => q) fun q hq => ⟨((h1 j t ej).out q hq).1, ?_⟩
      refine upd_ne fun z => ?_
      subst z
      exact hj (h2 j i q hq hi)
  · by_cases z : q = p
    · exact ⟨o, by rw [z, upd_same]⟩
    · obtain ⟨u, hu⟩ := (h3 j q hq).2
      exact ⟨u, by rw [upd_ne z]; exact hu⟩
/-- an owned slot is fixed: its objects join A -/
theorem EnvAt.fix (h : EnvAt K W A B Γ σ) {i : Nat} {s s' : Sl} (e : Γ[i]? = some s) {A1 : Hp} (g : Ex A A1) (gb : Ex A1 B)
    (hx : ∀ fp, SlOk K A B s (σ[i]?.getD none) fp → (∀ q, q ∉ fp → A1 q = A q) ∧ SlOk K A1 B s' (σ[i]?.getD none) []) : EnvAt K W A1 B (Γ.set i s') σ := by
  obtain ⟨ex, len, F, h1, h2, h3⟩ := h
  obtain ⟨k1, k2⟩ := hx _ (h1 i s e)
  refine ⟨gb, by rw [List.length_set, len], fun j => if j = i then [] else F j, fun j t ej => ?_, fun j k p hj hk => ?_, fun j p hp => ?_⟩
  · by_cases hj : j = i
    · subst hj
      have hlt : j < Γ.length := (List.getElem?_eq_some_iff.mp e).1
      rw [List.getElem?_set_self hlt] at ej
      cases ej
      simp only [if_true]
      exact k2
    · rw [List.getElem?_set_ne (Ne.symm hj)] at ej
      simp only [if_neg hj]
      refine (h1 j t ej).frame g fun q hq => ⟨?_, rfl⟩
      rw [k1 q fun z => hj (h2 j i q hq z)]
      exact ((h1 j t ej).out q hq).1
  · by_cases e1 : j = i
    · simp only [if_pos e1] at hj; exact absurd hj (by simp)
    · by_cases e2 : k = i
      · simp only [if_pos e2] at hk; exact absurd hk (by simp)
      · simp only [if_neg e1, if_neg e2] at hj hk
        exact h2 j k p hj hk
  · by_cases z : j = i
    · simp only [if_pos z] at hp; exact absurd hp (by simp)
    · simp only [if_neg z] at hp
      exact h3 j p hp
/-- forgetting -/
inductive Fg : List Sl → List Sl → Prop
  | nil : Fg [] []
  | un {a : Sl} {l m : List Sl} : Fg l m → Fg (a :: l) (.un :: m)
  | eq {a b : Sl} {l m : List Sl} : a = b → Fg l m → Fg (a :: l) (b :: m)
theorem Fg.refl : ∀ l : List Sl, Fg l l
  | [] => .nil
  | a :: l => .eq rfl (Fg.refl l)
theorem Fg.length : ∀ {l m : List Sl}, Fg l m → l.length = m.length
  | _, _, .nil => rfl
  | _, _, .un t => by rw [List.length_cons, List.length_cons, Fg.length t]
  | _, _, .eq _ t => by rw [List.length_cons, List.length_cons, Fg.length t]
theorem Fg.get : ∀ {l m : List Sl} {i : Nat} {s : Sl}, Fg l m → m[i]? = some s → s = .un ∨ l[i]? = some s
  | _, _, _, _, .nil, e => by simp at e
  | _, _, 0, _, .un _, e => by simp at e; exact .inl e.symm
  | _, _, 0, _, .eq h _, e => by simp at e; subst h; subst e; exact .inr rfl
  | _, _, i + 1, _, .un t, e => by simpa using Fg.get t (i := i) (by simpa using e)
  | _, _, i + 1, _, .eq _ t, e => by simpa using Fg.get t (i := i) (by simpa using e)
theorem EnvAt.weak {Γ' : List Sl} (h : EnvAt K W A B Γ σ) (f : Fg Γ Γ') : EnvAt K W A B Γ' σ := by
  classical
  obtain ⟨ex, len, F, h1, h2, h3⟩ := h
  refine ⟨ex, len.trans f.length, fun j => if Γ'[j]? = some .un then [] else F j, fun j s e => ?_, fun j k p hj hk => ?_, fun j p hp => ?_⟩
  · by_cases z : Γ'[j]? = some .un
    · rw [z] at e; cases e
      simp only [if_pos z]
      exact (rfl : ([] : List Addr) = [])
    · simp only [if_neg z]
      rcases f.get e with rfl | q
      · exact absurd e z
      · exact h1 j s q
  · by_cases e1 : Γ'[j]? = some .un
    · simp only [if_pos e1] at hj; exact absurd hj (by simp)
    · by_cases e2 : Γ'[k]? = some .un
      · simp only [if_pos e2] at hk; exact absurd hk (by simp)
      · simp only [if_neg e1, if_neg e2] at hj hk
        exact h2 j k p hj hk
  · by_cases z : Γ'[j]? = some .un
    · simp only [if_pos z] at hp; exact absurd hp (by simp)
    · simp only [if_neg z] at hp
      exact h3 j p hp
/-- another world ahead -/
theorem EnvAt.world {W' : Hp} (h : EnvAt K W A B Γ σ) (k : ∀ p, W p = none → W' p = none) : EnvAt K W' A B Γ σ := by
  obtain ⟨ex, len, F, h1, h2, h3⟩ := h
  exact ⟨ex, len, F, h1, h2, fun i p hp => ⟨k p (h3 i p hp).1, (h3 i p hp).2⟩⟩
end
end Sf

/-! The rules of the layer: one for each operator, whatever the data. -/
namespace Sf
open PySem PySem.Spec PyProof.Rows L2
section
variable {X : Cx}
def rMulI : R2 := rI (fun i j => IntMulOk i j) fun i j => .int (i * j)
theorem op_mulI : OpR X (binaryOp .Mult) rMulI := opI fun _ _ _ _ _ _ _ hc q => mul_int q hc
def rAddI : R2 := rI0 fun i j => .int (i + j)
def rAddS : R2 := fun x y H Q => ∃ i j, x = .str i ∧ y = .str j ∧ i.length + j.length ≤ sizeLine ∧ Q (.str (i ++ j)) H
def rAddX (K : PySem.W.Frag) : R2 := fun x y H Q => rAddI x y H Q ∨ rAddS x y H Q ∨ rCat x y H Q ∨ rCatA K x y H Q
theorem op_addX : OpR X (binaryOp .Add) (rAddX X.K) := op_add.or (op_add_str.or (op_cat.or op_catA))
def rSubX : R2 := rI0 fun i j => .int (i - j)
theorem op_subX : OpR X (binaryOp .Sub) rSubX := op_sub
def rMulX : R2 := fun x y H Q => rMulI x y H Q ∨ rRep x y H Q
theorem op_mulX : OpR X (binaryOp .Mult) rMulX := op_mulI.or op_rep
def rDivX : R2 := rI CDiv fun i j => .int (i / j)
theorem op_divX : OpR X (binaryOp .FloorDiv) rDivX := op_fdiv
def rModX : R2 := rI (fun _ j => 0 < j) fun i j => .int (i % j)
theorem op_modX : OpR X (binaryOp .Mod) rModX := op_mod
def rPowX : R2 := rI CPow fun i j => .int (i ^ j.toNat)
theorem op_powX : OpR X (binaryOp .Pow) rPowX := op_pow
/-! comparisons -/
def rEqX (K : PySem.W.Frag) : R2 := fun x y H Q => rEq x y H Q ∨ rEqD K x y H Q
/-- one thing twice, or plain data that is alike -/
def EqW (K : PySem.W.Frag) (H : Hp) (x y : V) : Prop := (x = y ∧ flatB x = true) ∨ ∃ d, Dp K H x d ∧ Dp K H y d ∧ d.canLay0 = true ∧ d.depth ≤ 50 ∧ PyData.eqv d d = true
/-- two dicts of the same keys and like values -/
def DicW (K : PySem.W.Frag) (H : Hp) (x y : V) : Prop := ∃ a b ks ls, x = .ref a ∧ y = .ref b ∧ H a = some (.dK ks) ∧ H b = some (.dK ls) ∧ ks.length = ls.length ∧ ∀ p ∈ ks, ∃ u, valV ls p.1 = some u ∧ EqW K H p.2 u
def rNeK (K : PySem.W.Frag) : R2 := fun x y H Q => DicW K H x y ∧ Q (.bl false) H
theorem eqW_at {pins : List (Addr × Obj)} {σ : L2.St} {H : Hp} {s : Shared} (I : L2.Inv X pins σ H s) {A : Around} (hu : A.units + 50 < cLine) {x y : V} {v u : Value} (h : EqW X.K H x y) (rx : RelV x v) (ry : RelV y u) : SeqAt.EqAt A s v u true := by
  rcases h with ⟨rfl, f⟩ | ⟨d, h1, h2, l, hd, e⟩
  · exact eqAt_same rx ry f
  · obtain ⟨_, r1⟩ := Dp.reads I d x v h1 rx
    obtain ⟨_, r2⟩ := Dp.reads I d y u h2 ry
    have q := SeqAt.eqAt_reads d d A s v u _ _ r1 r2 l l (by omega)
    rw [e] at q
    exact q
theorem hits_w {pins : List (Addr × Obj)} {σ : L2.St} {H : Hp} {s : Shared} (I : L2.Inv X pins σ H s) {A : Around} (hu : A.units + 50 < cLine) {ls : List (Key × V)} {vb : List (Key × Value)} (rb : KV ls vb) : ∀ {ks : List (Key × V)} {va : List (Key × Value)}, KV ks va →
    (∀ p ∈ ks, ∃ u, valV ls p.1 = some u ∧ EqW X.K H p.2 u) → PySem.W.KeqHits A s vb va true
  | [], _, .nil, _ => .nil
  | p :: ps, q :: qs, .cons h t, hp => by
    obtain ⟨u, e, f⟩ := hp p List.mem_cons_self
    have rr := rb.val p.1
    rw [e] at rr
    obtain ⟨y, hy, ry⟩ := rr.some_of
    rw [show p.1 = q.1 from h.1] at hy
    have w := eqW_at I hu f h.2 ry
    have tl := hits_w I hu rb (ks := ps) (va := qs) t fun p' hm => hp p' (List.mem_cons_of_mem _ hm)
    cases q
    exact PySem.W.KeqHits.hit (b := true) hy w tl
theorem op_neK (hu : X.A.units + 64 < cLine) : OpR X (compareOp .NotEq) (rNeK X.K) := fun pins s σ H x y v u Q I rx ry ⟨⟨a, b, ks, ls, ex, ey, ea, eb, hl, hp⟩, q⟩ => by
  subst ex ey
  cases (show v = Value.ref a from rx)
  cases (show u = Value.ref b from ry)
  obtain ⟨_, na, va, ra, da⟩ := (show ObjOk X.prog X.w H s.heap a (.dK ks) from I.hok a _ ea)
  obtain ⟨_, nb, vb, rb, db⟩ := (show ObjOk X.prog X.w H s.heap b (.dK ls) from I.hok b _ eb)
  have e : va.length = vb.length := ra.length.symm.trans (hl.trans rb.length)
  refine PySem.W.keq_ne (r := true) (knd := mixKind X.prog X.w) na nb da db (by omega) (fun _ => hits_w I (A := X.A.in1) (by show X.A.units + 1 + 50 < cLine; omega) rb ra hp) ?_
  rw [e]
  exact fin_bl I q (by simp)
/-! two lists whose items are alike, asked with != -/
section
open SeqAt AutoSeq1 MeetsSeq MeetsSeq2 MeetsSeq3
variable {P : Program} {w : World}
theorem ne_turns {a b : Addr} {us vs : Array Value} {n m : Nat} {da db : Option Addr} {sa sb : Array (Option Value)} (same : us.size = vs.size) : ∀ (left i : Nat), us.size - i = left →
    MeetsIn P w (Builtin.«list.__eq__.loop» ⟨[.ref a, .ref b, rawInt i, rawInt 3], []⟩) fun A R s =>
      s.heap.get? a = some ⟨.type "list", da, .seq us n, sa⟩ ∧ s.heap.get? b = some ⟨.type "list", db, .seq vs m, sb⟩ ∧ (∀ j (p : j < us.size) (q : j < vs.size), EqP P w A.in1 s us[j] vs[j] true) ∧ R (.ok (.ret (.bool false))) s
  | 0, i, z => by
    intro A R s ⟨ga, gb, al, fin⟩
    obtain ⟨hp, g, d, tk, os⟩ := s
    have o1 : us[((i : Nat) : Int).toNat]? = none := by simp; omega
    have o2 : vs[((i : Nat) : Int).toNat]? = none := by simp; omega
    wp_walk using wpAny_loadPart' ga, wpAny_loadPart' gb
    rw [o1, o2]
    wp_walk using wpAny_loadPart' ga, wpAny_loadPart' gb
    show R (.ok (.ret (.bool (us.size != vs.size)))) _
    rw [same]
    simpa using fin
  | left + 1, i, z => by
    intro A R s ⟨ga, gb, al, fin⟩
    obtain ⟨hp, g, d, tk, os⟩ := s
    have l1 : i < us.size := by omega
    have l2 : i < vs.size := by omega
    have o1 : us[((i : Nat) : Int).toNat]? = some us[i] := by simp [l1]
    have o2 : vs[((i : Nat) : Int).toNat]? = some vs[i] := by simp [l2]
    have up : ((i : Int) + 1) = ((i + 1 : Nat) : Int) := by push_cast; rfl
    wp_walk using wpAny_loadPart' ga, wpAny_loadPart' gb
    rw [o1, o2]
    refine wpAny_bind (al i l1 l2 _ _ ?_)
    wp_walk
    rw [up]
    refine ⟨plainId_quiet plain_eq_loop _, codeAny_builtin entry_eq_loop ?_⟩
    rw [Around.under_plainId plain_eq_loop _]
    exact ne_turns same left (i + 1) (by omega) A R _ ⟨ga, gb, al, fin⟩
theorem ne_all {a b : Addr} {us vs : Array Value} {n m : Nat} {da db : Option Addr} {sa sb : Array (Option Value)} (same : us.size = vs.size) :
    MeetsIn P w (Builtin.«list.__ne__» ⟨[.ref a, .ref b], []⟩) fun A R s =>
      s.heap.get? a = some ⟨.type "list", da, .seq us n, sa⟩ ∧ s.heap.get? b = some ⟨.type "list", db, .seq vs m, sb⟩ ∧ (∀ j (p : j < us.size) (q : j < vs.size), EqP P w A.in1 s us[j] vs[j] true) ∧ R (.ok (.ret (.bool false))) s := by
  intro A R s ⟨ga, gb, al, fin⟩
  obtain ⟨hp, g, d, tk, os⟩ := s
  have c1 := AutoSeq1.sub_list_list
  have c2 : ¬ (us.size != vs.size) = true := by simp [same]
  wp_walk using wpAny_loadPart' ga, wpAny_loadPart' gb
  refine ⟨plainId_quiet plain_eq_loop _, codeAny_builtin entry_eq_loop ?_⟩
  rw [Around.under_plainId plain_eq_loop _]
  exact ne_turns same _ 0 rfl A R _ ⟨ga, gb, al, fin⟩
theorem ne_lists {A : Around} {s : Shared} {a b : Addr} {us vs : Array Value} (ha : s.heap.IsList a us) (hb : s.heap.IsList b vs) (same : us.size = vs.size) (hu : A.units < cLine) (al : ∀ j (p : j < us.size) (q : j < vs.size), EqP P w A.in1 s us[j] vs[j] true) (E Q : Value → Shared → Prop) (fin : Q (.bool false) s) :
    wpAny (model P w) A (richCompare .NotEq (.ref a) (.ref b)) Q E s := by
  obtain ⟨⟨k1, da, t1, sa⟩, g1, q1, n, r1⟩ := ha
  obtain ⟨⟨k2, db, t2, sb⟩, g2, q2, m, r2⟩ := hb
  simp only at q1 q2 r1 r2
  subst q1 q2 r1 r2
  have ta : s.TypeIs (.ref a) "list" := ⟨_, g1, rfl⟩
  have tb : s.TypeIs (.ref b) "list" := ⟨_, g2, rfl⟩
  refine wpAny_richCompare_same_room (op := .NotEq) ta tb F.slot_list_ne (call_meetsIn F.slot_list_ne ta F.entry_list_ne (F.args_list_ne_2 _ _) (ne_all same) ⟨g1, g2, al, ?_⟩) hu
  exact ⟨fun z => (nomatch z), fin⟩
end
/-- two lists, their items alike or dicts alike -/
def LstW (K : PySem.W.Frag) (H : Hp) (x y : V) : Prop := ∃ a b xs ys, x = .ref a ∧ y = .ref b ∧ H a = some (.lst xs) ∧ H b = some (.lst ys) ∧ Paired (fun u v => EqW K H u v ∨ DicW K H u v) xs ys
def rNeL (K : PySem.W.Frag) : R2 := fun x y H Q => LstW K H x y ∧ Q (.bl false) H
theorem dicW_at {pins : List (Addr × Obj)} {σ : L2.St} {H : Hp} {s : Shared} (I : L2.Inv X pins σ H s) {A : Around} (hu : A.units + 52 < cLine) {x y : V} {v u : Value} (h : DicW X.K H x y) (rx : L2.RelV x v) (ry : L2.RelV y u) : SeqAt.EqP X.prog X.w A s v u true := by
  obtain ⟨a, b, ks, ls, rfl, rfl, ea, eb, hl, hp⟩ := h
  cases (show v = Value.ref a from rx)
  cases (show u = Value.ref b from ry)
  by_cases e : a = b
  · subst e
    exact (SeqAt.EqAt.same _).eqP
  · obtain ⟨_, na, va, ra, da⟩ := (show ObjOk X.prog X.w H s.heap a (.dK ks) from I.hok a _ ea)
    obtain ⟨_, nb, vb, rb, db⟩ := (show ObjOk X.prog X.w H s.heap b (.dK ls) from I.hok b _ eb)
    have el : va.length = vb.length := ra.length.symm.trans (hl.trans rb.length)
    refine SeqAt.eqP_refs e fun E Q q => PySem.W.rcP_dicts (r := true) (knd := mixKind X.prog X.w) na nb da db (by omega) (fun z => ?_) E Q ?_
    · have h := hits_w I (A := A.in1) (by show A.units + 1 + 50 < cLine; omega) rb ra hp
      clear z q hp hl el ra da na ea
      generalize hb : (true : Bool) = r at h
      induction h with
      | nil => exact hb ▸ .nil
      | miss _ => cases hb
      | @hit k v y r e b h1 h2 h3 ih =>
        cases e with
        | false => cases hb
        | true =>
          cases b with
          | false => cases hb
          | true => exact PySem.W.KeqHitsP.hit (b := true) h1 h2.eqP (ih rfl)
    · rw [el]
      simpa using q
theorem op_neL (hu : X.A.units + 64 < cLine) : OpR X (compareOp .NotEq) (rNeL X.K) := fun pins s σ H x y v u Q I rx ry ⟨⟨a, b, xs, ys, ex, ey, ea, eb, hp⟩, q⟩ => by
  subst ex ey
  cases (show v = Value.ref a from rx)
  cases (show u = Value.ref b from ry)
  obtain ⟨us, r1, p1, _⟩ := I.list (.inl (.inl ea))
  obtain ⟨ws, r2, p2, _⟩ := I.list (.inl (.inl eb))
  have hsz : us.toArray.size = ws.toArray.size := by
    rw [List.size_toArray, List.size_toArray, ← r1.length, ← r2.length]
    exact Paired.length hp
  refine ne_lists p1.isList p2.isList hsz (by omega) (fun j h1 h2 => ?_) _ _ ⟨.bl false, H, I, rfl, q⟩
  have k := items_run (P := X.prog) (w := X.w) (A := X.A.in1) (s := s) (F := fun u v => EqW X.K H u v ∨ DicW X.K H u v) (fun x y v u h rx ry => by
    rcases h with h | h
    · exact (eqW_at I (by show X.A.units + 1 + 50 < cLine; omega) h rx ry).eqP
    · exact dicW_at I (by show X.A.units + 1 + 52 < cLine; omega) h rx ry) hp r1 r2 j (by simpa using h1) (by simpa using h2)
  simpa using k
def rNeX (K : PySem.W.Frag) : R2 := fun x y H Q => rNe x y H Q ∨ rNeD K x y H Q ∨ rNeK K x y H Q ∨ rNeL K x y H Q
theorem op_eqX (hu : X.A.units + 64 < cLine) : OpR X (compareOp .Eq) (rEqX X.K) := op_eq.or (op_eqD hu)
theorem op_neX (hu : X.A.units + 64 < cLine) : OpR X (compareOp .NotEq) (rNeX X.K) := op_ne.or ((op_neD hu).or ((op_neK hu).or (op_neL hu)))
def rLtX : R2 := rI0 fun i j => .bl (decide (i < j))
def rLeX : R2 := rI0 fun i j => .bl (decide (i ≤ j))
def rGtX : R2 := rI0 fun i j => .bl (decide (j < i))
def rGeX : R2 := rI0 fun i j => .bl (decide (j ≤ i))
theorem op_ltX : OpR X (compareOp .Lt) rLtX := op_lt
theorem op_leX : OpR X (compareOp .LtE) rLeX := op_le
theorem op_gtX : OpR X (compareOp .Gt) rGtX := op_gt
theorem op_geX : OpR X (compareOp .GtE) rGeX := op_ge
def rInDic : R2 := fun y x H Q => ∃ a o, x = .ref a ∧ DGet H a y o ∧ Q (.bl o.isSome) H
def rNiDic : R2 := fun y x H Q => ∃ a o, x = .ref a ∧ DGet H a y o ∧ Q (.bl (!o.isSome)) H
theorem op_inDic (hu : X.A.units + 1 < cLine) : OpR X (compareOp .In) rInDic := by
  intro pins s σ H y x iv u Q I ry rx h
  obtain ⟨a, o, rfl, g, q⟩ := h
  obtain rfl : u = Value.ref a := rx
  exact d_in hu I g ry fun s3 I3 => ⟨.bl o.isSome, H, I3, rfl, q⟩
theorem op_niDic (hu : X.A.units + 1 < cLine) : OpR X (compareOp .NotIn) rNiDic := by
  intro pins s σ H y x iv u Q I ry rx h
  obtain ⟨a, o, rfl, g, q⟩ := h
  obtain rfl : u = Value.ref a := rx
  exact d_notIn hu I g ry fun s3 I3 => ⟨.bl (!o.isSome), H, I3, rfl, q⟩
def rInSig : R2 := fun x y H Q => ∃ (c : Nat) (z : Str), x = .str ⟨#[c]⟩ ∧ y = .str z ∧ Q (.bl (decide (c ∈ z.cps.toList))) H
def rNiSig : R2 := fun x y H Q => ∃ (c : Nat) (z : Str), x = .str ⟨#[c]⟩ ∧ y = .str z ∧ Q (.bl (!decide (c ∈ z.cps.toList))) H
def rInX (K : PySem.W.Frag) : R2 := fun x y H Q => rInDic x y H Q ∨ rInSig x y H Q ∨ rInD K x y H Q
def rNiX (K : PySem.W.Frag) : R2 := fun x y H Q => rNiDic x y H Q ∨ rNiSig x y H Q ∨ rNotInD K x y H Q
theorem op_inX (hu : X.A.units + 65 < cLine) : OpR X (compareOp .In) (rInX X.K) := (op_inDic (by omega)).or (OpR.or (r := rInSig) op_in_sign (op_inD hu))
theorem op_niX (hu : X.A.units + 65 < cLine) : OpR X (compareOp .NotIn) (rNiX X.K) := (op_niDic (by omega)).or (OpR.or (r := rNiSig) op_notIn_sign (op_notInD hu))
def rIsN : R2 := fun x y H Q => y = .non ∧ Q (.bl (decide (x = .non))) H
def rNtN : R2 := fun x y H Q => y = .non ∧ Q (.bl (!decide (x = .non))) H
theorem op_isX : OpR X (compareOp .Is) rIsN := op_isN
theorem op_ntX : OpR X (compareOp .IsNot) rNtN := op_notN
/-! subscripts -/
def rIxD : R2 := fun x y H Q => ∃ a v, x = .ref a ∧ DGet H a y (some v) ∧ Q v H
theorem ix_dict (hu : X.A.units + 1 < cLine) : IxR X rIxD := by
  intro value slice pins s σ H x y v u Q I rx ry h hs
  obtain ⟨a, z, rfl, g, q⟩ := h
  obtain rfl : v = Value.ref a := rx
  have go : wpAny (model X.prog X.w) X.A (getItem (.ref a) u) (EP X pins σ Q) X.xe s := d_getItem hu I g ry fun w' s3 I3 rw' => ⟨z, H, I3, rw', q⟩
  have hT := dict_typeIs I g
  unfold subscriptTail
  refine wpAny_bind ?_
  rw [getitemInPython_of_ne hT.not_modules]
  refine wpAny_bind (wpAny_specialOf hT PySem.F.slot_dict_getitem.lookup ?_)
  have fin : wpAny (model X.prog X.w) X.A (subscripted slice false (.ref a) u) (fun r s3 => wpAny (model X.prog X.w) X.A (letTemporaryGo value (.ref a) r >>= fun _ => pure r) (EP X pins σ Q) X.xe s3) X.xe s := by
    rw [hs]
    exact wpAny_operating (wpAny_mono go (fun r s3 h3 => wpAny_bind (wpAny_letTemporaryGo (wpAny_pure h3))) fun _ _ x => x)
  first
    | exact wpAny_pure (wpAny_bind fin)
    | exact wpAny_bind (wpAny_pure (wpAny_bind fin))
    | exact wpAny_bind fin
def rIxX (K : PySem.W.Frag) : R2 := fun x y H Q => rIxL K x y H Q ∨ rIxT K x y H Q ∨ rIxS x y H Q ∨ rIxD x y H Q
theorem ix_X (hu : X.A.units + 1 < cLine) : IxR X (rIxX X.K) := ix_list.or (ix_tup.or (ix_str.or (ix_dict hu)))
def rSlX (K : PySem.W.Frag) : V → Option Int → Option Int → Hp → VK → Prop := fun x lo hi H Q => rSlL K x lo hi H Q ∨ rSlA K x lo hi H Q ∨ rSlS x lo hi H Q
theorem sl_X : SlR X (rSlX X.K) := sl_list.or (SlR.or sl_tupA sl_str)
/-! calls of built-ins -/
def rLenX (K : PySem.W.Frag) : List V → Hp → VK → Prop := fun xs H Q => (∃ x n, xs = [x] ∧ LenV K x H n ∧ Q (.int n) H) ∨ ∃ a kvs, xs = [V.ref a] ∧ H a = some (.dK kvs) ∧ Q (.int kvs.length) H
theorem call_lenX : CallR X (.builtin "len") (rLenX X.K) := CallR.or call_len call_lenD
def rSortX (K : PySem.W.Frag) : List V → Hp → VK → Prop := fun xs H Q => rSorted K xs H Q ∨ rSortedS K xs H Q
theorem call_sortX : CallR X (.builtin "sorted") (rSortX X.K) := CallR.or cr_sorted cr_sortedS
def rLiS (K : PySem.W.Frag) : List V → Hp → VK → Prop := fun xs H Q => ∃ p ys, xs = [.ref p] ∧ (SqL K H p ys ∨ SqT K H p ys) ∧ ∀ l, H l = none → Q (.ref l) (upd H l (.lst ys))
def rListX (K : PySem.W.Frag) : List V → Hp → VK → Prop := fun xs H Q => rLiS K xs H Q ∨ rListD xs H Q
theorem call_listX (hc : X.calm = true) : CallR X (.type "list") (rListX X.K) := CallR.or call_list_of (call_list_dK hc)
def rTupX (K : PySem.W.Frag) : List V → Hp → VK → Prop := fun xs H Q => ∃ p ys, xs = [.ref p] ∧ ((SqL K H p ys ∧ ∀ l, H l = none → Q (.ref l) (upd H l (.tup ys))) ∨ (SqT K H p ys ∧ Q (.ref p) H))
theorem call_tupX : CallR X (.type "tuple") (rTupX X.K) := call_tuple_of
def rDicX : List V → Hp → VK → Prop := fun xs H Q => ∃ a kvs, xs = [V.ref a] ∧ H a = some (.dK kvs) ∧ ∀ p, H p = none → Q (.ref p) (upd H p (.dK kvs))
theorem call_dicX : CallR X (.type "dict") rDicX := by
  intro pins s σ H xs us Q I r h
  obtain ⟨a, kvs, rfl, e, q⟩ := h
  rw [Vals.ref1 r]
  exact d_copyOf I (.inl e) fun p s' hp I' => ⟨.ref p, _, I', rfl, q p hp⟩
def rStrX : List V → Hp → VK → Prop := fun xs H Q => ∃ i, xs = [.int i] ∧ i.natAbs.log2 < 1920 ∧ Q (.str (toString i)) H
theorem call_strX : CallR X (.type "str") rStrX := call_str_int
def rInt1 : List V → Hp → VK → Prop := fun xs H Q => (∃ i, xs = [.int i] ∧ Q (.int i) H) ∨ ∃ k, xs = [.bl k] ∧ Q (.int (if k then 1 else 0)) H
def rIntS : List V → Hp → VK → Prop := fun xs H Q => ∃ a n, xs = [.str a] ∧ PySem.intText? a = some n ∧ a.length ≤ 640 ∧ Q (.int n) H
def rIntX : List V → Hp → VK → Prop := fun xs H Q => rInt1 xs H Q ∨ rIntS xs H Q
theorem call_intX : CallR X (.type "int") rIntX := CallR.or call_int1 call_int_str
def rMinX : List V → Hp → VK → Prop := fun xs H Q => ∃ i j, xs = [.int i, .int j] ∧ Q (.int (if j < i then j else i)) H
def rMaxX : List V → Hp → VK → Prop := fun xs H Q => ∃ i j, xs = [.int i, .int j] ∧ Q (.int (if j > i then j else i)) H
theorem call_minX (hc : X.calm = true) : CallR X (.builtin "min") rMinX := call_min2 hc
theorem call_maxX (hc : X.calm = true) : CallR X (.builtin "max") rMaxX := call_max2 hc
theorem call_allX (hc : X.calm = true) : CallR X (.builtin "all") (rAll X.K) := cr_all hc
theorem call_anyX (hc : X.calm = true) : CallR X (.builtin "any") (rAny X.K) := cr_any hc
theorem call_isiX : CallR X (.builtin "isinstance") (rIsi X.K) := call_isi
/-! stores by an index -/
def rSetX : V → V → V → Hp → (Hp → Prop) → Prop := fun o i v H Q => rSetL o i v H Q ∨ ∃ a H', o = .ref a ∧ DPut H a i v H' ∧ Q H'
theorem set_X (hu : X.A.units + 1 < cLine) : PSet X rSetX := by
  intro pins s σ H o i v ov iv u Q I r1 r2 r3 h
  rcases h with h | ⟨a, H', rfl, g, q⟩
  · exact set_list pins s σ H o i v ov iv u Q I r1 r2 r3 h
  · obtain rfl : ov = Value.ref a := r1
    exact d_setItem hu I g r2 r3 fun s4 I4 => ⟨H', I4, q⟩
/-! what a for walks: a list, a tuple, a text -/
def iStrX (te : TE) : TI := iStr te
def iX (K : PySem.W.Frag) (te : TE) : TI := fun σ H R => iList K te σ H R ∨ iTup K te σ H R ∨ iStr te σ H R
theorem pi_X {tg e : Expr} {te : TE} (he : PE X e te) : PI X tg e (iX X.K te) := by
  refine ⟨fun pins s σ H R I h => ?_⟩
  rcases h with h | h | h
  · exact (pi_list he).run pins s σ H R I h
  · exact (pi_tup he).run pins s σ H R I h
  · exact (pi_str he).run pins s σ H R I h
/-! methods -/
def rInsert : V → List V → Hp → VK → Prop := fun x vs H Q => ∃ (l : Addr) (xs : List V) (i : Int) (y : V), x = .ref l ∧ vs = [.int i, y] ∧ H l = some (.lst xs) ∧ xs.length < sizeLine ∧ 0 ≤ i ∧ i < 2 ^ 63 ∧ Q .non (upd H l (.lst (xs.take i.toNat ++ [y] ++ xs.drop i.toNat)))
theorem mt_insertX : MtR X "list.insert" rInsert := mt_insert
def rJoin (K : PySem.W.Frag) : V → List V → Hp → VK → Prop := fun x xs H Q => ∃ a p, ∃ ys : List Str, x = .str a ∧ xs = [.ref p] ∧ (SqL K H p (ys.map V.str) ∨ SqT K H p (ys.map V.str)) ∧ (ys.map (·.length)).sum + ys.length * a.length ≤ 16777216 ∧ Q (.str (Txt.join a ys)) H
theorem mt_joinX : MtR X "str.join" (rJoin X.K) := mt_join
def rSplit : V → List V → Hp → VK → Prop := fun x xs H Q => ∃ a b, x = .str a ∧ xs = [.str b] ∧ (b.length == 0) = false ∧ a.length + 2 ≤ sizeLine ∧ rNewStrs (Txt.split a b) H Q
theorem mt_splitX : MtR X "str.split" rSplit := mt_split
end
end Sf

/-! Evaluation at the level of data. -/
namespace Sf
open PySem PySem.Spec PyProof.Rows L2
/-- a scalar as a value; what a value is as data -/
def scV : D → Option V
  | .non => some .non
  | .bl b => some (.bl b)
  | .int i => some (.int i)
  | .str x => some (.str x)
  | _ => none
def okV : V → Prop
  | .str x => sOk x
  | _ => True
theorem rp_scal {K : PySem.W.Frag} {H : Hp} {d : D} {v : V} (h : scV d = some v) (o : okV v) : Rp K H v d := by
  cases d <;> simp only [scV, Option.some.injEq, reduceCtorEq] at h <;> subst h
  · exact .non
  · exact .bl _
  · exact .int _
  · exact .str _ o
theorem scal_of {K : PySem.W.Frag} {H : Hp} {d : D} {v w : V} (h : scV d = some v) (r : Rp K H w d) : w = v ∧ okV v := by
  cases r <;> simp only [scV, Option.some.injEq, reduceCtorEq] at h <;> subst h <;> first | exact ⟨rfl, trivial⟩ | exact ⟨rfl, by assumption⟩
theorem scal_any {K : PySem.W.Frag} {H H' : Hp} {d : D} {v w : V} (h : scV d = some v) (r : Rp K H w d) : Rp K H' w d := by
  obtain ⟨rfl, o⟩ := scal_of h r
  exact rp_scal h o
def isNonD : D → Bool
  | .non => true
  | _ => false
/-- scalars all -/
abbrev ScA (ds : List D) : Prop := ∀ d ∈ ds, (scV d).isSome = true
theorem scal_all {K : PySem.W.Frag} {H H' : Hp} : ∀ {ds : List D} {vs : List V}, ScA ds → RpA K H vs ds → RpA K H' vs ds
  | [], _, _, h => by cases h; exact .nil
  | d :: ds, _, q, h => by
    cases h with
    | cons a b =>
      obtain ⟨v, e⟩ := Option.isSome_iff_exists.mp (q d List.mem_cons_self)
      exact .cons (scal_any e a) (scal_all (fun x hx => q x (List.mem_cons_of_mem _ hx)) b)

section
variable (K : PySem.W.Frag)
structure EvV (te : TE) (Γ : List Sl) (v : V) : Prop where
  run : ∀ W A B σ, EnvAt K W A B Γ σ → ∀ Q : VK, (∀ A' B', Gr A B A' B' → okV v → Q v B') → te σ B Q
structure EvT (tt : TT) (Γ : List Sl) (b : Bool) : Prop where
  run : ∀ W A B σ, EnvAt K W A B Γ σ → ∀ Q : Bool → Hp → Prop, (∀ A' B', Gr A B A' B' → Q b B') → tt σ B Q
structure EvW (te : TE) (Γ : List Sl) (d : D) : Prop where
  run : ∀ W A B σ, EnvAt K W A B Γ σ → ∀ Q : VK, (∀ v A' B', Gr A B A' B' → Rp K B' v d → Q v B') → te σ B Q
/-- a list, a dict: the object anywhere, what is in it fixed -/
structure EvL (te : TE) (Γ : List Sl) (ds : List D) : Prop where
  run : ∀ W A B σ, EnvAt K W A B Γ σ → ∀ Q : VK, (∀ p xs A' B', Gr A B A' B' → B' p = some (.lst xs) → RpA K A' xs ds → Q (.ref p) B') → te σ B Q
structure EvK (te : TE) (Γ : List Sl) (ds : List (Key × D)) : Prop where
  run : ∀ W A B σ, EnvAt K W A B Γ σ → ∀ Q : VK, (∀ p xs A' B', Gr A B A' B' → B' p = some (.dK xs) → RpK K A' xs ds → Q (.ref p) B') → te σ B Q
structure EvM (te : TE) (Γ : List Sl) (ds : List (List Key × D)) : Prop where
  run : ∀ W A B σ, EnvAt K W A B Γ σ → ∀ Q : VK, (∀ p xs A' B', Gr A B A' B' → B' p = some (.dT xs) → RpT K A' xs ds → Q (.ref p) B') → te σ B Q
/-- what a slot may then hold -/
structure EvO (te : TE) (Γ : List Sl) (s : Sl) : Prop where
  run : ∀ W A B σ, EnvAt K W A B Γ σ → ∀ Q : VK, (∀ v A' B' fp, Gr A B A' B' → SlOk K A' B' s (some v) fp → (∀ p ∈ fp, B p = none) → Q v B') → te σ B Q
abbrev EvF (te : TE) (Γ : List Sl) (d : D) : Prop := EvO K te Γ (.im d)
structure EvA (ta : TA) (Γ : List Sl) (ds : List D) : Prop where
  run : ∀ W A B σ, EnvAt K W A B Γ σ → ∀ Q : List V → Hp → Prop, (∀ vs A' B', Gr A B A' B' → RpA K A' vs ds → Q vs B') → ta σ B Q
structure EvAW (ta : TA) (Γ : List Sl) (ds : List D) : Prop where
  run : ∀ W A B σ, EnvAt K W A B Γ σ → ∀ Q : List V → Hp → Prop, (∀ vs A' B', Gr A B A' B' → RpA K B' vs ds → Q vs B') → ta σ B Q
structure EvAV (ta : TA) (Γ : List Sl) (vs : List V) : Prop where
  run : ∀ W A B σ, EnvAt K W A B Γ σ → ∀ Q : List V → Hp → Prop, (∀ A' B', Gr A B A' B' → Q vs B') → ta σ B Q
end
section
variable {K : PySem.W.Frag} {Γ : List Sl} {te ta tb tc : TE} {i : Nat} {d e : D} {v x y : V} {ds es : List D}
/-! ### from one to another -/
theorem EvV.f (h : EvV K te Γ v) (hd : scV d = some v) : EvF K te Γ d := ⟨fun W A B σ E Q q => h.run W A B σ E Q fun A' B' g o => q v A' B' [] g ⟨rfl, v, rfl, rp_scal hd o⟩ (fun _ z => nomatch z)⟩
theorem EvO.w (h : EvF K te Γ d) : EvW K te Γ d := ⟨fun W A B σ E Q q => h.run W A B σ E Q fun v A' B' fp g ok _ => by
  obtain ⟨_, w, e, r⟩ := ok
  cases e
  exact q _ A' B' g (r.mono g.sub)⟩
theorem EvV.w (h : EvV K te Γ v) (hd : scV d = some v) : EvW K te Γ d := (h.f hd).w
theorem EvO.sc (h : EvF K te Γ d) (hd : scV d = some v) : EvV K te Γ v := ⟨fun W A B σ E Q q => h.run W A B σ E Q fun w A' B' fp g ok _ => by
  obtain ⟨_, w', e, r⟩ := ok
  cases e
  obtain ⟨rfl, o⟩ := scal_of hd r
  exact q A' B' g o⟩
theorem EvW.sc (h : EvW K te Γ d) (hd : scV d = some v) : EvV K te Γ v := ⟨fun W A B σ E Q q => h.run W A B σ E Q fun w A' B' g r => by
  obtain ⟨rfl, o⟩ := scal_of hd r
  exact q A' B' g o⟩
theorem EvO.l (h : EvF K te Γ (.lst ds)) : EvL K te Γ ds := ⟨fun W A B σ E Q q => h.run W A B σ E Q fun w A' B' fp g ok _ => by
  obtain ⟨_, w', e, r⟩ := ok
  cases e
  cases r with
  | lst s r => exact q _ _ A' B' g (g.sub _ _ s) r⟩
theorem EvO.ll (h : EvO K te Γ (.ow ds)) : EvL K te Γ ds := ⟨fun W A B σ E Q q => h.run W A B σ E Q fun w A' B' fp g ok _ => by
  obtain ⟨p, xs, e, _, h1, h2, h3⟩ := ok
  cases e
  exact q _ _ A' B' g h2 h3⟩
theorem EvO.k {kvs : List (Key × D)} (h : EvF K te Γ (.dk kvs)) : EvK K te Γ kvs := ⟨fun W A B σ E Q q => h.run W A B σ E Q fun w A' B' fp g ok _ => by
  obtain ⟨_, w', e, r⟩ := ok
  cases e
  cases r with
  | dk s r => exact q _ _ A' B' g (g.sub _ _ s) r⟩
theorem EvO.m {kvs : List (List Key × D)} (h : EvF K te Γ (.dt kvs)) : EvM K te Γ kvs := ⟨fun W A B σ E Q q => h.run W A B σ E Q fun w A' B' fp g ok _ => by
  obtain ⟨_, w', e, r⟩ := ok
  cases e
  cases r with
  | dt s r => exact q _ _ A' B' g (g.sub _ _ s) r⟩
theorem EvL.w (h : EvL K te Γ ds) : EvW K te Γ (.lst ds) := ⟨fun W A B σ E Q q => h.run W A B σ E Q fun p xs A' B' g s r => q _ A' B' g (.lst s (r.mono g.sub))⟩
theorem EvK.w {kvs : List (Key × D)} (h : EvK K te Γ kvs) : EvW K te Γ (.dk kvs) := ⟨fun W A B σ E Q q => h.run W A B σ E Q fun p xs A' B' g s r => q _ A' B' g (.dk s (r.mono g.sub))⟩
theorem EvM.w {kvs : List (List Key × D)} (h : EvM K te Γ kvs) : EvW K te Γ (.dt kvs) := ⟨fun W A B σ E Q q => h.run W A B σ E Q fun p xs A' B' g s r => q _ A' B' g (.dt s (r.mono g.sub))⟩
/-- a new list | dict is fixed -/
theorem EvO.fixL (h : EvO K te Γ (.ow ds)) : EvF K te Γ (.lst ds) := ⟨fun W A B σ E Q q => h.run W A B σ E Q fun w A' B' fp g ok hn => by
  obtain ⟨p, xs, e, rfl, h1, h2, h3⟩ := ok
  cases e
  have hp := hn p List.mem_cons_self
  exact q _ _ B' [] (g.fixed hp h1 h2) ⟨rfl, _, rfl, .lst upd_same (h3.mono (Evl.Ex.new h1))⟩ (fun _ z => nomatch z)⟩
theorem EvO.fixK {kvs : List (Key × D)} (h : EvO K te Γ (.ok kvs)) : EvF K te Γ (.dk kvs) := ⟨fun W A B σ E Q q => h.run W A B σ E Q fun w A' B' fp g ok hn => by
  obtain ⟨p, xs, e, rfl, h1, h2, h3⟩ := ok
  cases e
  have hp := hn p List.mem_cons_self
  exact q _ _ B' [] (g.fixed hp h1 h2) ⟨rfl, _, rfl, .dk upd_same (h3.mono (Evl.Ex.new h1))⟩ (fun _ z => nomatch z)⟩
theorem EvO.fixT {kvs : List (List Key × D)} (h : EvO K te Γ (.ot kvs)) : EvF K te Γ (.dt kvs) := ⟨fun W A B σ E Q q => h.run W A B σ E Q fun w A' B' fp g ok hn => by
  obtain ⟨p, xs, e, rfl, h1, h2, h3⟩ := ok
  cases e
  have hp := hn p List.mem_cons_self
  exact q _ _ B' [] (g.fixed hp h1 h2) ⟨rfl, _, rfl, .dt upd_same (h3.mono (Evl.Ex.new h1))⟩ (fun _ z => nomatch z)⟩
theorem EvO.un {s : Sl} (h : EvO K te Γ s) : EvO K te Γ .un := ⟨fun W A B σ E Q q => h.run W A B σ E Q fun w A' B' fp g ok hn => q w A' B' [] g rfl (fun _ z => nomatch z)⟩
theorem EvV.un (h : EvV K te Γ v) : EvO K te Γ .un := ⟨fun W A B σ E Q q => h.run W A B σ E Q fun A' B' g _ => q v A' B' [] g rfl (fun _ z => nomatch z)⟩
theorem EvW.un (h : EvW K te Γ d) : EvO K te Γ .un := ⟨fun W A B σ E Q q => h.run W A B σ E Q fun v A' B' g _ => q v A' B' [] g rfl (fun _ z => nomatch z)⟩
theorem EvV.to (h : EvV K te Γ x) (e : x = y) : EvV K te Γ y := e ▸ h
theorem EvO.to {s t : Sl} (h : EvO K te Γ s) (e : s = t) : EvO K te Γ t := e ▸ h
theorem EvL.to (h : EvL K te Γ ds) (e : ds = es) : EvL K te Γ es := e ▸ h
theorem EvT.to {tt : TT} {a b : Bool} (h : EvT K tt Γ a) (e : a = b) : EvT K tt Γ b := e ▸ h

/-! ### names, constants -/
theorem evf_var (h : Γ[i]? = some (.im d)) : EvF K (tVar i) Γ d := ⟨fun W A B σ E Q q => by
  obtain ⟨v, h1, h2⟩ := E.im h
  exact ⟨v, h1, q v A B [] (.refl E.ex) ⟨rfl, v, rfl, h2⟩ fun _ z => nomatch z⟩⟩
theorem evl_var (h : Γ[i]? = some (.ow ds)) : EvL K (tVar i) Γ ds := ⟨fun W A B σ E Q q => by
  obtain ⟨fp, ⟨p, xs, e, _, h1, h2, h3⟩, _⟩ := E.at h
  exact ⟨.ref p, slotRef e, q p xs A B (.refl E.ex) h2 h3⟩⟩
theorem evk_var {kvs : List (Key × D)} (h : Γ[i]? = some (.ok kvs)) : EvK K (tVar i) Γ kvs := ⟨fun W A B σ E Q q => by
  obtain ⟨fp, ⟨p, xs, e, _, h1, h2, h3⟩, _⟩ := E.at h
  exact ⟨.ref p, slotRef e, q p xs A B (.refl E.ex) h2 h3⟩⟩
theorem evm_var {kvs : List (List Key × D)} (h : Γ[i]? = some (.ot kvs)) : EvM K (tVar i) Γ kvs := ⟨fun W A B σ E Q q => by
  obtain ⟨fp, ⟨p, xs, e, _, h1, h2, h3⟩, _⟩ := E.at h
  exact ⟨.ref p, slotRef e, q p xs A B (.refl E.ex) h2 h3⟩⟩
theorem evv_int {n : Int} (h : Γ[i]? = some (.im (.int n))) : EvV K (tVar i) Γ (.int n) := (evf_var h).sc rfl
theorem evv_bl {n : Bool} (h : Γ[i]? = some (.im (.bl n))) : EvV K (tVar i) Γ (.bl n) := (evf_var h).sc rfl
theorem evv_non (h : Γ[i]? = some (.im .non)) : EvV K (tVar i) Γ .non := (evf_var h).sc rfl
theorem evv_str {n : Str} (h : Γ[i]? = some (.im (.str n))) : EvV K (tVar i) Γ (.str n) := (evf_var h).sc rfl
theorem evv_c (o : okV v := by first | exact trivial | (show PyData.strOk _ = true; decide +kernel)) : EvV K (tC v) Γ v := ⟨fun W A B σ E Q q => q A B (.refl E.ex) o⟩

/-! ### operators on scalars -/
theorem evv_op {r : R2} {z : V} (ha : EvV K ta Γ x) (hb : EvV K tb Γ y) (o : okV x → okV y → okV z) (hr : ∀ (H : Hp) (Q : VK), Q z H → r x y H Q) : EvV K (tOp r ta tb) Γ z := ⟨fun W A B σ E Q q =>
  ha.run W A B σ E _ fun A1 B1 g1 o1 => hb.run W A1 B1 σ (E.grow g1) _ fun A2 B2 g2 o2 => hr B2 Q (q A2 B2 (g1.trans g2) (o o1 o2))⟩
variable {m n : Int}
theorem ev_add (ha : EvV K ta Γ (.int m)) (hb : EvV K tb Γ (.int n)) : EvV K (tOp (rAddX K) ta tb) Γ (.int (m + n)) := evv_op ha hb (fun _ _ => trivial) fun _ _ q => .inl ⟨m, n, rfl, rfl, q⟩
theorem ev_sub (ha : EvV K ta Γ (.int m)) (hb : EvV K tb Γ (.int n)) : EvV K (tOp rSubX ta tb) Γ (.int (m - n)) := evv_op ha hb (fun _ _ => trivial) fun _ _ q => ⟨m, n, rfl, rfl, q⟩
theorem ev_mul (ha : EvV K ta Γ (.int m)) (hb : EvV K tb Γ (.int n)) (hm : IntMulOk m n) : EvV K (tOp rMulX ta tb) Γ (.int (m * n)) := evv_op ha hb (fun _ _ => trivial) fun _ _ q => .inl ⟨m, n, rfl, rfl, hm, q⟩
theorem mul_ok_r {m n : Int} (h : -(2 ^ 64) < n ∧ n < 2 ^ 64) : IntMulOk m n := CMul.ok (.inr h)
theorem mul_ok_l {m n : Int} (h : -(2 ^ 64) < m ∧ m < 2 ^ 64) : IntMulOk m n := CMul.ok (.inl h)
theorem ev_div (ha : EvV K ta Γ (.int m)) (hb : EvV K tb Γ (.int n)) (hn : 0 < n ∧ n < 1073741824) : EvV K (tOp rDivX ta tb) Γ (.int (m / n)) := evv_op ha hb (fun _ _ => trivial) fun _ _ q => ⟨m, n, rfl, rfl, hn, q⟩
theorem ev_mod (ha : EvV K ta Γ (.int m)) (hb : EvV K tb Γ (.int n)) (hn : 0 < n) : EvV K (tOp rModX ta tb) Γ (.int (m % n)) := evv_op ha hb (fun _ _ => trivial) fun _ _ q => ⟨m, n, rfl, rfl, hn, q⟩
theorem ev_pow (ha : EvV K ta Γ (.int m)) (hb : EvV K tb Γ (.int n)) (hn : CPow m n) : EvV K (tOp rPowX ta tb) Γ (.int (m ^ n.toNat)) := evv_op ha hb (fun _ _ => trivial) fun _ _ q => ⟨m, n, rfl, rfl, hn, q⟩
theorem ev_neg (ha : EvV K ta Γ (.int m)) : EvV K (tUn (rU fun i => .int (-i)) ta) Γ (.int (-m)) := ⟨fun W A B σ E Q q => ha.run W A B σ E _ fun A1 B1 g1 _ => ⟨m, rfl, q A1 B1 g1 trivial⟩⟩
theorem ev_lt (ha : EvV K ta Γ (.int m)) (hb : EvV K tb Γ (.int n)) : EvV K (tOp rLtX ta tb) Γ (.bl (decide (m < n))) := evv_op ha hb (fun _ _ => trivial) fun _ _ q => ⟨m, n, rfl, rfl, q⟩
theorem ev_le (ha : EvV K ta Γ (.int m)) (hb : EvV K tb Γ (.int n)) : EvV K (tOp rLeX ta tb) Γ (.bl (decide (m ≤ n))) := evv_op ha hb (fun _ _ => trivial) fun _ _ q => ⟨m, n, rfl, rfl, q⟩
theorem ev_gt (ha : EvV K ta Γ (.int m)) (hb : EvV K tb Γ (.int n)) : EvV K (tOp rGtX ta tb) Γ (.bl (decide (n < m))) := evv_op ha hb (fun _ _ => trivial) fun _ _ q => ⟨m, n, rfl, rfl, q⟩
theorem ev_ge (ha : EvV K ta Γ (.int m)) (hb : EvV K tb Γ (.int n)) : EvV K (tOp rGeX ta tb) Γ (.bl (decide (n ≤ m))) := evv_op ha hb (fun _ _ => trivial) fun _ _ q => ⟨m, n, rfl, rfl, q⟩
theorem ev_eq (ha : EvV K ta Γ x) (hb : EvV K tb Γ y) (hs : scal x y = true := by rfl) : EvV K (tOp (rEqX K) ta tb) Γ (.bl (decide (x = y))) := evv_op ha hb (fun _ _ => trivial) fun _ _ q => .inl ⟨hs, q⟩
theorem ev_ne (ha : EvV K ta Γ x) (hb : EvV K tb Γ y) (hs : scal x y = true := by rfl) : EvV K (tOp (rNeX K) ta tb) Γ (.bl (!decide (x = y))) := evv_op ha hb (fun _ _ => trivial) fun _ _ q => .inl ⟨hs, q⟩
theorem di {p q : Int} : decide (V.int p = V.int q) = decide (p = q) := by by_cases h : p = q <;> simp [h]
theorem ds' {p q : Str} : decide (V.str p = V.str q) = decide (p = q) := by by_cases h : p = q <;> simp [h]
theorem db {p q : Bool} : decide (V.bl p = V.bl q) = decide (p = q) := by by_cases h : p = q <;> simp [h]
theorem ev_eqi (ha : EvV K ta Γ (.int m)) (hb : EvV K tb Γ (.int n)) : EvV K (tOp (rEqX K) ta tb) Γ (.bl (decide (m = n))) := (ev_eq ha hb).to (by rw [di])
theorem ev_nei (ha : EvV K ta Γ (.int m)) (hb : EvV K tb Γ (.int n)) : EvV K (tOp (rNeX K) ta tb) Γ (.bl (!decide (m = n))) := (ev_ne ha hb).to (by rw [di])
variable {u w : Str}
theorem ev_eqs (ha : EvV K ta Γ (.str u)) (hb : EvV K tb Γ (.str w)) : EvV K (tOp (rEqX K) ta tb) Γ (.bl (decide (u = w))) := (ev_eq ha hb).to (by rw [ds'])
theorem ev_nes (ha : EvV K ta Γ (.str u)) (hb : EvV K tb Γ (.str w)) : EvV K (tOp (rNeX K) ta tb) Γ (.bl (!decide (u = w))) := (ev_ne ha hb).to (by rw [ds'])
theorem ev_eqb {p q : Bool} (ha : EvV K ta Γ (.bl p)) (hb : EvV K tb Γ (.bl q)) : EvV K (tOp (rEqX K) ta tb) Γ (.bl (decide (p = q))) := (ev_eq ha hb).to (by rw [db])
theorem ev_neb {p q : Bool} (ha : EvV K ta Γ (.bl p)) (hb : EvV K tb Γ (.bl q)) : EvV K (tOp (rNeX K) ta tb) Γ (.bl (!decide (p = q))) := (ev_ne ha hb).to (by rw [db])
theorem sOk_app {u w : Str} (a : sOk u) (b : sOk w) : sOk (u ++ w) := by
  have a' : u.cps.all (· < 0x110000) = true := a
  have b' : w.cps.all (· < 0x110000) = true := b
  show (u.cps ++ w.cps).all (· < 0x110000) = true
  simp only [Array.all_eq_true'] at a' b' ⊢
  intro x hx
  rcases Array.mem_append.mp hx with h | h
  · exact a' x h
  · exact b' x h
theorem ev_cat (ha : EvV K ta Γ (.str u)) (hb : EvV K tb Γ (.str w)) (hl : u.length + w.length ≤ 16000000) : EvV K (tOp (rAddX K) ta tb) Γ (.str (u ++ w)) :=
  evv_op ha hb (fun a b => sOk_app (u := u) (w := w) a b) fun _ _ q => .inr (.inl ⟨u, w, rfl, rfl, Nat.le_trans hl (by decide), q⟩)
theorem ev_isN (ha : EvW K ta Γ d) : EvV K (tOp rIsN ta (tC .non)) Γ (.bl (isNonD d)) := ⟨fun W A B σ E Q q => ha.run W A B σ E _ fun v A1 B1 g1 r => ⟨rfl, by
  have : decide (v = V.non) = isNonD d := by cases r <;> simp [isNonD]
  rw [this]; exact q A1 B1 g1 trivial⟩⟩
theorem ev_ntN (ha : EvW K ta Γ d) : EvV K (tOp rNtN ta (tC .non)) Γ (.bl (!isNonD d)) := ⟨fun W A B σ E Q q => ha.run W A B σ E _ fun v A1 B1 g1 r => ⟨rfl, by
  have : (!decide (v = V.non)) = !isNonD d := by cases r <;> simp [isNonD]
  rw [this]; exact q A1 B1 g1 trivial⟩⟩

/-! ### tests -/
variable {t t' : TT} {a b : Bool}
theorem et_v (h : EvV K te Γ (.bl b)) : EvT K (tTest te) Γ b := ⟨fun W A B σ E Q q => h.run W A B σ E _ fun A1 B1 g1 _ => ⟨b, rfl, q A1 B1 g1⟩⟩
theorem et_b (h : EvV K te Γ (.bl b)) : EvT K (tB te) Γ b := ⟨fun W A B σ E Q q => h.run W A B σ E _ fun A1 B1 g1 _ => ⟨b, rfl, q A1 B1 g1⟩⟩
theorem et_and (h1 : EvT K t Γ a) (h2 : a = true → EvT K t' Γ b) : EvT K (tAnd t t') Γ (a && b) := ⟨fun W A B σ E Q q => h1.run W A B σ E _ fun A1 B1 g1 => by
  cases a with
  | true => exact (h2 rfl).run W A1 B1 σ (E.grow g1) Q fun A2 B2 g2 => q A2 B2 (g1.trans g2)
  | false => exact q A1 B1 g1⟩
theorem et_or (h1 : EvT K t Γ a) (h2 : a = false → EvT K t' Γ b) : EvT K (tOr t t') Γ (a || b) := ⟨fun W A B σ E Q q => h1.run W A B σ E _ fun A1 B1 g1 => by
  cases a with
  | true => exact q A1 B1 g1
  | false => exact (h2 rfl).run W A1 B1 σ (E.grow g1) Q fun A2 B2 g2 => q A2 B2 (g1.trans g2)⟩
theorem et_not (h1 : EvT K t Γ a) : EvT K (tNot t) Γ (!a) := ⟨fun W A B σ E Q q => h1.run W A B σ E _ fun A1 B1 g1 => q A1 B1 g1⟩
theorem ev_andV (h1 : EvV K ta Γ (.bl a)) (h2 : a = true → EvV K tb Γ (.bl b)) : EvV K (tAndV ta tb) Γ (.bl (a && b)) := ⟨fun W A B σ E Q q => h1.run W A B σ E _ fun A1 B1 g1 _ => ⟨a, rfl, by
  cases a with
  | true => exact (h2 rfl).run W A1 B1 σ (E.grow g1) Q fun A2 B2 g2 _ => q A2 B2 (g1.trans g2) trivial
  | false => exact q A1 B1 g1 trivial⟩⟩
theorem ev_orV (h1 : EvV K ta Γ (.bl a)) (h2 : a = false → EvV K tb Γ (.bl b)) : EvV K (tOrV ta tb) Γ (.bl (a || b)) := ⟨fun W A B σ E Q q => h1.run W A B σ E _ fun A1 B1 g1 _ => ⟨a, rfl, by
  cases a with
  | true => exact q A1 B1 g1 trivial
  | false => exact (h2 rfl).run W A1 B1 σ (E.grow g1) Q fun A2 B2 g2 _ => q A2 B2 (g1.trans g2) trivial⟩⟩
theorem ev_notV (h1 : EvV K ta Γ (.bl a)) : EvV K (tNotV ta) Γ (.bl (!a)) := ⟨fun W A B σ E Q q => h1.run W A B σ E _ fun A1 B1 g1 _ => ⟨a, rfl, q A1 B1 g1 trivial⟩⟩

/-! ### arguments -/
variable {tr : TA} {vs : List V}
theorem ea_nil : EvA K tNil Γ [] := ⟨fun W A B σ E Q q => q [] A B (.refl E.ex) .nil⟩
theorem ea_cons (h : EvF K te Γ d) (hr : EvA K tr Γ ds) : EvA K (tCons te tr) Γ (d :: ds) := ⟨fun W A B σ E Q q => h.run W A B σ E _ fun v A1 B1 fp g1 ok _ => hr.run W A1 B1 σ (E.grow g1) _ fun vs A2 B2 g2 r => by
  obtain ⟨_, w, e, rv⟩ := ok
  cases e
  exact q _ A2 B2 (g1.trans g2) (.cons (rv.mono g2.fix) r)⟩
theorem eaw_nil : EvAW K tNil Γ [] := ⟨fun W A B σ E Q q => q [] A B (.refl E.ex) .nil⟩
theorem eaw_cons (h : EvW K te Γ d) (hr : EvAW K tr Γ ds) : EvAW K (tCons te tr) Γ (d :: ds) := ⟨fun W A B σ E Q q => h.run W A B σ E _ fun v A1 B1 g1 rv => hr.run W A1 B1 σ (E.grow g1) _ fun vs A2 B2 g2 r => q _ A2 B2 (g1.trans g2) (.cons (rv.mono g2.all) r)⟩
theorem eav_nil : EvAV K tNil Γ [] := ⟨fun W A B σ E Q q => q A B (.refl E.ex)⟩
theorem eav_cons (h : EvV K te Γ v) (hr : EvAV K tr Γ vs) : EvAV K (tCons te tr) Γ (v :: vs) := ⟨fun W A B σ E Q q => h.run W A B σ E _ fun A1 B1 g1 _ => hr.run W A1 B1 σ (E.grow g1) _ fun A2 B2 g2 => q A2 B2 (g1.trans g2)⟩
theorem EvA.wk {ta : TA} (h : EvA K ta Γ ds) : EvAW K ta Γ ds := ⟨fun W A B σ E Q q => h.run W A B σ E Q fun vs A' B' g r => q vs A' B' g (r.mono g.sub)⟩
/-! ### displays -/
theorem sz16 {n : Nat} (h : n ≤ 100000) : n ≤ sizeLine := Nat.le_trans h (by decide)
theorem ev_lst {ta : TA} (h : EvA K ta Γ ds) (hl : ds.length ≤ 100000) : EvO K (tLst ta) Γ (.ow ds) := ⟨fun W A B σ E Q q => h.run W A B σ E _ fun vs A1 B1 g1 r => ⟨by rw [r.length]; exact sz16 hl, fun p hp =>
  q (.ref p) A1 _ [p] (g1.trans (Gr.lay g1.sub hp)) ⟨p, vs, rfl, rfl, ex_free g1.sub hp, upd_same, r⟩ fun z hz => by rw [List.mem_singleton.mp hz]; exact ex_free g1.all hp⟩⟩
theorem ev_tup {ta : TA} (h : EvA K ta Γ ds) (hl : ds.length ≤ 100000) : EvF K (tTup ta) Γ (.tup ds) := ⟨fun W A B σ E Q q => h.run W A B σ E _ fun vs A1 B1 g1 r => ⟨by rw [r.length]; exact sz16 hl, fun p hp =>
  q (.ref p) _ _ [] (g1.trans (Gr.layF g1.sub hp)) ⟨rfl, _, rfl, .tup upd_same (r.mono (Evl.Ex.new (ex_free g1.sub hp)))⟩ fun _ z => nomatch z⟩⟩
theorem ev_newK : EvO K tDNewK Γ (.ok []) := ⟨fun W A B σ E Q q => fun p hp => q (.ref p) A _ [p] (Gr.lay E.ex hp) ⟨p, [], rfl, rfl, ex_free E.ex hp, upd_same, .nil⟩ fun z hz => by rw [List.mem_singleton.mp hz]; exact hp⟩
theorem ev_newT : EvO K tDNewT Γ (.ot []) := ⟨fun W A B σ E Q q => fun p hp => q (.ref p) A _ [p] (Gr.lay E.ex hp) ⟨p, [], rfl, rfl, ex_free E.ex hp, upd_same, .nil⟩ fun z hz => by rw [List.mem_singleton.mp hz]; exact hp⟩
end
end Sf

/-! Evaluation, further: typed data, equality, subscripts, built-ins, calls. -/
namespace Sf
open PySem PySem.Spec PyProof.Rows L2
/-! ### typed data -/
class En (α : Type) where
  data : α → D
abbrev en {α : Type} [En α] (x : α) : D := En.data x
instance : En Int := ⟨D.int⟩
instance : En Nat := ⟨fun n => D.int n⟩
instance : En Str := ⟨D.str⟩
instance : En Bool := ⟨D.bl⟩
instance {α : Type} [En α] : En (List α) := ⟨fun l => D.lst (l.map en)⟩
instance {α β : Type} [En α] [En β] : En (α × β) := ⟨fun p => D.tup [en p.1, en p.2]⟩
instance {α : Type} [En α] : En (Option α) := ⟨fun o => match o with | none => D.non | some x => en x⟩
/-- a row -/
inductive Row where
  | tell (s : Str)
  | make (s g : Str) (rs : List Str)
  deriving DecidableEq
instance : En Row := ⟨fun r => match r with | .tell s => D.tup [.str "tell", .str s] | .make s g rs => D.tup [.str "make", .str s, .str g, .tup (rs.map D.str)]⟩
abbrev Block := List Row × List Int
abbrev Prog := List Block

/-! ### equality of data -/
mutual
def py : D → PyData
  | .non => .none
  | .bl b => .bool b
  | .int i => .int i
  | .str x => .str x
  | .lst ds => .list (pyA ds)
  | .tup ds => .tuple (pyA ds)
  | .ktup ds => .tuple (pyA ds)
  | .scr ns => .list (ns.map PyData.int)
  | .dk _ => .dict []
  | .dt _ => .dict []
def pyA : List D → List PyData
  | [] => []
  | d :: ds => py d :: pyA ds
end
theorem pyA_map : ∀ ds : List D, pyA ds = ds.map py
  | [] => by rw [pyA]; rfl
  | d :: ds => by rw [pyA, pyA_map ds]; rfl
mutual
def plain : D → Bool
  | .dk _ => false
  | .dt _ => false
  | .scr _ => false
  | .lst ds => plainA ds
  | .tup ds => plainA ds
  | .ktup ds => plainA ds
  | _ => true
def plainA : List D → Bool
  | [] => true
  | d :: ds => plain d && plainA ds
end
section
variable {K : PySem.W.Frag} {H : Hp}
mutual
theorem Rp.dp : ∀ {v : V} {d : D}, Rp K H v d → plain d = true → Dp K H v (py d) ∧ (py d).canLay0 = true
  | _, _, .non, _ => ⟨by rw [py]; exact .non, by rw [py, PyData.canLay0]⟩
  | _, _, .bl b, _ => ⟨by rw [py]; exact .bl b, by rw [py, PyData.canLay0]⟩
  | _, _, .int i, _ => ⟨by rw [py]; exact .int i, by rw [py, PyData.canLay0]⟩
  | _, _, .str x h, _ => ⟨by rw [py]; exact .str x, by rw [py, PyData.canLay0]; exact h⟩
  | _, _, .lst s r, p => by
    rw [plain] at p
    obtain ⟨h1, h2⟩ := RpA.dp r p
    rw [py, PyData.canLay0]
    exact ⟨.lst (.inl (.inl s)) h1, h2⟩
  | _, _, .tup s r, p => by
    rw [plain] at p
    obtain ⟨h1, h2⟩ := RpA.dp r p
    rw [py, PyData.canLay0]
    exact ⟨.tup (.inl (.inl s)) h1, h2⟩
  | _, _, .ktup s r, p => by
    rw [plain] at p
    obtain ⟨h1, h2⟩ := RpA.dp r p
    rw [py, PyData.canLay0]
    exact ⟨.tup s h1, h2⟩
  | _, _, .scr _, p => by rw [plain] at p; cases p
  | _, _, .dk _ _, p => by rw [plain] at p; cases p
  | _, _, .dt _ _, p => by rw [plain] at p; cases p
theorem RpA.dp : ∀ {v : List V} {d : List D}, RpA K H v d → plainA d = true → DpAll K H v (pyA d) ∧ PyData.canLayAll0 (pyA d) = true
  | _, _, .nil, _ => ⟨by rw [pyA]; exact .nil, by rw [pyA, PyData.canLayAll0]⟩
  | _, _, .cons a b, p => by
    rw [plainA, Bool.and_eq_true] at p
    obtain ⟨h1, h2⟩ := Rp.dp a p.1
    obtain ⟨h3, h4⟩ := RpA.dp b p.2
    rw [pyA, PyData.canLayAll0, h2, h4]
    exact ⟨.cons h1 h3, rfl⟩
end
end
/-- data of one type are compared as values of that type are -/
class EnQ (α : Type) [En α] [DecidableEq α] where
  dep : Nat
  shape : ∀ x : α, plain (en x) = true ∧ (py (en x)).depth ≤ dep
  eqv : ∀ x y : α, PyData.eqv (py (en x)) (py (en y)) = decide (x = y)
theorem beq_dec {α : Type} [DecidableEq α] [BEq α] [LawfulBEq α] (x y : α) : (x == y) = decide (x = y) := by
  by_cases h : x = y
  · simp [h]
  · simp [h]
instance : EnQ Int := ⟨0, fun x => ⟨rfl, by show (py (D.int x)).depth ≤ 0; rw [py]; simp [PyData.depth]⟩, fun x y => by
  show PyData.eqv (py (D.int x)) (py (D.int y)) = _
  rw [py, py, PyData.eqv, beq_dec]⟩
instance : EnQ Nat := ⟨0, fun x => ⟨rfl, by show (py (D.int x)).depth ≤ 0; rw [py]; simp [PyData.depth]⟩, fun x y => by
  show PyData.eqv (py (D.int x)) (py (D.int y)) = _
  rw [py, py, PyData.eqv, beq_dec]
  by_cases h : x = y
  · simp [h]
  · have : ¬ (x : Int) = y := by omega
    simp [h, this]⟩
instance : EnQ Str := ⟨0, fun x => ⟨rfl, by show (py (D.str x)).depth ≤ 0; rw [py]; simp [PyData.depth]⟩, fun x y => by
  show PyData.eqv (py (D.str x)) (py (D.str y)) = _
  rw [py, py, PyData.eqv, beq_dec]⟩
instance : EnQ Bool := ⟨0, fun x => ⟨rfl, by show (py (D.bl x)).depth ≤ 0; rw [py]; simp [PyData.depth]⟩, fun x y => by
  show PyData.eqv (py (D.bl x)) (py (D.bl y)) = _
  rw [py, py, PyData.eqv, beq_dec]⟩
theorem plainA_map {α : Type} [En α] (h : ∀ x : α, plain (en x) = true) : ∀ l : List α, plainA (l.map en) = true
  | [] => by show plainA [] = true; rw [plainA]
  | x :: l => by
    show plainA (en x :: l.map en) = true
    rw [plainA, h x, plainA_map h l]
    all_goals rfl
theorem depthA_map {α : Type} [En α] {n : Nat} (h : ∀ x : α, (py (en x)).depth ≤ n) : ∀ l : List α, PyData.depthAll (pyA (l.map en)) ≤ n
  | [] => by show PyData.depthAll (pyA []) ≤ n; rw [pyA, PyData.depthAll]; exact Nat.zero_le _
  | x :: l => by
    show PyData.depthAll (pyA (en x :: l.map en)) ≤ n
    rw [pyA, PyData.depthAll]
    exact Nat.max_le.mpr ⟨h x, depthA_map h l⟩
theorem eqvA_map {α : Type} [En α] [DecidableEq α] (h : ∀ x y : α, PyData.eqv (py (en x)) (py (en y)) = decide (x = y)) : ∀ l m : List α, PyData.eqvAll (pyA (l.map en)) (pyA (m.map en)) = decide (l = m)
  | [], [] => by
    show PyData.eqvAll (pyA []) (pyA []) = _
    rw [pyA, PyData.eqvAll]; rfl
  | [], y :: m => by
    show PyData.eqvAll (pyA []) (pyA (en y :: m.map en)) = _
    rw [pyA, pyA, PyData.eqvAll]; simp
  | x :: l, [] => by
    show PyData.eqvAll (pyA (en x :: l.map en)) (pyA []) = _
    rw [pyA, pyA, PyData.eqvAll]; simp
  | x :: l, y :: m => by
    show PyData.eqvAll (pyA (en x :: l.map en)) (pyA (en y :: m.map en)) = _
    rw [pyA, pyA, PyData.eqvAll, h x y, eqvA_map h l m]
    by_cases e1 : x = y <;> by_cases e2 : l = m <;> simp [e1, e2]
instance {α : Type} [En α] [DecidableEq α] [q : EnQ α] : EnQ (List α) := ⟨q.dep + 1, fun l => ⟨by
  show plain (D.lst (l.map en)) = true
  rw [plain]
  exact plainA_map (fun x => (q.shape x).1) l, by
  show (py (D.lst (l.map en))).depth ≤ _
  rw [py, PyData.depth]
  exact Nat.succ_le_succ (depthA_map (fun x => (q.shape x).2) l)⟩, fun l m => by
  show PyData.eqv (py (D.lst (l.map en))) (py (D.lst (m.map en))) = _
  rw [py, py, PyData.eqv]
  exact eqvA_map q.eqv l m⟩
instance {α β : Type} [En α] [En β] [DecidableEq α] [DecidableEq β] [q : EnQ α] [r : EnQ β] : EnQ (α × β) := ⟨max q.dep r.dep + 1, fun p => ⟨by
  show plain (D.tup [en p.1, en p.2]) = true
  rw [plain, plainA, plainA, plainA, (q.shape p.1).1, (r.shape p.2).1]
  all_goals rfl, by
  show (py (D.tup [en p.1, en p.2])).depth ≤ _
  rw [py, PyData.depth, pyA, pyA, pyA, PyData.depthAll, PyData.depthAll, PyData.depthAll]
  have h1 := (q.shape p.1).2
  have h2 := (r.shape p.2).2
  omega⟩, fun p p' => by
  show PyData.eqv (py (D.tup [en p.1, en p.2])) (py (D.tup [en p'.1, en p'.2])) = _
  simp only [py, PyData.eqv, pyA, PyData.eqvAll, q.eqv, r.eqv]
  obtain ⟨a, b⟩ := p
  obtain ⟨c, d⟩ := p'
  by_cases e1 : a = c <;> by_cases e2 : b = d <;> simp [e1, e2]⟩
theorem tellNe : ("tell" : Str) ≠ "make" := by decide +kernel
theorem strMap (rs : List Str) : rs.map D.str = rs.map en := rfl
instance : EnQ Row := ⟨2, fun r => by
  cases r with
  | tell s => exact ⟨by show plain (D.tup [.str "tell", .str s]) = true; simp [plain, plainA], by show (py (D.tup [.str "tell", .str s])).depth ≤ 2; simp [py, pyA, PyData.depth, PyData.depthAll]⟩
  | make s g rs =>
    have h1 : plainA (rs.map D.str) = true := plainA_map (α := Str) (fun _ => rfl) rs
    have h2 : PyData.depthAll (pyA (rs.map D.str)) ≤ 0 := depthA_map (α := Str) (fun x => (EnQ.shape x).2) rs
    exact ⟨by show plain (D.tup [.str "make", .str s, .str g, .tup (rs.map D.str)]) = true; simp [plain, plainA, h1], by
      show (py (D.tup [.str "make", .str s, .str g, .tup (rs.map D.str)])).depth ≤ 2
      simp only [py, pyA, PyData.depth, PyData.depthAll]
      omega⟩, fun a b => by
  cases a with
  | tell s =>
    cases b with
    | tell s' =>
      show PyData.eqv (py (D.tup [.str "tell", .str s])) (py (D.tup [.str "tell", .str s'])) = _
      simp only [py, pyA, PyData.eqv, PyData.eqvAll, beq_dec, Row.tell.injEq]
      simp
    | make s' g' rs' =>
      show PyData.eqv (py (D.tup [.str "tell", .str s])) (py (D.tup [.str "make", .str s', .str g', .tup (rs'.map D.str)])) = _
      simp only [py, pyA, PyData.eqv, PyData.eqvAll, beq_dec]
      simp
  | make s g rs =>
    cases b with
    | tell s' =>
      show PyData.eqv (py (D.tup [.str "make", .str s, .str g, .tup (rs.map D.str)])) (py (D.tup [.str "tell", .str s'])) = _
      simp only [py, pyA, PyData.eqv, PyData.eqvAll, beq_dec]
      simp
    | make s' g' rs' =>
      show PyData.eqv (py (D.tup [.str "make", .str s, .str g, .tup (rs.map D.str)])) (py (D.tup [.str "make", .str s', .str g', .tup (rs'.map D.str)])) = _
      have h := eqvA_map (α := Str) EnQ.eqv rs rs'
      simp only [py, pyA, PyData.eqv, PyData.eqvAll, beq_dec]
      rw [show PyData.eqvAll (pyA (rs.map D.str)) (pyA (rs'.map D.str)) = decide (rs = rs') from h]
      by_cases e1 : s = s' <;> by_cases e2 : g = g' <;> by_cases e3 : rs = rs' <;> simp [e1, e2, e3]⟩
instance {α : Type} [En α] [DecidableEq α] [q : EnQ α] : EnQ (List α) := inferInstance
section
variable {K : PySem.W.Frag} {Γ : List Sl} {te ta tb tc : TE} {i : Nat} {d e : D} {v x y : V} {ds es : List D}
theorem shaped_of {H : Hp} {α : Type} [En α] [DecidableEq α] [q : EnQ α] {x : α} {v : V} (r : Rp K H v (en x)) (hd : q.dep ≤ 64) : Dp K H v (py (en x)) ∧ SeqAt.shaped (py (en x)) = true := by
  obtain ⟨h1, h2⟩ := r.dp (q.shape x).1
  refine ⟨h1, ?_⟩
  unfold SeqAt.shaped
  rw [h2, decide_eq_true (Nat.le_trans (q.shape x).2 hd)]
  rfl
theorem evv_opW {r : R2} {z : V} (ha : EvW K ta Γ d) (hb : EvW K tb Γ e) (o : okV z) (hr : ∀ (H : Hp) (u w : V) (Q : VK), Rp K H u d → Rp K H w e → Q z H → r u w H Q) : EvV K (tOp r ta tb) Γ z := ⟨fun W A B σ E Q q =>
  ha.run W A B σ E _ fun u A1 B1 g1 r1 => hb.run W A1 B1 σ (E.grow g1) _ fun w A2 B2 g2 r2 => hr B2 u w Q (r1.mono g2.all) r2 (q A2 B2 (g1.trans g2) o)⟩
theorem ev_eqd {α : Type} [En α] [DecidableEq α] [q : EnQ α] {a b : α} (ha : EvW K ta Γ (en a)) (hb : EvW K tb Γ (en b)) (hd : q.dep ≤ 64 := by decide) : EvV K (tOp (rEqX K) ta tb) Γ (.bl (decide (a = b))) :=
  evv_opW ha hb trivial fun H u w Q r1 r2 k => .inr ⟨_, _, (shaped_of r1 hd).1, (shaped_of r2 hd).1, (shaped_of r1 hd).2, (shaped_of r2 hd).2, by rw [q.eqv]; exact k⟩
theorem ev_ned {α : Type} [En α] [DecidableEq α] [q : EnQ α] {a b : α} (ha : EvW K ta Γ (en a)) (hb : EvW K tb Γ (en b)) (hd : q.dep ≤ 64 := by decide) : EvV K (tOp (rNeX K) ta tb) Γ (.bl (!decide (a = b))) :=
  evv_opW ha hb trivial fun H u w Q r1 r2 k => .inr (.inl ⟨_, _, (shaped_of r1 hd).1, (shaped_of r2 hd).1, (shaped_of r1 hd).2, (shaped_of r2 hd).2, by rw [q.eqv]; exact k⟩)
theorem any_eqv {α : Type} [En α] [DecidableEq α] [q : EnQ α] (a : α) : ∀ l : List α, ((pyA (l.map en)).any fun z => PyData.eqv z (py (en a))) = decide (a ∈ l)
  | [] => by show (pyA []).any _ = _; rw [pyA]; simp
  | b :: l => by
    show (pyA (en b :: l.map en)).any _ = _
    rw [pyA, List.any_cons, any_eqv a l, q.eqv]
    by_cases e1 : b = a
    · simp [e1]
    · have : ¬ a = b := fun z => e1 z.symm
      by_cases e2 : a ∈ l <;> simp [e1, e2, this]
theorem ev_ind {α : Type} [En α] [DecidableEq α] [q : EnQ α] {a : α} {l : List α} (ha : EvW K ta Γ (en a)) (hb : EvW K tb Γ (en l)) (hd : q.dep + 1 ≤ 64 := by decide) : EvV K (tOp (rInX K) ta tb) Γ (.bl (decide (a ∈ l))) :=
  evv_opW ha hb trivial fun H u w Q r1 r2 k => by
    obtain ⟨h1, h2⟩ := shaped_of r1 (Nat.le_of_succ_le hd)
    obtain ⟨h3, h4⟩ := shaped_of (α := List α) r2 hd
    have e : py (en l) = .list (pyA (l.map en)) := by show py (D.lst (l.map en)) = _; rw [py]
    rw [e] at h3 h4
    exact .inr (.inr ⟨_, _, h1, h3, h2, h4, by rw [any_eqv]; exact k⟩)
theorem ev_nid {α : Type} [En α] [DecidableEq α] [q : EnQ α] {a : α} {l : List α} (ha : EvW K ta Γ (en a)) (hb : EvW K tb Γ (en l)) (hd : q.dep + 1 ≤ 64 := by decide) : EvV K (tOp (rNiX K) ta tb) Γ (.bl (!decide (a ∈ l))) :=
  evv_opW ha hb trivial fun H u w Q r1 r2 k => by
    obtain ⟨h1, h2⟩ := shaped_of r1 (Nat.le_of_succ_le hd)
    obtain ⟨h3, h4⟩ := shaped_of (α := List α) r2 hd
    have e : py (en l) = .list (pyA (l.map en)) := by show py (D.lst (l.map en)) = _; rw [py]
    rw [e] at h3 h4
    exact .inr (.inr ⟨_, _, h1, h3, h2, h4, by rw [any_eqv]; exact k⟩)
/-- a sign in a text -/
theorem ev_ins {c : Nat} {z : Str} (ha : EvV K ta Γ (.str ⟨#[c]⟩)) (hb : EvV K tb Γ (.str z)) : EvV K (tOp (rInX K) ta tb) Γ (.bl (decide (c ∈ z.cps.toList))) := evv_op ha hb (fun _ _ => trivial) fun _ _ q => .inr (.inl ⟨c, z, rfl, rfl, q⟩)
theorem ev_nis {c : Nat} {z : Str} (ha : EvV K ta Γ (.str ⟨#[c]⟩)) (hb : EvV K tb Γ (.str z)) : EvV K (tOp (rNiX K) ta tb) Γ (.bl (!decide (c ∈ z.cps.toList))) := evv_op ha hb (fun _ _ => trivial) fun _ _ q => .inr (.inl ⟨c, z, rfl, rfl, q⟩)
/-! ### dicts asked -/
theorem isSomeK {k : Key} {H : Hp} {xs : List (Key × V)} {kvs : List (Key × D)} (r : RpK K H xs kvs) : (valV xs k).isSome = (vD kvs k).isSome := by
  rcases r.val (k := k) with ⟨a, b⟩ | ⟨d, v, a, b, _⟩ <;> rw [a, b] <;> rfl
theorem isSomeT {k : List Key} {H : Hp} {xs : List (List Key × V)} {kvs : List (List Key × D)} (r : RpT K H xs kvs) : (valV xs k).isSome = (vD kvs k).isSome := by
  rcases r.val (k := k) with ⟨a, b⟩ | ⟨d, v, a, b, _⟩ <;> rw [a, b] <;> rfl
theorem ev_inK {k : Key} {kvs : List (Key × D)} (ha : EvV K ta Γ (kV k)) (hb : EvK K tb Γ kvs) : EvV K (tOp (rInX K) ta tb) Γ (.bl (vD kvs k).isSome) := ⟨fun W A B σ E Q q =>
  ha.run W A B σ E _ fun A1 B1 g1 _ => hb.run W A1 B1 σ (E.grow g1) _ fun p xs A2 B2 g2 h r => .inl ⟨p, _, rfl, DGet.k h, by rw [isSomeK r]; exact q A2 B2 (g1.trans g2) trivial⟩⟩
theorem ev_niK {k : Key} {kvs : List (Key × D)} (ha : EvV K ta Γ (kV k)) (hb : EvK K tb Γ kvs) : EvV K (tOp (rNiX K) ta tb) Γ (.bl (!(vD kvs k).isSome)) := ⟨fun W A B σ E Q q =>
  ha.run W A B σ E _ fun A1 B1 g1 _ => hb.run W A1 B1 σ (E.grow g1) _ fun p xs A2 B2 g2 h r => .inl ⟨p, _, rfl, DGet.k h, by rw [isSomeK r]; exact q A2 B2 (g1.trans g2) trivial⟩⟩
/-- a tuple that is a key -/
def kD : Key → D
  | .inl i => .int i
  | .inr x => .str x
theorem keyVs {H : Hp} : ∀ {k : List Key} {xs : List V}, RpA K H xs (k.map kD) → xs = k.map kV
  | [], _, h => by cases h; rfl
  | .inl i :: k, _, h => by
    cases h with
    | cons a b => cases a; rw [keyVs b]; rfl
  | .inr i :: k, _, h => by
    cases h with
    | cons a b => cases a; rw [keyVs b]; rfl
theorem keyTup {H : Hp} {k : List Key} {v : V} (r : Rp K H v (.tup (k.map kD))) : ∃ b, v = .ref b ∧ H b = some (.tup (k.map kV)) := by
  cases r with
  | tup s r => rw [keyVs r] at s; exact ⟨_, rfl, s⟩
theorem ev_inT {k : List Key} {kvs : List (List Key × D)} (ha : EvF K ta Γ (.tup (k.map kD))) (hb : EvM K tb Γ kvs) : EvV K (tOp (rInX K) ta tb) Γ (.bl (vD kvs k).isSome) := ⟨fun W A B σ E Q q =>
  ha.w.run W A B σ E _ fun v A1 B1 g1 rv => hb.run W A1 B1 σ (E.grow g1) _ fun p xs A2 B2 g2 h r => by
    obtain ⟨b, rfl, hb⟩ := keyTup (rv.mono g2.all)
    exact .inl ⟨p, _, rfl, DGet.t h hb, by rw [isSomeT r]; exact q A2 B2 (g1.trans g2) trivial⟩⟩
theorem ev_niT {k : List Key} {kvs : List (List Key × D)} (ha : EvF K ta Γ (.tup (k.map kD))) (hb : EvM K tb Γ kvs) : EvV K (tOp (rNiX K) ta tb) Γ (.bl (!(vD kvs k).isSome)) := ⟨fun W A B σ E Q q =>
  ha.w.run W A B σ E _ fun v A1 B1 g1 rv => hb.run W A1 B1 σ (E.grow g1) _ fun p xs A2 B2 g2 h r => by
    obtain ⟨b, rfl, hb⟩ := keyTup (rv.mono g2.all)
    exact .inl ⟨p, _, rfl, DGet.t h hb, by rw [isSomeT r]; exact q A2 B2 (g1.trans g2) trivial⟩⟩
/-! ### subscripts -/
theorem atI_rel {H : Hp} {xs : List V} {ds : List D} {i : Int} {d : D} (r : RpA K H xs ds) (h : atI ds i = some d) : ∃ v, atI xs i = some v ∧ Rp K H v d := by
  unfold atI at h ⊢
  rw [r.length]
  cases e : ixN ds.length i with
  | none => rw [e] at h; cases h
  | some j =>
    rw [e] at h
    exact r.get h
theorem ev_ix {n : Int} (ha : EvL K ta Γ ds) (hb : EvV K tb Γ (.int n)) (h : atI ds n = some d) : EvF K (tOp (rIxX K) ta tb) Γ d := ⟨fun W A B σ E Q q =>
  ha.run W A B σ E _ fun p xs A1 B1 g1 hp r => hb.run W A1 B1 σ (E.grow g1) _ fun A2 B2 g2 _ => by
    obtain ⟨v, h1, h2⟩ := atI_rel (r.mono g2.fix) h
    exact .inl ⟨p, xs, n, v, rfl, rfl, .inl (.inl (g2.all _ _ hp)), h1, q v A2 B2 [] (g1.trans g2) ⟨rfl, v, rfl, h2⟩ fun _ z => nomatch z⟩⟩
theorem ev_ixW {n : Int} (ha : EvW K ta Γ (.lst ds)) (hb : EvV K tb Γ (.int n)) (h : atI ds n = some d) : EvW K (tOp (rIxX K) ta tb) Γ d := ⟨fun W A B σ E Q q =>
  ha.run W A B σ E _ fun p A1 B1 g1 r => hb.run W A1 B1 σ (E.grow g1) _ fun A2 B2 g2 _ => by
    cases r with
    | lst s r =>
      obtain ⟨v, h1, h2⟩ := atI_rel (r.mono g2.all) h
      exact .inl ⟨_, _, n, v, rfl, rfl, .inl (.inl (g2.all _ _ s)), h1, q v A2 B2 (g1.trans g2) h2⟩⟩
theorem ev_ixT {n : Int} (ha : EvF K ta Γ (.tup ds)) (hb : EvV K tb Γ (.int n)) (h : atI ds n = some d) : EvF K (tOp (rIxX K) ta tb) Γ d := ⟨fun W A B σ E Q q =>
  ha.run W A B σ E _ fun p A1 B1 fp g1 ok _ => hb.run W A1 B1 σ (E.grow g1) _ fun A2 B2 g2 _ => by
    obtain ⟨_, w, e, r⟩ := ok
    cases e
    cases r with
    | tup s r =>
      obtain ⟨v, h1, h2⟩ := atI_rel (r.mono g2.fix) h
      exact .inr (.inl ⟨_, _, n, v, rfl, rfl, .inl (.inl (g2.sub _ _ (g2.fix _ _ s))), h1, q v A2 B2 [] (g1.trans g2) ⟨rfl, v, rfl, h2⟩ fun _ z => nomatch z⟩)⟩
theorem ev_ixTW {n : Int} (ha : EvW K ta Γ (.tup ds)) (hb : EvV K tb Γ (.int n)) (h : atI ds n = some d) : EvW K (tOp (rIxX K) ta tb) Γ d := ⟨fun W A B σ E Q q =>
  ha.run W A B σ E _ fun p A1 B1 g1 r => hb.run W A1 B1 σ (E.grow g1) _ fun A2 B2 g2 _ => by
    cases r with
    | tup s r =>
      obtain ⟨v, h1, h2⟩ := atI_rel (r.mono g2.all) h
      exact .inr (.inl ⟨_, _, n, v, rfl, rfl, .inl (.inl (g2.all _ _ s)), h1, q v A2 B2 (g1.trans g2) h2⟩)⟩
theorem ev_ixKT {n : Int} (ha : EvF K ta Γ (.ktup ds)) (hb : EvV K tb Γ (.int n)) (h : atI ds n = some d) : EvF K (tOp (rIxX K) ta tb) Γ d := ⟨fun W A B σ E Q q =>
  ha.run W A B σ E _ fun p A1 B1 fp g1 ok _ => hb.run W A1 B1 σ (E.grow g1) _ fun A2 B2 g2 _ => by
    obtain ⟨_, w, e, r⟩ := ok
    cases e
    cases r with
    | ktup s r =>
      obtain ⟨v, h1, h2⟩ := atI_rel (r.mono g2.fix) h
      exact .inr (.inl ⟨_, _, n, v, rfl, rfl, Evl.ex_t g2.sub (Evl.ex_t g2.fix s), h1, q v A2 B2 [] (g1.trans g2) ⟨rfl, v, rfl, h2⟩ fun _ z => nomatch z⟩)⟩
theorem ev_ixR {n : Int} {ns : List Int} {k : Int} (ha : EvF K ta Γ (.scr ns)) (hb : EvV K tb Γ (.int n)) (h : atI ns n = some k) : EvV K (tOp (rIxX K) ta tb) Γ (.int k) := ⟨fun W A B σ E Q q =>
  ha.run W A B σ E _ fun p A1 B1 fp g1 ok _ => hb.run W A1 B1 σ (E.grow g1) _ fun A2 B2 g2 _ => by
    obtain ⟨_, w, e, r⟩ := ok
    cases e
    cases r with
    | scr s =>
      have h1 : atI (ns.map V.int) n = some (V.int k) := by
        unfold atI at h ⊢
        rw [List.length_map]
        cases e : ixN ns.length n with
        | none => rw [e] at h; cases h
        | some j =>
          rw [e] at h
          have h' : ns[j]? = some k := h
          show (ns.map V.int)[j]? = some (V.int k)
          rw [List.getElem?_map, h']
          rfl
      exact .inl ⟨_, _, n, _, rfl, rfl, Evl.ex_l g2.sub (Evl.ex_l g2.fix s), h1, q A2 B2 (g1.trans g2) trivial⟩⟩
theorem ev_ixS {n : Int} {z : Str} {c : Nat} (ha : EvV K ta Γ (.str z)) (hb : EvV K tb Γ (.int n)) (hl : z.length ≤ 100000) (h : atI z.cps.toList n = some c) : EvV K (tOp (rIxX K) ta tb) Γ (.str ⟨#[c]⟩) :=
  evv_op ha hb (fun az _ => by
    have a' : z.cps.all (· < 0x110000) = true := az
    show (#[c] : Array Nat).all (· < 0x110000) = true
    simp only [Array.all_eq_true'] at a' ⊢
    intro x hx
    have : x = c := by simpa using hx
    subst this
    unfold atI at h
    cases e : ixN z.cps.toList.length n with
    | none => rw [e] at h; cases h
    | some j =>
      rw [e] at h
      exact a' x (by have := List.mem_of_getElem? (show z.cps.toList[j]? = some x from h); simpa using this)) fun _ _ q => .inr (.inr (.inl ⟨z, n, c, rfl, rfl, sz16 hl, h, q⟩))
theorem ev_ixK {k : Key} {kvs : List (Key × D)} (ha : EvK K ta Γ kvs) (hb : EvV K tb Γ (kV k)) (h : vD kvs k = some d) : EvF K (tOp (rIxX K) ta tb) Γ d := ⟨fun W A B σ E Q q =>
  ha.run W A B σ E _ fun p xs A1 B1 g1 hp r => hb.run W A1 B1 σ (E.grow g1) _ fun A2 B2 g2 _ => by
    rcases (r.mono g2.fix).val (k := k) with ⟨a, _⟩ | ⟨d', v, a, b, c⟩
    · rw [h] at a; cases a
    · rw [h] at a; cases a
      exact .inr (.inr (.inr ⟨p, v, rfl, by rw [← b]; exact DGet.k (g2.all _ _ hp), q v A2 B2 [] (g1.trans g2) ⟨rfl, v, rfl, c⟩ fun _ z => nomatch z⟩))⟩
theorem ev_ixM {k : List Key} {kvs : List (List Key × D)} (ha : EvM K ta Γ kvs) (hb : EvF K tb Γ (.tup (k.map kD))) (h : vD kvs k = some d) : EvF K (tOp (rIxX K) ta tb) Γ d := ⟨fun W A B σ E Q q =>
  ha.run W A B σ E _ fun p xs A1 B1 g1 hp r => hb.w.run W A1 B1 σ (E.grow g1) _ fun w A2 B2 g2 rw' => by
    obtain ⟨b, rfl, hb'⟩ := keyTup rw'
    rcases (r.mono g2.fix).val (k := k) with ⟨a, _⟩ | ⟨d', v, a, b', c⟩
    · rw [h] at a; cases a
    · rw [h] at a; cases a
      exact .inr (.inr (.inr ⟨p, v, rfl, by rw [← b']; exact DGet.t (g2.all _ _ hp) hb', q v A2 B2 [] (g1.trans g2) ⟨rfl, v, rfl, c⟩ fun _ z => nomatch z⟩))⟩
theorem ev_get {k : Key} {kvs : List (Key × D)} (ha : EvK K ta Γ kvs) (hb : EvV K tb Γ (kV k)) (hc : EvF K tc Γ e) : EvF K (tDGet2 ta tb tc) Γ ((vD kvs k).getD e) := ⟨fun W A B σ E Q q =>
  ha.run W A B σ E _ fun p xs A1 B1 g1 hp r => ⟨p, rfl, .inl ⟨xs, .inl hp⟩, hb.run W A1 B1 σ (E.grow g1) _ fun A2 B2 g2 _ => hc.run W A2 B2 σ ((E.grow g1).grow g2) _ fun z A3 B3 fp g3 ok _ => by
    obtain ⟨_, w, e', rz⟩ := ok
    cases e'
    refine ⟨_, DGet.k (g3.all _ _ (g2.all _ _ hp)), ?_⟩
    rcases ((r.mono g2.fix).mono g3.fix).val (k := k) with ⟨a, b⟩ | ⟨d', v, a, b, c⟩
    · rw [b]
      exact q z A3 B3 [] ((g1.trans g2).trans g3) ⟨rfl, z, rfl, by rw [a]; exact rz⟩ fun _ z => nomatch z
    · rw [b]
      exact q v A3 B3 [] ((g1.trans g2).trans g3) ⟨rfl, v, rfl, by rw [a]; exact c⟩ fun _ z => nomatch z⟩⟩
theorem ev_getT {k : List Key} {kvs : List (List Key × D)} (ha : EvM K ta Γ kvs) (hb : EvF K tb Γ (.tup (k.map kD))) (hc : EvF K tc Γ e) : EvF K (tDGet2 ta tb tc) Γ ((vD kvs k).getD e) := ⟨fun W A B σ E Q q =>
  ha.run W A B σ E _ fun p xs A1 B1 g1 hp r => ⟨p, rfl, .inr ⟨xs, .inl hp⟩, hb.w.run W A1 B1 σ (E.grow g1) _ fun kv A2 B2 g2 rk => hc.run W A2 B2 σ ((E.grow g1).grow g2) _ fun z A3 B3 fp g3 ok _ => by
    obtain ⟨_, w, e', rz⟩ := ok
    cases e'
    obtain ⟨b0, rfl, hb'⟩ := keyTup rk
    refine ⟨_, DGet.t (g3.all _ _ (g2.all _ _ hp)) (g3.all _ _ hb'), ?_⟩
    rcases ((r.mono g2.fix).mono g3.fix).val (k := k) with ⟨a, b⟩ | ⟨d', v, a, b, c⟩
    · rw [b]
      exact q z A3 B3 [] ((g1.trans g2).trans g3) ⟨rfl, z, rfl, by rw [a]; exact rz⟩ fun _ z => nomatch z
    · rw [b]
      exact q v A3 B3 [] ((g1.trans g2).trans g3) ⟨rfl, v, rfl, by rw [a]; exact c⟩ fun _ z => nomatch z⟩⟩
theorem ev_get1 {k : Key} {kvs : List (Key × D)} (ha : EvK K ta Γ kvs) (hb : EvV K tb Γ (kV k)) : EvF K (tDGet1 ta tb) Γ ((vD kvs k).getD .non) := ⟨fun W A B σ E Q q =>
  ha.run W A B σ E _ fun p xs A1 B1 g1 hp r => ⟨p, rfl, .inl ⟨xs, .inl hp⟩, hb.run W A1 B1 σ (E.grow g1) _ fun A2 B2 g2 _ => by
    refine ⟨_, DGet.k (g2.all _ _ hp), ?_⟩
    rcases (r.mono g2.fix).val (k := k) with ⟨a, b⟩ | ⟨d', v, a, b, c⟩
    · rw [b]
      exact q .non A2 B2 [] (g1.trans g2) ⟨rfl, _, rfl, by rw [a]; exact .non⟩ fun _ z => nomatch z
    · rw [b]
      exact q v A2 B2 [] (g1.trans g2) ⟨rfl, v, rfl, by rw [a]; exact c⟩ fun _ z => nomatch z⟩⟩
end
end Sf

/-! Evaluation: built-ins, calls of defs, comprehensions. -/
namespace Sf
open PySem PySem.Spec PyProof.Rows L2
section
variable {K : PySem.W.Frag} {Γ : List Sl} {te ta tb tc : TE} {i : Nat} {d e : D} {v x y z : V} {ds es : List D} {vs : List V} {tr : TA}
/-! ### built-ins on scalars -/
theorem ev_cb {r : List V → Hp → VK → Prop} (h : EvAV K tr Γ vs) (o : okV z) (hr : ∀ (H : Hp) (Q : VK), Q z H → r vs H Q) : EvV K (tCB r tr) Γ z := ⟨fun W A B σ E Q q => h.run W A B σ E _ fun A1 B1 g1 => hr B1 Q (q A1 B1 g1 o)⟩
variable {m n : Int}
theorem ev_min (ha : EvV K ta Γ (.int m)) (hb : EvV K tb Γ (.int n)) : EvV K (tCB rMinX (tCons ta (tCons tb tNil))) Γ (.int (if n < m then n else m)) := ev_cb (eav_cons ha (eav_cons hb eav_nil)) trivial fun _ _ q => ⟨m, n, rfl, q⟩
theorem ev_max (ha : EvV K ta Γ (.int m)) (hb : EvV K tb Γ (.int n)) : EvV K (tCB rMaxX (tCons ta (tCons tb tNil))) Γ (.int (if n > m then n else m)) := ev_cb (eav_cons ha (eav_cons hb eav_nil)) trivial fun _ _ q => ⟨m, n, rfl, q⟩
theorem ev_intb {b : Bool} (ha : EvV K ta Γ (.bl b)) : EvV K (tCB rIntX (tCons ta tNil)) Γ (.int (if b then 1 else 0)) := ev_cb (eav_cons ha eav_nil) trivial fun _ _ q => .inl (.inr ⟨b, rfl, q⟩)
theorem ev_ints {z : Str} {n : Int} (ha : EvV K ta Γ (.str z)) (h : PySem.intText? z = some n) (hl : z.length ≤ 640) : EvV K (tCB rIntX (tCons ta tNil)) Γ (.int n) := ev_cb (eav_cons ha eav_nil) trivial fun _ _ q => .inr ⟨z, n, rfl, h, hl, q⟩
theorem ev_lens {z : Str} (ha : EvV K ta Γ (.str z)) (hl : z.length ≤ 16000000) : EvV K (tCB (rLenX K) (tCons ta tNil)) Γ (.int z.length) := ev_cb (eav_cons ha eav_nil) trivial fun _ _ q => .inl ⟨_, _, rfl, ⟨Nat.le_trans hl (by decide), rfl⟩, q⟩
/-! ### len, list, tuple, dict, sorted -/
theorem ev_lenW (ha : EvW K ta Γ (.lst ds)) : EvV K (tCB (rLenX K) (tCons ta tNil)) Γ (.int ds.length) := ⟨fun W A B σ E Q q => ha.run W A B σ E _ fun v A1 B1 g1 r => by
  cases r with
  | lst s r => exact .inl ⟨_, _, rfl, .inl ⟨_, .inl (.inl s), rfl⟩, by rw [r.length]; exact q A1 B1 g1 trivial⟩⟩
theorem ev_lenT (ha : EvW K ta Γ (.tup ds)) : EvV K (tCB (rLenX K) (tCons ta tNil)) Γ (.int ds.length) := ⟨fun W A B σ E Q q => ha.run W A B σ E _ fun v A1 B1 g1 r => by
  cases r with
  | tup s r => exact .inl ⟨_, _, rfl, .inr ⟨_, .inl (.inl s), rfl⟩, by rw [r.length]; exact q A1 B1 g1 trivial⟩⟩
theorem ev_lenR {ns : List Int} (ha : EvW K ta Γ (.scr ns)) : EvV K (tCB (rLenX K) (tCons ta tNil)) Γ (.int ns.length) := ⟨fun W A B σ E Q q => ha.run W A B σ E _ fun v A1 B1 g1 r => by
  cases r with
  | scr s => exact .inl ⟨_, _, rfl, .inl ⟨_, s, rfl⟩, by rw [List.length_map]; exact q A1 B1 g1 trivial⟩⟩
theorem new1 {A B A1 B1 : Hp} (g : Gr A B A1 B1) {p : Addr} (hp : B1 p = none) {q : Addr} (hq : q ∈ [p]) : B q = none := by
  rw [List.mem_singleton.mp hq]
  exact ex_free g.all hp
theorem ev_listL (ha : EvL K ta Γ ds) : EvO K (tCB (rListX K) (tCons ta tNil)) Γ (.ow ds) := ⟨fun W A B σ E Q q => ha.run W A B σ E _ fun p xs A1 B1 g1 h r => .inl ⟨p, xs, rfl, .inl (.inl (.inl h)), fun l hl =>
  q _ A1 _ [l] (g1.trans (Gr.lay g1.sub hl)) ⟨l, xs, rfl, rfl, ex_free g1.sub hl, upd_same, r⟩ fun _ hq => new1 g1 hl hq⟩⟩
theorem ev_listT (ha : EvF K ta Γ (.tup ds)) : EvO K (tCB (rListX K) (tCons ta tNil)) Γ (.ow ds) := ⟨fun W A B σ E Q q => ha.run W A B σ E _ fun p A1 B1 fp g1 ok _ => by
  obtain ⟨_, w, e, r⟩ := ok
  cases e
  cases r with
  | tup s r => exact .inl ⟨_, _, rfl, .inr (.inl (.inl (g1.sub _ _ s))), fun l hl => q _ A1 _ [l] (g1.trans (Gr.lay g1.sub hl)) ⟨l, _, rfl, rfl, ex_free g1.sub hl, upd_same, r⟩ fun _ hq => new1 g1 hl hq⟩⟩
theorem kDs : ∀ {kvs : List (Key × D)} {H : Hp} {xs : List (Key × V)}, RpK K H xs kvs → (∀ p ∈ kvs, okV (kV p.1)) → RpA K H (xs.map fun kv => kV kv.1) (kvs.map fun kv => kD kv.1)
  | _, _, _, .nil, _ => .nil
  | _, _, _, .cons (k := k) r t, h => by
    refine .cons ?_ (kDs t fun p hp => h p (List.mem_cons_of_mem _ hp))
    cases k with
    | inl i => exact .int i
    | inr x => exact .str x (h _ List.mem_cons_self)
theorem ev_listK {kvs : List (Key × D)} (ha : EvK K ta Γ kvs) (ok : ∀ p ∈ kvs, okV (kV p.1)) : EvO K (tCB (rListX K) (tCons ta tNil)) Γ (.ow (kvs.map fun kv => kD kv.1)) := ⟨fun W A B σ E Q q => ha.run W A B σ E _ fun p xs A1 B1 g1 h r => .inr ⟨p, xs, rfl, h, fun l hl =>
  q _ A1 _ [l] (g1.trans (Gr.lay g1.sub hl)) ⟨l, _, rfl, rfl, ex_free g1.sub hl, upd_same, kDs r ok⟩ fun _ hq => new1 g1 hl hq⟩⟩
theorem ev_tupL (ha : EvL K ta Γ ds) : EvF K (tCB (rTupX K) (tCons ta tNil)) Γ (.tup ds) := ⟨fun W A B σ E Q q => ha.run W A B σ E _ fun p xs A1 B1 g1 h r => ⟨p, xs, rfl, .inl ⟨.inl (.inl h), fun l hl =>
  q _ _ _ [] (g1.trans (Gr.layF g1.sub hl)) ⟨rfl, _, rfl, .tup upd_same (r.mono (Evl.Ex.new (ex_free g1.sub hl)))⟩ fun _ z => nomatch z⟩⟩⟩
theorem ev_dict {kvs : List (Key × D)} (ha : EvK K ta Γ kvs) : EvO K (tCB rDicX (tCons ta tNil)) Γ (.ok kvs) := ⟨fun W A B σ E Q q => ha.run W A B σ E _ fun p xs A1 B1 g1 h r => ⟨p, xs, rfl, h, fun l hl =>
  q _ A1 _ [l] (g1.trans (Gr.lay g1.sub hl)) ⟨l, xs, rfl, rfl, ex_free g1.sub hl, upd_same, r⟩ fun _ hq => new1 g1 hl hq⟩⟩
/-- the sorted list of ints | texts is the one rising arrangement -/
def sortI (l : List Int) : List Int := l.mergeSort (fun a b => decide (a ≤ b))
theorem sortI_perm (l : List Int) : (sortI l).Perm l := List.mergeSort_perm l _
theorem sortI_up (l : List Int) : (sortI l).Pairwise (· ≤ ·) := by
  have h := List.pairwise_mergeSort (le := fun a b : Int => decide (a ≤ b)) (fun a b c h1 h2 => by simp at *; omega) (fun a b => by simp; omega) l
  exact h.imp fun h => of_decide_eq_true h
theorem int_up_unique {l m : List Int} (p : l.Perm m) (hl : l.Pairwise (· ≤ ·)) (hm : m.Pairwise (· ≤ ·)) : l = m :=
  List.Perm.eq_of_pairwise (le := (· ≤ ·)) (fun a b _ _ h1 h2 => by omega) hl hm p
theorem ev_sortI {ns : List Int} (ha : EvL K ta Γ (ns.map D.int)) (h64 : ns.length < 64) : EvO K (tCB (rSortX K) (tCons ta tNil)) Γ (.ow ((sortI ns).map D.int)) := ⟨fun W A B σ E Q q => ha.run W A B σ E _ fun p xs A1 B1 g1 h r => by
  rw [r.ints] at h
  refine .inl ⟨p, ns, rfl, .inl (.inl h), h64, fun ns' l hp up hl => ?_⟩
  have e : ns' = sortI ns := int_up_unique (hp.trans (sortI_perm ns).symm) up (sortI_up ns)
  subst e
  exact q _ A1 _ [l] (g1.trans (Gr.lay g1.sub hl)) ⟨l, _, rfl, rfl, ex_free g1.sub hl, upd_same, RpA.of_ints⟩ fun _ hq => new1 g1 hl hq⟩
/-- texts in order -/
def leS (a b : Str) : Bool := decide (a.cps.toList ≤ b.cps.toList)
theorem leS_lt (a b : Str) : leS a b = !PySem.Spec.ltCps b.cps.toList a.cps.toList := by
  unfold leS
  rw [PyProof.Rows.ltCps_eq]
  by_cases h : b.cps.toList < a.cps.toList
  · have : ¬ a.cps.toList ≤ b.cps.toList := fun z => z h
    simp [h, this]
  · have : a.cps.toList ≤ b.cps.toList := h
    simp [h, this]
theorem leS_trans (a b c : Str) (h1 : leS a b = true) (h2 : leS b c = true) : leS a c = true := by
  unfold leS at *
  exact decide_eq_true (List.le_trans (of_decide_eq_true h1) (of_decide_eq_true h2))
theorem leS_total (a b : Str) : (leS a b || leS b a) = true := by
  unfold leS
  rcases List.le_total a.cps.toList b.cps.toList with h | h <;> simp [h]
theorem leS_anti {a b : Str} (h1 : leS a b = true) (h2 : leS b a = true) : a = b := by
  unfold leS at *
  have := List.le_antisymm (of_decide_eq_true h1) (of_decide_eq_true h2)
  obtain ⟨x⟩ := a
  obtain ⟨y⟩ := b
  exact congrArg Str.mk (Array.toList_inj.mp this)
def sortS (l : List Str) : List Str := l.mergeSort leS
theorem sortS_perm (l : List Str) : (sortS l).Perm l := List.mergeSort_perm l _
theorem sortS_up (l : List Str) : (sortS l).Pairwise fun a b => leS a b = true := List.pairwise_mergeSort leS_trans leS_total l
theorem sortS_mem {l : List Str} {x : Str} : x ∈ sortS l ↔ x ∈ l := (sortS_perm l).mem_iff
theorem str_up_unique {l m : List Str} (p : l.Perm m) (hl : l.Pairwise fun a b => leS a b = true) (hm : m.Pairwise fun a b => leS a b = true) : l = m :=
  List.Perm.eq_of_pairwise (le := fun a b => leS a b = true) (fun a b _ _ h1 h2 => leS_anti h1 h2) hl hm p
theorem risingS_pw : ∀ (p : Str) (l : List Str), risingS p l = true → (p :: l).Pairwise fun a b => leS a b = true
  | p, [], _ => List.pairwise_singleton _ _
  | p, x :: r, h => by
    have h' : (!PySem.Spec.ltCps x.cps.toList p.cps.toList && risingS x r) = true := h
    rw [Bool.and_eq_true, ← leS_lt] at h'
    have ih := risingS_pw x r h'.2
    refine List.pairwise_cons.mpr ⟨fun y hy => ?_, ih⟩
    rcases List.mem_cons.mp hy with rfl | hy
    · exact h'.1
    · exact leS_trans _ _ _ h'.1 ((List.pairwise_cons.mp ih).1 y hy)
theorem sortedS_pw : ∀ {l : List Str}, sortedS l = true → l.Pairwise fun a b => leS a b = true
  | [], _ => .nil
  | x :: r, h => risingS_pw x r h
theorem ev_sortS {ns : List Str} (ha : EvL K ta Γ (ns.map D.str)) (h64 : ns.length < 64) : EvO K (tCB (rSortX K) (tCons ta tNil)) Γ (.ow ((sortS ns).map D.str)) := ⟨fun W A B σ E Q q => ha.run W A B σ E _ fun p xs A1 B1 g1 h r => by
  obtain ⟨e, o⟩ := r.strs
  rw [e] at h
  refine .inr ⟨p, ns, rfl, .inl (.inl h), h64, fun ns' l hp up hl => ?_⟩
  have e : ns' = sortS ns := str_up_unique (hp.trans (sortS_perm ns).symm) (sortedS_pw up) (sortS_up ns)
  subst e
  exact q _ A1 _ [l] (g1.trans (Gr.lay g1.sub hl)) ⟨l, _, rfl, rfl, ex_free g1.sub hl, upd_same, RpA.of_strs fun x hx => o x (sortS_mem.mp hx)⟩ fun _ hq => new1 g1 hl hq⟩
/-! ### lists: +, slices -/
theorem ev_addL (ha : EvL K ta Γ ds) (hb : EvL K tb Γ es) (hl : ds.length + es.length ≤ 100000) : EvO K (tOp (rAddX K) ta tb) Γ (.ow (ds ++ es)) := ⟨fun W A B σ E Q q =>
  ha.run W A B σ E _ fun p xs A1 B1 g1 h1 r1 => hb.run W A1 B1 σ (E.grow g1) _ fun p2 ys A2 B2 g2 h2 r2 => .inr (.inr (.inl ⟨p, p2, xs, ys, rfl, rfl, g2.all _ _ h1, h2, by rw [r1.length, r2.length]; exact sz16 hl, fun l hl =>
    q _ A2 _ [l] ((g1.trans g2).trans (Gr.lay g2.sub hl)) ⟨l, _, rfl, rfl, ex_free g2.sub hl, upd_same, (r1.mono g2.fix).append r2⟩ fun _ hq => new1 (g1.trans g2) hl hq⟩))⟩
variable {tl th : TO} {lo hi : Option Int}
structure EvP (K : PySem.W.Frag) (to : TO) (Γ : List Sl) (o : Option Int) : Prop where
  run : ∀ W A B σ, EnvAt K W A B Γ σ → ∀ Q : Option Int → Hp → Prop, (∀ A' B', Gr A B A' B' → Q o B') → to σ B Q
theorem ep_none : EvP K tNoPart Γ none := ⟨fun W A B σ E Q q => q A B (.refl E.ex)⟩
theorem ep_some (h : EvV K te Γ (.int n)) : EvP K (tPart te) Γ (some n) := ⟨fun W A B σ E Q q => h.run W A B σ E _ fun A1 B1 g1 _ => ⟨n, rfl, q A1 B1 g1⟩⟩
def cutD {α : Type} (xs : List α) (lo hi : Option Int) : List α := (xs.drop (HT.sIx xs.length 0 lo)).take (HT.sIx xs.length xs.length hi - HT.sIx xs.length 0 lo)
theorem cut_rel {H : Hp} {xs : List V} (r : RpA K H xs ds) (lo hi : Option Int) : RpA K H (cutV xs lo hi) (cutD ds lo hi) := by
  unfold cutV cutD
  rw [r.length]
  exact (r.drop _).take _
theorem ev_slL (ha : EvL K te Γ ds) (h1 : EvP K tl Γ lo) (h2 : EvP K th Γ hi) : EvO K (tSl (rSlX K) te tl th) Γ (.ow (cutD ds lo hi)) := ⟨fun W A B σ E Q q =>
  ha.run W A B σ E _ fun p xs A1 B1 g1 h r => h1.run W A1 B1 σ (E.grow g1) _ fun A2 B2 g2 => h2.run W A2 B2 σ ((E.grow g1).grow g2) _ fun A3 B3 g3 => .inl ⟨p, xs, rfl, .inl (.inl (g3.all _ _ (g2.all _ _ h))), fun l hl =>
    q _ A3 _ [l] (((g1.trans g2).trans g3).trans (Gr.lay g3.sub hl)) ⟨l, _, rfl, rfl, ex_free g3.sub hl, upd_same, cut_rel ((r.mono g2.fix).mono g3.fix) lo hi⟩ fun _ hq => new1 ((g1.trans g2).trans g3) hl hq⟩⟩
theorem ev_slT (ha : EvF K te Γ (.tup ds)) (h1 : EvP K tl Γ lo) (h2 : EvP K th Γ hi) : EvF K (tSl (rSlX K) te tl th) Γ (.tup (cutD ds lo hi)) := ⟨fun W A B σ E Q q =>
  ha.run W A B σ E _ fun p A1 B1 fp g1 ok _ => h1.run W A1 B1 σ (E.grow g1) _ fun A2 B2 g2 => h2.run W A2 B2 σ ((E.grow g1).grow g2) _ fun A3 B3 g3 => by
    obtain ⟨_, w, e, r⟩ := ok
    cases e
    cases r with
    | tup s r =>
      have s3 := g3.fix _ _ (g2.fix _ _ s)
      have r3 := (r.mono g2.fix).mono g3.fix
      refine .inr (.inl ⟨_, _, rfl, .inl (.inl (g3.sub _ _ s3)), fun hw => ?_, fun hw l hl => ?_⟩)
      · refine q _ A3 B3 [] ((g1.trans g2).trans g3) ⟨rfl, _, rfl, .tup s3 ?_⟩ fun _ z => nomatch z
        have : cutD ds lo hi = ds := by
          unfold cutD
          rw [← r.length, hw.1, hw.2, r.length]
          simp
        rw [this]
        exact r3
      · exact q _ _ _ [] (((g1.trans g2).trans g3).trans (Gr.layF g3.sub hl)) ⟨rfl, _, rfl, .tup upd_same ((cut_rel r3 lo hi).mono (Evl.Ex.new (ex_free g3.sub hl)))⟩ fun _ z => nomatch z⟩
theorem sOk_cut {z : Str} (h : sOk z) (lo hi : Option Int) : sOk (cutS z lo hi) := by
  have h' : z.cps.all (· < 0x110000) = true := h
  show (cutS z lo hi).cps.all (· < 0x110000) = true
  simp only [Array.all_eq_true'] at h' ⊢
  intro x hx
  refine h' x ?_
  have hx' : x ∈ (cutS z lo hi).cps.toList := by simpa using hx
  unfold cutS at hx'
  simp only [] at hx'
  have := List.mem_of_mem_drop (List.mem_of_mem_take hx')
  simpa using this
theorem ev_slS {z : Str} (ha : EvV K te Γ (.str z)) (hl : z.length ≤ 16000000) (h1 : EvP K tl Γ lo) (h2 : EvP K th Γ hi) : EvV K (tSl (rSlX K) te tl th) Γ (.str (cutS z lo hi)) := ⟨fun W A B σ E Q q =>
  ha.run W A B σ E _ fun A1 B1 g1 o => h1.run W A1 B1 σ (E.grow g1) _ fun A2 B2 g2 => h2.run W A2 B2 σ ((E.grow g1).grow g2) _ fun A3 B3 g3 => .inr (.inr ⟨z, rfl, Nat.le_trans hl (by decide), q A3 B3 ((g1.trans g2).trans g3) (sOk_cut o lo hi)⟩)⟩
/-! ### any, all, join -/
theorem ev_all {bs : List Bool} (ha : EvL K ta Γ (bs.map D.bl)) : EvV K (tCB (rAll K) (tCons ta tNil)) Γ (.bl (bs.all id)) := ⟨fun W A B σ E Q q => ha.run W A B σ E _ fun p xs A1 B1 g1 h r => ⟨p, bs, rfl, by rw [r.bls] at h; exact .inl (.inl h), q A1 B1 g1 trivial⟩⟩
theorem ev_any {bs : List Bool} (ha : EvL K ta Γ (bs.map D.bl)) : EvV K (tCB (rAny K) (tCons ta tNil)) Γ (.bl (bs.any id)) := ⟨fun W A B σ E Q q => ha.run W A B σ E _ fun p xs A1 B1 g1 h r => ⟨p, bs, rfl, by rw [r.bls] at h; exact .inl (.inl h), q A1 B1 g1 trivial⟩⟩
/-! ### isinstance -/
def tyD : D → String
  | .non => "NoneType"
  | .bl _ => "bool"
  | .int _ => "int"
  | .str _ => "str"
  | .lst _ => "list"
  | .tup _ => "tuple"
  | .ktup _ => "tuple"
  | .scr _ => "list"
  | .dk _ => "dict"
  | .dt _ => "dict"
def isKt : D → Bool
  | .ktup _ => true
  | .scr _ => true
  | _ => false
theorem Rp.ty {H : Hp} (r : Rp K H v d) (h : isKt d = false) : TyX K H v (.type (tyD d)) := by
  cases r with
  | non => exact .base .non
  | bl b => exact .base (.bl b)
  | int i => exact .base (.int i)
  | str x _ => exact .base (.str x)
  | lst s _ => exact .base (.lst s)
  | tup s _ => exact .base (.tup s)
  | ktup s _ => cases h
  | scr s => cases h
  | dk s _ => exact .base (.dK s)
  | dt s _ => exact .base (.dT s)
theorem ev_isi {n : String} {b : Bool} (ha : EvW K ta Γ d) (h : isKt d = false) (hk : kitB (tyD d) n = some b) : EvV K (tCB (rIsi K) (tCons ta (tCons (tC (.ty n)) tNil))) Γ (.bl b) := ⟨fun W A B σ E Q q => ha.run W A B σ E _ fun v A1 B1 g1 r =>
  ⟨v, .ty n, _, _, b, rfl, .ty n, r.ty h, kit_ty hk, q A1 B1 g1 trivial⟩⟩
/-! ### calls of defs -/
/-- the promise: from arguments that are fixed data, an answer that a slot may hold; nothing that stood is changed -/
def spF (K : PySem.W.Frag) (R : List D → Sl → Prop) : Sp := fun vs H Q _ => ∃ A ds s, Ex A H ∧ RpA K A vs ds ∧ R ds s ∧ ∀ v A' B' fp, Gr A H A' B' → SlOk K A' B' s (some v) fp → (∀ p ∈ fp, H p = none) → Q v B'
theorem ev_call {R : List D → Sl → Prop} {s : Sl} {E0 : XK} (h : EvA K tr Γ ds) (hR : R ds s) : EvO K (tCall (spF K R) [] E0 tr) Γ s := ⟨fun W A B σ E Q q => h.run W A B σ E _ fun vs A1 B1 g1 r => by
  show spF K R (vs ++ []) B1 Q E0
  rw [List.append_nil]
  exact ⟨A1, ds, s, g1.sub, r, hR, fun v A2 B2 fp g2 ok hn => q v A2 B2 fp (g1.trans g2) ok fun p hp => ex_free g1.all (hn p hp)⟩⟩
/-- flat: nothing of an answer stands elsewhere -/
def flat : Sl → Prop
  | .un => True
  | .im d => (scV d).isSome = true
  | .ow ds => ScA ds
  | .ok kvs => ScA (kvs.map (·.2))
  | .ot kvs => ScA (kvs.map (·.2))
  | .pg _ => False
  | .ll _ => False
  | .kl _ => False
  | .f3 _ _ _ => False
  | .tl _ _ => False
  | .bag _ _ => False
theorem scal_K {H H' : Hp} : ∀ {kvs : List (Key × D)} {xs : List (Key × V)}, ScA (kvs.map (·.2)) → RpK K H xs kvs → RpK K H' xs kvs
  | [], _, _, h => by cases h; exact .nil
  | d :: ds, _, q, h => by
    cases h with
    | cons a b =>
      obtain ⟨v, e⟩ := Option.isSome_iff_exists.mp (q _ List.mem_cons_self)
      exact .cons (scal_any e a) (scal_K (fun x hx => q x (List.mem_cons_of_mem _ hx)) b)
theorem scal_T {H H' : Hp} : ∀ {kvs : List (List Key × D)} {xs : List (List Key × V)}, ScA (kvs.map (·.2)) → RpT K H xs kvs → RpT K H' xs kvs
  | [], _, _, h => by cases h; exact .nil
  | d :: ds, _, q, h => by
    cases h with
    | cons a b =>
      obtain ⟨v, e⟩ := Option.isSome_iff_exists.mp (q _ List.mem_cons_self)
      exact .cons (scal_any e a) (scal_T (fun x hx => q x (List.mem_cons_of_mem _ hx)) b)
theorem SlOk.flat {A A1 B1 : Hp} {s : Sl} {o : Option V} {fp : List Addr} (h : SlOk K A B1 s o fp) (hf : flat s) (hA : ∀ p ∈ fp, A1 p = none) : SlOk K A1 B1 s o fp := by
  cases s with
  | un => exact h
  | im d =>
    obtain ⟨h0, v, h1, h2⟩ := h
    obtain ⟨w, e⟩ := Option.isSome_iff_exists.mp hf
    exact ⟨h0, v, h1, scal_any e h2⟩
  | ow ds =>
    obtain ⟨p, xs, h0, rfl, h1, h2, h3⟩ := h
    exact ⟨p, xs, h0, rfl, hA p List.mem_cons_self, h2, scal_all hf h3⟩
  | ok ds =>
    obtain ⟨p, xs, h0, rfl, h1, h2, h3⟩ := h
    exact ⟨p, xs, h0, rfl, hA p List.mem_cons_self, h2, scal_K hf h3⟩
  | ot ds =>
    obtain ⟨p, xs, h0, rfl, h1, h2, h3⟩ := h
    exact ⟨p, xs, h0, rfl, hA p List.mem_cons_self, h2, scal_T hf h3⟩
  | pg _ => exact hf.elim
  | ll _ => exact hf.elim
  | kl _ => exact hf.elim
  | f3 _ _ _ => exact hf.elim
  | tl _ _ => exact hf.elim
  | bag _ _ => exact hf.elim
/-- a call on data of which some is the caller's own, with a flat answer -/
theorem ev_callW {R : List D → Sl → Prop} {s : Sl} {E0 : XK} (h : EvAW K tr Γ ds) (hR : R ds s) (hf : flat s) : EvO K (tCall (spF K R) [] E0 tr) Γ s := ⟨fun W A B σ E Q q => h.run W A B σ E _ fun vs A1 B1 g1 r => by
  show spF K R (vs ++ []) B1 Q E0
  rw [List.append_nil]
  refine ⟨B1, ds, s, fun _ _ z => z, r, hR, fun v A2 B2 fp g2 ok hn => ?_⟩
  have g3 : Gr A1 B1 A1 B2 := ⟨fun _ _ z => z, g2.all, fun a o z => g2.all a o (g1.sub a o z), fun _ _ z => .inl ⟨_, z⟩⟩
  exact q v A1 B2 fp (g1.trans g3) (ok.flat hf fun p hp => ex_free g1.sub (hn p hp)) fun p hp => ex_free g1.all (hn p hp)⟩
theorem EvV.un' (h : EvV K te Γ v) : EvO K te Γ .un := h.un
end
end Sf

/-! Comprehensions. -/
namespace Sf
open PySem PySem.Spec PyProof.Rows L2
section
variable {K : PySem.W.Frag} {Γ : List Sl} {te ta tb tc tl : TE} {i : Nat} {d e : D} {v x y z : V} {ds es : List D} {vs : List V} {tr : TA} {tt : TT}
theorem wipe1 (σ : SS) (j : Nat) : L2.wipe σ [j] = σ.set j none := rfl
theorem wipe_again (σ : SS) (j : Nat) (x : V) : L2.wipe ((L2.wipe σ [j]).set j (some x)) [j] = L2.wipe σ [j] := by
  rw [wipe1, wipe1, List.set_set, List.set_set]
/-- the turns of a comprehension: dd the items' data, res what stands behind each turn -/
theorem lcG {W A B : Hp} {σ : SS} (E : EnvAt K W A B Γ σ) {j : Nat} {J : It} {dd : List D} (f : Nat → Bool) (g : Nat → D) (res : Nat → List D) (h0 : res 0 = [])
    (hy1 : ∀ i, i < dd.length → f i = true → res (i + 1) = res i ++ [g i]) (hy0 : ∀ i, i < dd.length → f i = false → res (i + 1) = res i) (hz : dd.length ≤ 40000)
    (hlen : ∀ i, i ≤ dd.length → (res i).length ≤ i)
    (hstop : ∀ i A' B', Gr A B A' B' → dd.length ≤ i → J.stop i B') (hgo : ∀ i A' B', Gr A B A' B' → i < dd.length → J.go i B')
    (hyld : ∀ i A' B' x B'', Gr A B A' B' → i < dd.length → J.yld i B' x B'' → B'' = B' ∧ ∃ d, dd[i]? = some d ∧ Rp K A' x d)
    (ht : ∀ i d, dd[i]? = some d → EvT K tt (Γ.set j (.im d)) (f i)) (he : ∀ i d, dd[i]? = some d → f i = true → EvF K te (Γ.set j (.im d)) (g i))
    {Q : VK} (q : ∀ p xs A' B', Gr A B A' B' → B p = none → A' p = none → B' p = some (.lst xs) → RpA K A' xs (res dd.length) → Q (.ref p) B') :
    ∀ Dl, B Dl = none → ∃ Wd : Nat → Nat → Hp → Prop, (∃ m, Wd 0 m (upd B Dl (.lst []))) ∧ ∀ i m H, Wd i m H →
      (J.stop i H ∧ Q (.ref Dl) H) ∨ (J.go i H ∧ ∃ Nx : Hp → Prop, (∀ H', Nx H' → ∃ m', m' < m ∧ Wd (i + 1) m' H') ∧ ∀ x H', J.yld i H x H' → gName j x (L2.wipe σ [j]) H' fun σ2 H2 => L2.wipe σ2 [j] = L2.wipe σ [j] ∧ tt σ2 H2 fun b H3 =>
        if b = true then te σ2 H3 fun y H4 => ∃ acc, H4 Dl = some (.lst acc) ∧ acc.length < sizeLine ∧ Nx (upd H4 Dl (.lst (acc ++ [y]))) else Nx H3) := by
  intro Dl hD
  let Pv : Nat → Hp → Prop := fun i H' => ∃ A' acc, Gr A B A' H' ∧ A' Dl = none ∧ H' Dl = some (.lst acc) ∧ RpA K A' acc (res i)
  refine ⟨fun i m H => m = dd.length - i ∧ i ≤ dd.length ∧ Pv i H, ⟨dd.length, by simp, Nat.zero_le _, A, [], Gr.lay E.ex hD, ex_free E.ex hD, upd_same, by rw [h0]; exact .nil⟩, ?_⟩
  rintro i m H ⟨rfl, hi, A1, acc, g1, hA1, hacc, racc⟩
  by_cases hlt : i < dd.length
  · refine .inr ⟨hgo i A1 H g1 hlt, Pv (i + 1), fun H' p' => ⟨dd.length - (i + 1), by omega, rfl, hlt, p'⟩, fun x H' yl => ?_⟩
    obtain ⟨rfl, d, hd, rx⟩ := hyld i A1 H x H' g1 hlt yl
    refine ⟨wipe_again σ j x, ?_⟩
    have E1 : EnvAt K W A1 H' (Γ.set j (.im d)) ((L2.wipe σ [j]).set j (some x)) := by
      have e0 := ((E.grow g1).wipe j).put (.refl g1.sub) (s := .im d) (v := x) (fp := []) j ⟨rfl, x, rfl, rx⟩ (fun _ z => nomatch z) (fun _ z => nomatch z)
      rw [List.set_set] at e0
      exact e0
    have hl : acc.length < sizeLine := by
      rw [racc.length]
      have := hlen i hi
      exact Nat.lt_of_lt_of_le (show (res i).length < 100000 by omega) (by decide)
    refine (ht i d hd).run W A1 H' _ E1 _ fun A2 B2 g2 => ?_
    cases hf : f i with
    | true =>
      refine (he i d hd hf).run W A2 B2 _ (E1.grow g2) _ fun y A3 B3 fp g3 ok _ => ?_
      obtain ⟨_, w, e, ry⟩ := ok
      cases e
      have g13 := g2.trans g3
      have hD3 : A3 Dl = none := g13.out hA1 hacc
      refine ⟨acc, g13.all _ _ hacc, hl, A3, acc ++ [y], ?_, hD3, upd_same, ?_⟩
      · have gg := g1.trans g13
        exact ⟨gg.fix, fun a o z => by
          rw [upd_ne (ne_of_none z hD)]
          exact gg.all a o z, fun a o z => by
          rw [upd_ne (ne_of_none z hD3)]
          exact gg.sub a o z, gg.new⟩
      · rw [hy1 i hlt hf]
        exact (racc.mono g13.fix).append (.cons ry .nil)
    | false =>
      refine ⟨A2, acc, g1.trans g2, g2.out hA1 hacc, g2.all _ _ hacc, ?_⟩
      rw [hy0 i hlt hf]
      exact racc.mono g2.fix
  · have e : i = dd.length := by omega
    subst e
    exact .inl ⟨hstop _ A1 H g1 (Nat.le_refl _), q Dl acc A1 H g1 hD hA1 hacc racc⟩
theorem filt_res (f : D → Bool) (g : D → D) (ds : List D) : (((ds.take 0).filter f).map g = []) ∧ (∀ i d, ds[i]? = some d → f d = true → ((ds.take (i + 1)).filter f).map g = ((ds.take i).filter f).map g ++ [g d]) ∧
    (∀ i d, ds[i]? = some d → f d = false → ((ds.take (i + 1)).filter f).map g = ((ds.take i).filter f).map g) ∧ ∀ i, (((ds.take i).filter f).map g).length ≤ i := by
  refine ⟨rfl, fun i d h hf => ?_, fun i d h hf => ?_, fun i => ?_⟩
  · rw [List.take_add_one, h, List.filter_append, List.map_append]
    simp [hf]
  · rw [List.take_add_one, h, List.filter_append, List.map_append]
    simp [hf]
  · rw [List.length_map]
    exact Nat.le_trans (List.length_filter_le _ _) (by rw [List.length_take]; omega)
theorem ev_lcL {j : Nat} (f : D → Bool) (g : D → D) (h : EvL K tl Γ ds) (hz : ds.length ≤ 40000)
    (ht : ∀ d, d ∈ ds → EvT K tt (Γ.set j (.im d)) (f d)) (he : ∀ d, d ∈ ds → f d = true → EvF K te (Γ.set j (.im d)) (g d)) : EvO K (tLc (iX K tl) (gName j) tt te [j]) Γ (.ow ((ds.filter f).map g)) := ⟨fun W A B σ E Q q => .inl (h.run W A B σ E _ fun p xs A1 B1 g1 hp r => by
  refine ⟨p, rfl, ⟨xs, .inl (.inl hp)⟩, ?_⟩
  obtain ⟨r0, r1, r2, r3⟩ := filt_res f g ds
  have dflt : ∀ i (hi : i < ds.length), ds[i]? = some ds[i] := fun i hi => List.getElem?_eq_getElem hi
  have lst : ∀ {A' B'}, Gr A1 B1 A' B' → SqL K B' p xs := fun gg => .inl (.inl (gg.all _ _ hp))
  refine lcG (E.grow g1) (j := j) (J := Itl K p) (dd := ds) (fun i => (ds[i]?.map f).getD false) (fun i => (ds[i]?.map g).getD .non) (fun i => ((ds.take i).filter f).map g) r0 (fun i hi hf => ?_) (fun i hi hf => ?_) hz (fun i _ => r3 i)
    (fun i A' B' gg hi => ⟨xs, lst gg, by rw [r.length]; exact hi⟩) (fun i A' B' gg hi => ?_) (fun i A' B' x B'' gg hi yl => ?_) (fun i d hd => ?_) (fun i d hd hf => ?_) (fun l ys A' B' gg h1 h2 h3 h4 => ?_)
  · rw [dflt i hi] at hf ⊢
    exact r1 i _ (dflt i hi) hf
  · rw [dflt i hi] at hf
    exact r2 i _ (dflt i hi) hf
  · obtain ⟨x, hx, _⟩ := r.get (dflt i hi)
    exact ⟨xs, x, lst gg, hx⟩
  · obtain ⟨e, yl⟩ := yl
    obtain ⟨x', hx, rx⟩ := r.get (dflt i hi)
    have : x' = x := Option.some.inj (hx.symm.trans (yl xs (lst gg)))
    subst this
    exact ⟨e, _, dflt i hi, rx.mono gg.fix⟩
  · rw [hd]
    exact ht d (List.mem_of_getElem? hd)
  · rw [hd] at hf ⊢
    exact he d (List.mem_of_getElem? hd) hf
  · rw [List.take_length] at h4
    exact q _ A' B' [l] (g1.trans gg) ⟨l, ys, rfl, rfl, h2, h3, h4⟩ fun _ hq => new1 g1 h1 hq)⟩
theorem ev_lcT {j : Nat} (f : D → Bool) (g : D → D) (h : EvF K tl Γ (.tup ds)) (hz : ds.length ≤ 40000)
    (ht : ∀ d, d ∈ ds → EvT K tt (Γ.set j (.im d)) (f d)) (he : ∀ d, d ∈ ds → f d = true → EvF K te (Γ.set j (.im d)) (g d)) : EvO K (tLc (iX K tl) (gName j) tt te [j]) Γ (.ow ((ds.filter f).map g)) := ⟨fun W A B σ E Q q => .inr (.inl (h.run W A B σ E _ fun p A1 B1 fp g1 ok _ => by
  obtain ⟨_, w, e, rr⟩ := ok
  cases e
  cases rr with
  | @tup a xs _ hp r =>
  have hp := g1.sub _ _ hp
  refine ⟨a, rfl, ⟨xs, .inl (.inl hp)⟩, ?_⟩
  obtain ⟨r0, r1, r2, r3⟩ := filt_res f g ds
  have dflt : ∀ i (hi : i < ds.length), ds[i]? = some ds[i] := fun i hi => List.getElem?_eq_getElem hi
  have lst : ∀ {A' B'}, Gr A1 B1 A' B' → SqT K B' a xs := fun gg => .inl (.inl (gg.all _ _ hp))
  refine lcG (E.grow g1) (j := j) (J := Itt K a) (dd := ds) (fun i => (ds[i]?.map f).getD false) (fun i => (ds[i]?.map g).getD .non) (fun i => ((ds.take i).filter f).map g) r0 (fun i hi hf => ?_) (fun i hi hf => ?_) hz (fun i _ => r3 i)
    (fun i A' B' gg hi => ⟨xs, lst gg, by rw [r.length]; exact hi⟩) (fun i A' B' gg hi => ?_) (fun i A' B' x B'' gg hi yl => ?_) (fun i d hd => ?_) (fun i d hd hf => ?_) (fun l ys A' B' gg h1 h2 h3 h4 => ?_)
  · rw [dflt i hi] at hf ⊢
    exact r1 i _ (dflt i hi) hf
  · rw [dflt i hi] at hf
    exact r2 i _ (dflt i hi) hf
  · obtain ⟨x, hx, _⟩ := r.get (dflt i hi)
    exact ⟨xs, x, lst gg, hx⟩
  · obtain ⟨e, yl⟩ := yl
    obtain ⟨x', hx, rx⟩ := r.get (dflt i hi)
    have : x' = x := Option.some.inj (hx.symm.trans (yl xs (lst gg)))
    subst this
    exact ⟨e, _, dflt i hi, rx.mono gg.fix⟩
  · rw [hd]
    exact ht d (List.mem_of_getElem? hd)
  · rw [hd] at hf ⊢
    exact he d (List.mem_of_getElem? hd) hf
  · rw [List.take_length] at h4
    exact q _ A' B' [l] (g1.trans gg) ⟨l, ys, rfl, rfl, h2, h3, h4⟩ fun _ hq => new1 g1 h1 hq))⟩
theorem range_res (f : Nat → Bool) (g : Nat → D) : (((List.range 0).filter f).map g = []) ∧ (∀ i, f i = true → ((List.range (i + 1)).filter f).map g = ((List.range i).filter f).map g ++ [g i]) ∧
    (∀ i, f i = false → ((List.range (i + 1)).filter f).map g = ((List.range i).filter f).map g) ∧ ∀ i, (((List.range i).filter f).map g).length ≤ i := by
  refine ⟨rfl, fun i hf => ?_, fun i hf => ?_, fun i => ?_⟩
  · rw [List.range_succ, List.filter_append, List.map_append]
    simp [hf]
  · rw [List.range_succ, List.filter_append, List.map_append]
    simp [hf]
  · rw [List.length_map]
    exact Nat.le_trans (List.length_filter_le _ _) (by rw [List.length_range]; omega)
/-- over range(n) -/
theorem ev_lcR {j n : Nat} (f : Nat → Bool) (g : Nat → D) (h : EvAV K tr Γ [.int (n : Int)]) (hz : n ≤ 40000)
    (ht : ∀ i, i < n → EvT K tt (Γ.set j (.im (.int (i : Int)))) (f i)) (he : ∀ i, i < n → f i = true → EvF K te (Γ.set j (.im (.int (i : Int)))) (g i)) : EvO K (tLc (iRng1 tr) (gName j) tt te [j]) Γ (.ow (((List.range n).filter f).map g)) := ⟨fun W A B σ E Q q => h.run W A B σ E _ fun A1 B1 g1 => by
  refine ⟨n, rfl, by omega, by omega, ?_⟩
  obtain ⟨r0, r1, r2, r3⟩ := range_res f g
  have hd : ((List.range n).map fun k : Nat => D.int (k : Int)).length = n := by simp
  have dflt : ∀ i, i < n → ((List.range n).map fun k : Nat => D.int (k : Int))[i]? = some (D.int (i : Int)) := fun i hi => by simp [hi]
  have en : ((n : Int)).toNat = n := by simp
  rw [en]
  refine lcG (E.grow g1) (j := j) (J := Itr 0 n) (dd := (List.range n).map fun k : Nat => D.int (k : Int)) f g (fun i => ((List.range i).filter f).map g) r0 (fun i _ hf => r1 i hf) (fun i _ hf => r2 i hf) (by rw [hd]; exact hz) (fun i _ => r3 i)
    (fun i A' B' gg hi => by rw [hd] at hi; exact hi) (fun i A' B' gg hi => by rw [hd] at hi; exact hi) (fun i A' B' x B'' gg hi yl => ?_) (fun i d hd' => ?_) (fun i d hd' hf => ?_) (fun l ys A' B' gg h1 h2 h3 h4 => ?_)
  · rw [hd] at hi
    obtain ⟨e, e2⟩ := yl
    refine ⟨e, _, dflt i hi, ?_⟩
    rw [e2, Int.zero_add]
    exact .int _
  · have hi : i < n := by have := (List.getElem?_eq_some_iff.mp hd').1; rwa [hd] at this
    rw [dflt i hi] at hd'
    cases hd'
    exact ht i hi
  · have hi : i < n := by have := (List.getElem?_eq_some_iff.mp hd').1; rwa [hd] at this
    rw [dflt i hi] at hd'
    cases hd'
    exact he i hi hf
  · rw [hd] at h4
    exact q _ A' B' [l] (g1.trans gg) ⟨l, ys, rfl, rfl, h2, h3, h4⟩ fun _ hq => new1 g1 h1 hq⟩
/-- over the signs of a text -/
theorem ev_lcS {j : Nat} {u : Str} (f : Nat → Bool) (g : Nat → D) (h : EvV K tl Γ (.str u)) (hz : u.length ≤ 40000)
    (ht : ∀ c, c ∈ u.cps.toList → sOk ⟨#[c]⟩ → EvT K tt (Γ.set j (.im (.str ⟨#[c]⟩))) (f c)) (he : ∀ c, c ∈ u.cps.toList → sOk ⟨#[c]⟩ → f c = true → EvF K te (Γ.set j (.im (.str ⟨#[c]⟩))) (g c)) :
    EvO K (tLc (iX K tl) (gName j) tt te [j]) Γ (.ow ((u.cps.toList.filter f).map g)) := ⟨fun W A B σ E Q q => .inr (.inr (h.run W A B σ E _ fun A1 B1 g1 okU => by
  refine ⟨u, rfl, ?_⟩
  have ok1 : ∀ c, c ∈ u.cps.toList → sOk ⟨#[c]⟩ := fun c hc => by
    have a' : u.cps.all (· < 0x110000) = true := okU
    show (#[c] : Array Nat).all (· < 0x110000) = true
    simp only [Array.all_eq_true'] at a' ⊢
    intro x hx
    have : x = c := by simpa using hx
    subst this
    exact a' x (by simpa using hc)
  have hd : (u.cps.toList.map fun c => D.str ⟨#[c]⟩).length = u.cps.size := by simp
  have dflt : ∀ i c, u.cps.toList[i]? = some c → (u.cps.toList.map fun c => D.str ⟨#[c]⟩)[i]? = some (D.str ⟨#[c]⟩) := fun i c hc => by rw [List.getElem?_map, hc]; rfl
  have back : ∀ i d, (u.cps.toList.map fun c => D.str ⟨#[c]⟩)[i]? = some d → ∃ c, u.cps.toList[i]? = some c ∧ d = D.str ⟨#[c]⟩ := fun i d hd => by
    rw [List.getElem?_map] at hd
    cases e : u.cps.toList[i]? with
    | none => rw [e] at hd; cases hd
    | some c => rw [e] at hd; exact ⟨c, e, (Option.some.inj hd).symm⟩
  have hr : (((u.cps.toList.take 0).filter f).map g = []) ∧ (∀ i c, u.cps.toList[i]? = some c → f c = true → ((u.cps.toList.take (i + 1)).filter f).map g = ((u.cps.toList.take i).filter f).map g ++ [g c]) ∧
      (∀ i c, u.cps.toList[i]? = some c → f c = false → ((u.cps.toList.take (i + 1)).filter f).map g = ((u.cps.toList.take i).filter f).map g) ∧ ∀ i, (((u.cps.toList.take i).filter f).map g).length ≤ i := by
    refine ⟨rfl, fun i d h hf => ?_, fun i d h hf => ?_, fun i => ?_⟩
    · rw [List.take_add_one, h, List.filter_append, List.map_append]
      simp [hf]
    · rw [List.take_add_one, h, List.filter_append, List.map_append]
      simp [hf]
    · rw [List.length_map]
      exact Nat.le_trans (List.length_filter_le _ _) (by rw [List.length_take]; omega)
  obtain ⟨r0, r1, r2, r3⟩ := hr
  have cAt : ∀ i, i < u.cps.size → ∃ c, u.cps.toList[i]? = some c := fun i hi => ⟨_, List.getElem?_eq_getElem (by simpa using hi)⟩
  refine lcG (E.grow g1) (j := j) (J := Its u) (dd := u.cps.toList.map fun c => D.str ⟨#[c]⟩) (fun i => (u.cps.toList[i]?.map f).getD false) (fun i => (u.cps.toList[i]?.map g).getD .non) (fun i => ((u.cps.toList.take i).filter f).map g) r0 (fun i hi hf => ?_) (fun i hi hf => ?_) (by rw [hd]; exact hz) (fun i _ => r3 i)
    (fun i A' B' gg hi => by rw [hd] at hi; exact hi) (fun i A' B' gg hi => by rw [hd] at hi; exact hi) (fun i A' B' x B'' gg hi yl => ?_) (fun i d hd' => ?_) (fun i d hd' hf => ?_) (fun l ys A' B' gg h1 h2 h3 h4 => ?_)
  · rw [hd] at hi
    obtain ⟨c, hc⟩ := cAt i hi
    rw [hc] at hf ⊢
    exact r1 i c hc hf
  · rw [hd] at hi
    obtain ⟨c, hc⟩ := cAt i hi
    rw [hc] at hf
    exact r2 i c hc hf
  · rw [hd] at hi
    obtain ⟨e, c, e2, e3⟩ := yl
    have hc : u.cps.toList[i]? = some c := by simpa using e2
    refine ⟨e, _, dflt i c hc, ?_⟩
    rw [e3]
    exact .str _ (ok1 c (List.mem_of_getElem? hc))
  · obtain ⟨c, hc, rfl⟩ := back i d hd'
    rw [hc]
    exact ht c (List.mem_of_getElem? hc) (ok1 c (List.mem_of_getElem? hc))
  · obtain ⟨c, hc, rfl⟩ := back i d hd'
    rw [hc] at hf ⊢
    exact he c (List.mem_of_getElem? hc) (ok1 c (List.mem_of_getElem? hc)) hf
  · rw [hd] at h4
    rw [show u.cps.toList.take u.cps.size = u.cps.toList from List.take_of_length_le (by simp)] at h4
    exact q _ A' B' [l] (g1.trans gg) ⟨l, ys, rfl, rfl, h2, h3, h4⟩ fun _ hq => new1 g1 h1 hq))⟩
theorem et_yes : EvT K tYes Γ true := ⟨fun W A B σ E Q q => q A B (.refl E.ex)⟩
end
end Sf

/-! Statements at the level of data. -/
namespace Sf
open PySem PySem.Spec PyProof.Rows L2
theorem Gr.floor {A0 W A B : Hp} (g : Gr A0 W A B) : Gr A W A B := ⟨fun _ _ q => q, g.all, g.sub, fun _ _ q => .inl ⟨_, q⟩⟩
theorem Gr.under {A0 W A B A' B' : Hp} (g : Gr A0 W A B) (k : Gr A W A' B') : Gr A0 W A' B' := ⟨fun a o h => k.fix a o (g.fix a o h), k.all, k.sub, fun a o h => by
  rcases k.new a o h with ⟨u, e⟩ | e
  · exact g.new a u e
  · exact .inr e⟩
section
variable (K : PySem.W.Frag)
def EnvFl (A0 W : Hp) (Γ : List Sl) (σ : SS) (B : Hp) : Prop := ∃ A, EnvAt K W A B Γ σ ∧ Gr A0 W A B
def RetOk (A0 W : Hp) (s : Sl) (v : V) (B : Hp) : Prop := ∃ A fp, Gr A0 W A B ∧ SlOk K A B s (some v) fp ∧ ∀ p ∈ fp, W p = none
/-- what is wanted behind a statement, by data -/
structure EG where
  nx : List Sl → Prop
  bk : List Sl → Prop := fun _ => False
  ct : List Sl → Prop := fun _ => False
  rt : Sl → Prop
structure Links (A0 W : Hp) (D : EG) (D' : Ends) : Prop where
  nx : ∀ Γ σ B, EnvFl K A0 W Γ σ B → D.nx Γ → D'.nx σ B
  bk : ∀ Γ σ B, EnvFl K A0 W Γ σ B → D.bk Γ → D'.bk σ B
  ct : ∀ Γ σ B, EnvFl K A0 W Γ σ B → D.ct Γ → D'.ct σ B
  rt : ∀ s v B, RetOk K A0 W s v B → D.rt s → D'.rt v B
structure Sv (ts : TS) (Γ : List Sl) (D : EG) : Prop where
  run : ∀ A0 W D' σ B, Links K A0 W D D' → EnvFl K A0 W Γ σ B → ts D' σ B
end
section
variable {K : PySem.W.Frag} {Γ Γ' : List Sl} {D E : EG} {t u z : TS} {te tk tl : TE} {tr : TA} {tc : TT} {s : Sl} {i j : Nat} {d : Sf.D} {ds es : List Sf.D}
theorem Sv.mono (h : Sv K t Γ D) (h1 : ∀ Γ, D.nx Γ → E.nx Γ) (h2 : ∀ Γ, D.bk Γ → E.bk Γ) (h3 : ∀ Γ, D.ct Γ → E.ct Γ) (h4 : ∀ s, D.rt s → E.rt s) : Sv K t Γ E :=
  ⟨fun A0 W D' σ B L e => h.run A0 W D' σ B ⟨fun Γ σ B e q => L.nx Γ σ B e (h1 Γ q), fun Γ σ B e q => L.bk Γ σ B e (h2 Γ q), fun Γ σ B e q => L.ct Γ σ B e (h3 Γ q), fun s v B e q => L.rt s v B e (h4 s q)⟩ e⟩
theorem sv_seq (h : Sv K t Γ { D with nx := fun Γ' => Sv K u Γ' D }) : Sv K (tSeq t u) Γ D := ⟨fun A0 W D' σ B L e => h.run A0 W { D' with nx := u D' } σ B ⟨fun Γ1 σ1 B1 e1 q => q.run A0 W D' σ1 B1 L e1, L.bk, L.ct, L.rt⟩ e⟩
theorem sv_cut (M : List Sl → Prop) (h : Sv K t Γ { D with nx := M }) (k : ∀ Γ', M Γ' → Sv K u Γ' D) : Sv K (tSeq t u) Γ D := sv_seq (h.mono k (fun _ q => q) (fun _ q => q) fun _ q => q)
theorem sv_next (h : D.nx Γ) : Sv K tNext Γ D := ⟨fun A0 W D' σ B L e => L.nx Γ σ B e h⟩
theorem sv_break (h : D.bk Γ) : Sv K tBreak Γ D := ⟨fun A0 W D' σ B L e => L.bk Γ σ B e h⟩
theorem sv_cont (h : D.ct Γ) : Sv K tCont Γ D := ⟨fun A0 W D' σ B L e => L.ct Γ σ B e h⟩
theorem sv_fg (f : Fg Γ Γ') (h : Sv K t Γ' D) : Sv K t Γ D := ⟨fun A0 W D' σ B L ⟨A, e, g⟩ => h.run A0 W D' σ B L ⟨A, e.weak f, g⟩⟩
theorem EnvFl.put {A0 W A B A' B' : Hp} {σ : SS} (e : EnvAt K W A B Γ σ) (g0 : Gr A0 W A B) (g : Gr A B A' B') {v : V} {fp : List Addr} (i : Nat) (ok : SlOk K A' B' s (some v) fp) (hn : ∀ p ∈ fp, B p = none) : EnvFl K A0 W (Γ.set i s) (σ.set i (some v)) B' :=
  ⟨A', e.put g i ok hn fun p hp => ex_free g0.all (hn p hp), ⟨fun a o q => g.fix a o (g0.fix a o q), fun a o q => g.all a o (g0.all a o q), g.sub, fun a o q => by
    rcases g.new a o q with ⟨u, q⟩ | q
    · exact g0.new a u q
    · exact .inr (ex_free g0.all q)⟩⟩
theorem Gr.on {A0 W A B A' B' : Hp} (g0 : Gr A0 W A B) (g : Gr A B A' B') : Gr A0 W A' B' := ⟨fun a o q => g.fix a o (g0.fix a o q), fun a o q => g.all a o (g0.all a o q), g.sub, fun a o q => by
    rcases g.new a o q with ⟨u, q⟩ | q
    · exact g0.new a u q
    · exact .inr (ex_free g0.all q)⟩
theorem sv_asg (h : EvO K te Γ s) (k : D.nx (Γ.set i s)) : Sv K (tAsg te (gName i)) Γ D := ⟨fun A0 W D' σ B L ⟨A, e, g0⟩ => h.run W A B σ e _ fun v A' B' fp g ok hn => L.nx _ _ _ (EnvFl.put e g0 g i ok hn) k⟩
theorem q_asg (h : EvO K te Γ s) (k : Sv K u (Γ.set i s) D) : Sv K (tSeq (tAsg te (gName i)) u) Γ D := sv_seq (sv_asg h k)
theorem sv_ret (h : EvO K te Γ s) (k : D.rt s) : Sv K (tRet te) Γ D := ⟨fun A0 W D' σ B L ⟨A, e, g0⟩ => h.run W A B σ e _ fun v A' B' fp g ok hn => L.rt s v B' ⟨A', fp, g0.on g, ok, fun p hp => ex_free g0.all (hn p hp)⟩ k⟩
theorem sv_retN (k : D.rt (.im .non)) : Sv K tRetN Γ D := ⟨fun A0 W D' σ B L ⟨A, e, g0⟩ => L.rt (.im .non) .non B ⟨A, [], g0, ⟨rfl, _, rfl, .non⟩, fun _ z => nomatch z⟩ k⟩
/-- an owned name is handed back -/
theorem sv_retO (h : Γ[i]? = some s) (hs : ∀ A B fp o, SlOk K A B s o fp → ∃ v, o = some v) (k : D.rt s) : Sv K (tRet (tVar i)) Γ D := ⟨fun A0 W D' σ B L ⟨A, e, g0⟩ => by
  obtain ⟨fp, ok, hW⟩ := e.at h
  obtain ⟨v, hv⟩ := hs _ _ _ _ ok
  exact ⟨v, slotRef hv, L.rt s v B ⟨A, fp, g0, by rw [← hv]; exact ok, hW⟩ k⟩⟩
theorem sv_retL (h : Γ[i]? = some (.ow ds)) (k : D.rt (.ow ds)) : Sv K (tRet (tVar i)) Γ D := sv_retO h (fun _ _ _ _ ⟨p, _, e, _⟩ => ⟨_, e⟩) k
theorem sv_retK {kvs : List (Key × Sf.D)} (h : Γ[i]? = some (.ok kvs)) (k : D.rt (.ok kvs)) : Sv K (tRet (tVar i)) Γ D := sv_retO h (fun _ _ _ _ ⟨p, _, e, _⟩ => ⟨_, e⟩) k
theorem sv_retT {kvs : List (List Key × Sf.D)} (h : Γ[i]? = some (.ot kvs)) (k : D.rt (.ot kvs)) : Sv K (tRet (tVar i)) Γ D := sv_retO h (fun _ _ _ _ ⟨p, _, e, _⟩ => ⟨_, e⟩) k
theorem sv_retP {p : List (List Sf.D × List Sf.D)} (h : Γ[i]? = some (.pg p)) (k : D.rt (.pg p)) : Sv K (tRet (tVar i)) Γ D := sv_retO h (fun _ _ _ _ ⟨p, _, _, e, _⟩ => ⟨_, e⟩) k
theorem sv_if {b : Bool} (h : EvT K tc Γ b) (h1 : b = true → Sv K t Γ D) (h2 : b = false → Sv K u Γ D) : Sv K (tIfS tc t u) Γ D := ⟨fun A0 W D' σ B L ⟨A, e, g0⟩ => h.run W A B σ e _ fun A' B' g => by
  cases b with
  | true => exact (h1 rfl).run A0 W D' σ B' L ⟨A', e.grow g, g0.on g⟩
  | false => exact (h2 rfl).run A0 W D' σ B' L ⟨A', e.grow g, g0.on g⟩⟩
/-- if c: return .., what follows -/
theorem q_if {b : Bool} (h : EvT K tc Γ b) (h1 : b = true → Sv K t Γ { D with nx := fun Γ' => Sv K z Γ' D }) (h2 : b = false → Sv K u Γ { D with nx := fun Γ' => Sv K z Γ' D }) : Sv K (tSeq (tIfS tc t u) z) Γ D := sv_seq (sv_if h h1 h2)
theorem q_when {b : Bool} (h : EvT K tc Γ b) (h1 : b = true → Sv K t Γ { D with nx := fun Γ' => Sv K z Γ' D }) (h2 : b = false → Sv K z Γ D) : Sv K (tSeq (tIfS tc t tNext) z) Γ D := q_if h h1 fun e => sv_next (h2 e)
theorem sv_drop (h : EvO K te Γ .un) (k : D.nx Γ) : Sv K (tDrop te) Γ D := ⟨fun A0 W D' σ B L ⟨A, e, g0⟩ => h.run W A B σ e _ fun v A' B' fp g ok hn => L.nx _ _ _ ⟨A', e.grow g, g0.on g⟩ k⟩
/-! ### an owned object is fixed -/
theorem fixG {A0 W A B : Hp} (g : Gr A0 W A B) {p : Addr} {o : HO} (hA : A p = none) (hB : B p = some o) (hW : W p = none) : Gr A0 W (upd A p o) B :=
  ⟨fun a u q => Evl.Ex.new hA a u (g.fix a u q), g.all, fun a u q => by
    by_cases e : a = p
    · subst e; rw [upd_same] at q; rw [hB, ← q]
    · rw [upd_ne e] at q; exact g.sub a u q, fun a u q => by
    by_cases e : a = p
    · subst e; exact .inr hW
    · rw [upd_ne e] at q; exact g.new a u q⟩
theorem sv_fixL (h : Γ[i]? = some (.ow ds)) (k : Sv K t (Γ.set i (.im (.lst ds))) D) : Sv K t Γ D := ⟨fun A0 W D' σ B L ⟨A, e, g0⟩ => by
  obtain ⟨fp, ⟨p, xs, h0, rfl, h1, h2, h3⟩, hW⟩ := e.at h
  have g1 := fixG g0 h1 h2 (hW p List.mem_cons_self)
  refine k.run A0 W D' σ B L ⟨upd A p (.lst xs), e.fix h (Evl.Ex.new h1) g1.sub fun fq ok => ?_, g1⟩
  obtain ⟨q, ys, k0, rfl, k1, k2, k3⟩ := ok
  rw [h0] at k0; cases k0
  exact ⟨fun a ha => upd_ne (by intro z; subst z; exact ha List.mem_cons_self), rfl, _, h0, .lst upd_same (h3.mono (Evl.Ex.new h1))⟩⟩
theorem sv_fixK {kvs : List (Key × Sf.D)} (h : Γ[i]? = some (.ok kvs)) (k : Sv K t (Γ.set i (.im (.dk kvs))) D) : Sv K t Γ D := ⟨fun A0 W D' σ B L ⟨A, e, g0⟩ => by
  obtain ⟨fp, ⟨p, xs, h0, rfl, h1, h2, h3⟩, hW⟩ := e.at h
  have g1 := fixG g0 h1 h2 (hW p List.mem_cons_self)
  refine k.run A0 W D' σ B L ⟨upd A p (.dK xs), e.fix h (Evl.Ex.new h1) g1.sub fun fq ok => ?_, g1⟩
  obtain ⟨q, ys, k0, rfl, k1, k2, k3⟩ := ok
  rw [h0] at k0; cases k0
  exact ⟨fun a ha => upd_ne (by intro z; subst z; exact ha List.mem_cons_self), rfl, _, h0, .dk upd_same (h3.mono (Evl.Ex.new h1))⟩⟩
theorem sv_fixT {kvs : List (List Key × Sf.D)} (h : Γ[i]? = some (.ot kvs)) (k : Sv K t (Γ.set i (.im (.dt kvs))) D) : Sv K t Γ D := ⟨fun A0 W D' σ B L ⟨A, e, g0⟩ => by
  obtain ⟨fp, ⟨p, xs, h0, rfl, h1, h2, h3⟩, hW⟩ := e.at h
  have g1 := fixG g0 h1 h2 (hW p List.mem_cons_self)
  refine k.run A0 W D' σ B L ⟨upd A p (.dT xs), e.fix h (Evl.Ex.new h1) g1.sub fun fq ok => ?_, g1⟩
  obtain ⟨q, ys, k0, rfl, k1, k2, k3⟩ := ok
  rw [h0] at k0; cases k0
  exact ⟨fun a ha => upd_ne (by intro z; subst z; exact ha List.mem_cons_self), rfl, _, h0, .dt upd_same (h3.mono (Evl.Ex.new h1))⟩⟩
/-! ### an owned object is changed -/
theorem updFl {A0 W A B : Hp} {σ : SS} (e : EnvAt K W A B Γ σ) (g0 : Gr A0 W A B) {s s' : Sl} {p : Addr} {o : HO} (h : Γ[i]? = some s) (hp : ∀ fp, SlOk K A B s (σ[i]?.getD none) fp → p ∈ fp)
    (ok : ∀ fp, SlOk K A B s (σ[i]?.getD none) fp → SlOk K A (upd B p o) s' (σ[i]?.getD none) fp) : EnvFl K A0 W (Γ.set i s') σ (upd B p o) := by
  obtain ⟨fp, ok0, hW⟩ := e.at h
  have hpp := hp fp ok0
  have hA := (ok0.out p hpp).1
  refine ⟨A, e.upd1 h hp ok, g0.fix, fun a u q => ?_, fun a u q => ?_, g0.new⟩
  · rw [upd_ne (ne_of_none q (hW p hpp))]; exact g0.all a u q
  · rw [upd_ne (ne_of_none q hA)]; exact g0.sub a u q
theorem updL {A0 W A B : Hp} {σ : SS} (e : EnvAt K W A B Γ σ) (g0 : Gr A0 W A B) (h : Γ[i]? = some (.ow ds)) {p : Addr} {xs ys : List V} (hs : σ[i]?.getD none = some (.ref p)) (r : RpA K A ys es) : EnvFl K A0 W (Γ.set i (.ow es)) σ (upd B p (.lst ys)) := by
  refine updFl e g0 h (fun fp ok => ?_) fun fp ok => ?_
  · obtain ⟨q, zs, k0, rfl, k1, k2, k3⟩ := ok
    rw [hs] at k0; cases k0
    exact List.mem_cons_self
  · obtain ⟨q, zs, k0, rfl, k1, k2, k3⟩ := ok
    rw [hs] at k0; cases k0
    exact ⟨p, ys, hs, rfl, k1, upd_same, r⟩
theorem updK {A0 W A B : Hp} {σ : SS} (e : EnvAt K W A B Γ σ) (g0 : Gr A0 W A B) {kvs kws : List (Key × Sf.D)} (h : Γ[i]? = some (.ok kvs)) {p : Addr} {ys : List (Key × V)} (hs : σ[i]?.getD none = some (.ref p)) (r : RpK K A ys kws) : EnvFl K A0 W (Γ.set i (.ok kws)) σ (upd B p (.dK ys)) := by
  refine updFl e g0 h (fun fp ok => ?_) fun fp ok => ?_
  · obtain ⟨q, zs, k0, rfl, k1, k2, k3⟩ := ok
    rw [hs] at k0; cases k0
    exact List.mem_cons_self
  · obtain ⟨q, zs, k0, rfl, k1, k2, k3⟩ := ok
    rw [hs] at k0; cases k0
    exact ⟨p, ys, hs, rfl, k1, upd_same, r⟩
theorem updT {A0 W A B : Hp} {σ : SS} (e : EnvAt K W A B Γ σ) (g0 : Gr A0 W A B) {kvs kws : List (List Key × Sf.D)} (h : Γ[i]? = some (.ot kvs)) {p : Addr} {ys : List (List Key × V)} (hs : σ[i]?.getD none = some (.ref p)) (r : RpT K A ys kws) : EnvFl K A0 W (Γ.set i (.ot kws)) σ (upd B p (.dT ys)) := by
  refine updFl e g0 h (fun fp ok => ?_) fun fp ok => ?_
  · obtain ⟨q, zs, k0, rfl, k1, k2, k3⟩ := ok
    rw [hs] at k0; cases k0
    exact List.mem_cons_self
  · obtain ⟨q, zs, k0, rfl, k1, k2, k3⟩ := ok
    rw [hs] at k0; cases k0
    exact ⟨p, ys, hs, rfl, k1, upd_same, r⟩
theorem lt16 {n : Nat} (h : n < 100000) : n < sizeLine := Nat.lt_of_lt_of_le h (by decide)
theorem sv_app (h : Γ[i]? = some (.ow ds)) (he : EvF K te Γ d) (hz : ds.length < 100000) (k : D.nx (Γ.set i (.ow (ds ++ [d])))) : Sv K (tDrop (tBM K "list" rAppend (tVar i) (tCons te tNil))) Γ D := ⟨fun A0 W D' σ B L ⟨A, e, g0⟩ => by
  obtain ⟨fp, ⟨p, xs, h0, _, h1, h2, h3⟩, hW⟩ := e.at h
  refine ⟨.ref p, slotRef h0, .inl ⟨rfl, xs, .inl (.inl h2)⟩, he.run W A B σ e _ fun v A' B' fq g ok _ => ?_⟩
  obtain ⟨_, w, e1, rv⟩ := ok
  cases e1
  exact ⟨p, xs, v, rfl, rfl, g.all _ _ h2, by rw [h3.length]; exact lt16 hz, L.nx _ _ _ (updL (xs := xs) (e.grow g) (g0.on g) h h0 ((h3.mono g.fix).append (.cons rv .nil))) k⟩⟩
theorem sv_ins {n : Nat} {ti : TE} (h : Γ[i]? = some (.ow ds)) (hi : EvV K ti Γ (.int (n : Int))) (hn : n ≤ ds.length) (he : EvF K te Γ d) (hz : ds.length < 100000) (k : D.nx (Γ.set i (.ow (ds.take n ++ [d] ++ ds.drop n)))) : Sv K (tDrop (tBM K "list" rInsert (tVar i) (tCons ti (tCons te tNil)))) Γ D := ⟨fun A0 W D' σ B L ⟨A, e, g0⟩ => by
  obtain ⟨fp, ⟨p, xs, h0, _, h1, h2, h3⟩, hW⟩ := e.at h
  refine ⟨.ref p, slotRef h0, .inl ⟨rfl, xs, .inl (.inl h2)⟩, hi.run W A B σ e _ fun A1 B1 g1 _ => he.run W A1 B1 σ (e.grow g1) _ fun v A' B' fq g ok _ => ?_⟩
  obtain ⟨_, w, e1, rv⟩ := ok
  cases e1
  refine ⟨p, xs, n, v, rfl, rfl, (g1.trans g).all _ _ h2, by rw [h3.length]; exact lt16 hz, by omega, by omega, L.nx _ _ _ (updL (xs := xs) (e.grow (g1.trans g)) (g0.on (g1.trans g)) h h0 ?_) k⟩
  rw [show ((n : Int)).toNat = n by simp]
  have r1 := h3.mono (g1.trans g).fix
  exact ((r1.take n).append (.cons rv .nil)).append (r1.drop n)⟩
theorem sv_pop0 (h : Γ[i]? = some (.ow (d :: ds))) (hz : ds.length < 100000) (k : D.nx (Γ.set i (.ow ds))) : Sv K (tDrop (tBM K "list" rPopAt (tVar i) (tCons (tC (.int 0)) tNil))) Γ D := ⟨fun A0 W D' σ B L ⟨A, e, g0⟩ => by
  obtain ⟨fp, ⟨p, xs, h0, _, h1, h2, h3⟩, hW⟩ := e.at h
  cases h3 with
  | @cons v vs _ _ r t =>
    exact ⟨.ref p, slotRef h0, .inl ⟨rfl, _, .inl (.inl h2)⟩, p, v :: vs, 0, 0, v, rfl, rfl, h2, by omega, by omega, (by rw [seqIndex_of (by omega) (by rw [List.length_cons]; omega)]; rfl), rfl, L.nx _ _ _ (updL (xs := v :: vs) e g0 h h0 t) k⟩⟩
theorem sv_setL {n : Int} {m : Nat} (h : Γ[i]? = some (.ow ds)) (he : EvF K te Γ d) (hi : EvV K tk Γ (.int n)) (hn : ixN ds.length n = some m) (k : D.nx (Γ.set i (.ow (ds.set m d)))) : Sv K (tAsg te (gSub (tVar i) tk rSetX)) Γ D := ⟨fun A0 W D' σ B L ⟨A, e, g0⟩ => he.run W A B σ e _ fun v A1 B1 fq g1 ok _ => by
  obtain ⟨_, w, e1, rv⟩ := ok
  cases e1
  obtain ⟨fp, ⟨p, xs, h0, _, h1, h2, h3⟩, hW⟩ := (e.grow g1).at h
  refine ⟨.ref p, slotRef h0, hi.run W A1 B1 σ (e.grow g1) _ fun A2 B2 g2 _ => ?_⟩
  exact .inl ⟨p, xs, n, m, rfl, rfl, g2.all _ _ h2, by rw [h3.length]; exact hn, L.nx _ _ _ (updL (xs := xs) ((e.grow g1).grow g2) ((g0.on g1).on g2) h h0 (RpA.set (rv.mono g2.fix) m (h3.mono g2.fix))) k⟩⟩
theorem sv_putK {kk : Key} {kvs : List (Key × Sf.D)} (h : Γ[i]? = some (.ok kvs)) (he : EvF K te Γ d) (hk : EvV K tk Γ (kV kk)) (hz : kvs.length < 100000) (k : D.nx (Γ.set i (.ok (putD kvs kk d)))) : Sv K (tAsg te (gSub (tVar i) tk rSetX)) Γ D := ⟨fun A0 W D' σ B L ⟨A, e, g0⟩ => he.run W A B σ e _ fun v A1 B1 fq g1 ok _ => by
  obtain ⟨_, w, e1, rv⟩ := ok
  cases e1
  obtain ⟨fp, ⟨p, xs, h0, _, h1, h2, h3⟩, hW⟩ := (e.grow g1).at h
  refine ⟨.ref p, slotRef h0, hk.run W A1 B1 σ (e.grow g1) _ fun A2 B2 g2 _ => ?_⟩
  exact .inr ⟨p, _, rfl, DPut.k (g2.all _ _ h2) (by rw [h3.length]; exact lt16 hz), L.nx _ _ _ (updK ((e.grow g1).grow g2) ((g0.on g1).on g2) h h0 ((h3.mono g2.fix).put (rv.mono g2.fix))) k⟩⟩
theorem sv_putT {kk : List Key} {kvs : List (List Key × Sf.D)} (h : Γ[i]? = some (.ot kvs)) (he : EvF K te Γ d) (hk : EvF K tk Γ (.tup (kk.map kD))) (hz : kvs.length < 100000) (k : D.nx (Γ.set i (.ot (putD kvs kk d)))) : Sv K (tAsg te (gSub (tVar i) tk rSetX)) Γ D := ⟨fun A0 W D' σ B L ⟨A, e, g0⟩ => he.run W A B σ e _ fun v A1 B1 fq g1 ok _ => by
  obtain ⟨_, w, e1, rv⟩ := ok
  cases e1
  obtain ⟨fp, ⟨p, xs, h0, _, h1, h2, h3⟩, hW⟩ := (e.grow g1).at h
  refine ⟨.ref p, slotRef h0, hk.run W A1 B1 σ (e.grow g1) _ fun y A2 B2 fr g2 ok2 _ => ?_⟩
  obtain ⟨_, w, e1, ry⟩ := ok2
  cases e1
  obtain ⟨b, rfl, hb⟩ := keyTup (ry.mono g2.sub)
  exact .inr ⟨p, _, rfl, DPut.t (g2.all _ _ h2) hb (by rw [h3.length]; exact lt16 hz), L.nx _ _ _ (updT ((e.grow g1).grow g2) ((g0.on g1).on g2) h h0 ((h3.mono g2.fix).put (rv.mono g2.fix))) k⟩⟩
theorem sv_popK {kk : Key} {kvs : List (Key × Sf.D)} (h : Γ[i]? = some (.ok kvs)) (hk : EvV K tk Γ (kV kk)) (hd : vD kvs kk = some d) (k : D.nx (Γ.set i (.ok (dropD kvs kk)))) : Sv K (tDrop (tDPop1 (tVar i) tk)) Γ D := ⟨fun A0 W D' σ B L ⟨A, e, g0⟩ => by
  obtain ⟨fp, ⟨p, xs, h0, _, h1, h2, h3⟩, hW⟩ := e.at h
  refine ⟨.ref p, slotRef h0, p, rfl, .inl ⟨xs, .inl h2⟩, hk.run W A B σ e _ fun A1 B1 g1 _ => ?_⟩
  rcases (h3.mono g1.fix).val (k := kk) with ⟨a, _⟩ | ⟨d', v, a, b, c⟩
  · rw [hd] at a; cases a
  · exact ⟨xs, kk, v, g1.all _ _ h2, rfl, b, L.nx _ _ _ (updK (e.grow g1) (g0.on g1) h h0 ((h3.mono g1.fix).drop)) k⟩⟩
/-! ### loops -/
theorem EnvFl.under {A0 W A B : Hp} (g0 : Gr A0 W A B) {σ : SS} {B' : Hp} (e : EnvFl K A W Γ σ B') : EnvFl K A0 W Γ σ B' := let ⟨A', e, g⟩ := e; ⟨A', e, g0.under g⟩
theorem RetOk.under {A0 W A B : Hp} (g0 : Gr A0 W A B) {s : Sl} {v : V} {B' : Hp} (e : RetOk K A W s v B') : RetOk K A0 W s v B' := let ⟨A', fp, g, r⟩ := e; ⟨A', fp, g0.under g, r⟩
/-- the links within a loop whose floor is A -/
theorem Links.loop {A0 W A B : Hp} (g0 : Gr A0 W A B) {D' : Ends} (L : Links K A0 W D D') (G : List Sl → Prop) (P : SS → Hp → Prop) (h : ∀ Γ σ B, EnvFl K A W Γ σ B → G Γ → P σ B) : Links K A W ⟨G, D.nx, G, D.rt⟩ { D' with nx := P, ct := P, bk := D'.nx } :=
  ⟨h, fun Γ σ B e q => L.nx Γ σ B (e.under g0) q, h, fun s v B e q => L.rt s v B (e.under g0) q⟩
theorem setFl {A W B : Hp} {σ : SS} {v : V} (e : EnvFl K A W Γ σ B) (j : Nat) (r : Rp K A v d) : EnvFl K A W (Γ.set j (.im d)) (σ.set j (some v)) B := by
  obtain ⟨A1, e, g⟩ := e
  exact ⟨A1, e.put (.refl g.sub) j ⟨rfl, v, rfl, r.mono g.fix⟩ (fun _ z => nomatch z) (fun _ z => nomatch z), g⟩
theorem sv_forL (G : Nat → List Sl → Prop) (h : EvF K tl Γ (.lst ds)) (h0 : G 0 Γ) (hs : ∀ i d Γ', ds[i]? = some d → G i Γ' → Sv K t (Γ'.set j (.im d)) ⟨G (i + 1), D.nx, G (i + 1), D.rt⟩) (hd : ∀ Γ', G ds.length Γ' → D.nx Γ') : Sv K (tFor (iX K tl) (gName j) t) Γ D := ⟨fun A0 W D' σ B L ⟨A, e, g0⟩ => .inl (h.run W A B σ e _ fun v A1 B1 fp g ok _ => by
  obtain ⟨_, w, e1, r⟩ := ok
  cases e1
  cases r with
  | @lst a xs _ hp r =>
  have g1 := g0.on g
  refine ⟨a, rfl, ⟨xs, .inl (.inl (g.sub _ _ hp))⟩, ?_⟩
  have lst : ∀ {Γ σ B'}, EnvFl K A1 W Γ σ B' → SqL K B' a xs := fun e => let ⟨A', e, gg⟩ := e; .inl (.inl (gg.sub _ _ (gg.fix _ _ hp)))
  refine for_list (fun i σ' B' => ∃ Γ', EnvFl K A1 W Γ' σ' B' ∧ G i Γ') ⟨Γ, ⟨A1, e.grow g, g1.floor⟩, h0⟩ (fun i σ' B' _ ⟨Γ', e', _⟩ => lst e') (fun i x σ' B' hx ⟨Γ', e', q⟩ => ?_) (fun σ' B' ⟨Γ', e', q⟩ => L.nx _ _ _ (e'.under g1) (hd _ (by rw [← r.length]; exact q)))
  obtain ⟨d, hdd, rx⟩ := r.getV hx
  exact (hs i d Γ' hdd q).run A1 W _ _ B' (L.loop g1 (G (i + 1)) _ fun Γ2 σ2 B2 e2 q2 => ⟨Γ2, e2, q2⟩) (setFl e' j rx))⟩
theorem sv_forT (G : Nat → List Sl → Prop) (h : EvF K tl Γ (.tup ds)) (h0 : G 0 Γ) (hs : ∀ i d Γ', ds[i]? = some d → G i Γ' → Sv K t (Γ'.set j (.im d)) ⟨G (i + 1), D.nx, G (i + 1), D.rt⟩) (hd : ∀ Γ', G ds.length Γ' → D.nx Γ') : Sv K (tFor (iX K tl) (gName j) t) Γ D := ⟨fun A0 W D' σ B L ⟨A, e, g0⟩ => .inr (.inl (h.run W A B σ e _ fun v A1 B1 fp g ok _ => by
  obtain ⟨_, w, e1, r⟩ := ok
  cases e1
  cases r with
  | @tup a xs _ hp r =>
  have g1 := g0.on g
  refine ⟨a, rfl, ⟨xs, .inl (.inl (g.sub _ _ hp))⟩, ?_⟩
  have lst : ∀ {Γ σ B'}, EnvFl K A1 W Γ σ B' → SqT K B' a xs := fun e => let ⟨A', e, gg⟩ := e; .inl (.inl (gg.sub _ _ (gg.fix _ _ hp)))
  refine for_tup (fun i σ' B' => ∃ Γ', EnvFl K A1 W Γ' σ' B' ∧ G i Γ') ⟨Γ, ⟨A1, e.grow g, g1.floor⟩, h0⟩ (fun i σ' B' _ ⟨Γ', e', _⟩ => lst e') (fun i x σ' B' hx ⟨Γ', e', q⟩ => ?_) (fun σ' B' ⟨Γ', e', q⟩ => L.nx _ _ _ (e'.under g1) (hd _ (by rw [← r.length]; exact q)))
  obtain ⟨d, hdd, rx⟩ := r.getV hx
  exact (hs i d Γ' hdd q).run A1 W _ _ B' (L.loop g1 (G (i + 1)) _ fun Γ2 σ2 B2 e2 q2 => ⟨Γ2, e2, q2⟩) (setFl e' j rx)))⟩
theorem sv_forR {n : Nat} (G : Nat → List Sl → Prop) (h : EvAV K tr Γ [.int (n : Int)]) (hz : n ≤ 100000) (h0 : G 0 Γ) (hs : ∀ i Γ', i < n → G i Γ' → Sv K t (Γ'.set j (.im (.int (i : Int)))) ⟨G (i + 1), D.nx, G (i + 1), D.rt⟩) (hd : ∀ Γ', G n Γ' → D.nx Γ') : Sv K (tFor (iRng1 tr) (gName j) t) Γ D := ⟨fun A0 W D' σ B L ⟨A, e, g0⟩ => h.run W A B σ e _ fun A1 B1 g => by
  have g1 := g0.on g
  refine ⟨n, rfl, by omega, by omega, ?_⟩
  have en : ((n : Int)).toNat = n := by simp
  rw [en]
  refine for_range (lo := 0) (fun i σ' B' => ∃ Γ', EnvFl K A1 W Γ' σ' B' ∧ G i Γ') ⟨Γ, ⟨A1, e.grow g, g1.floor⟩, h0⟩ (fun i σ' B' hi ⟨Γ', e', q⟩ => ?_) (fun σ' B' ⟨Γ', e', q⟩ => L.nx _ _ _ (e'.under g1) (hd _ q))
  rw [Int.zero_add]
  exact (hs i Γ' hi q).run A1 W _ _ B' (L.loop g1 (G (i + 1)) _ fun Γ2 σ2 B2 e2 q2 => ⟨Γ2, e2, q2⟩) (setFl e' j (.int _))⟩
theorem sv_forS {w : Str} (G : Nat → List Sl → Prop) (h : EvV K tl Γ (.str w)) (h0 : G 0 Γ) (hs : ∀ i c Γ', w.cps.toList[i]? = some c → sOk ⟨#[c]⟩ → G i Γ' → Sv K t (Γ'.set j (.im (.str ⟨#[c]⟩))) ⟨G (i + 1), D.nx, G (i + 1), D.rt⟩) (hd : ∀ Γ', G w.cps.toList.length Γ' → D.nx Γ') : Sv K (tFor (iX K tl) (gName j) t) Γ D := ⟨fun A0 W D' σ B L ⟨A, e, g0⟩ => .inr (.inr (h.run W A B σ e _ fun A1 B1 g okW => by
  have g1 := g0.on g
  have hsz : w.cps.toList.length = w.cps.size := by simp
  refine ⟨w, rfl, fun i m σ' B' => m = w.cps.size - i ∧ i ≤ w.cps.size ∧ ∃ Γ', EnvFl K A1 W Γ' σ' B' ∧ G i Γ', ⟨w.cps.size, by simp, Nat.zero_le _, Γ, ⟨A1, e.grow g, g1.floor⟩, h0⟩, ?_⟩
  rintro i m σ' B' ⟨rfl, hi, Γ', e', q⟩
  by_cases hlt : i < w.cps.size
  · refine .inr ⟨hlt, fun σ2 B2 => ∃ Γ2, EnvFl K A1 W Γ2 σ2 B2 ∧ G (i + 1) Γ2, fun σ2 B2 p => ⟨w.cps.size - (i + 1), by omega, rfl, hlt, p⟩, fun x H' y => ?_⟩
    obtain ⟨rfl, c, hc, rfl⟩ := y
    have hc' : w.cps.toList[i]? = some c := by simpa using hc
    have okc : sOk ⟨#[c]⟩ := by
      have a' : w.cps.all (· < 0x110000) = true := okW
      show (#[c] : Array Nat).all (· < 0x110000) = true
      simp only [Array.all_eq_true'] at a' ⊢
      intro x hx
      have : x = c := by simpa using hx
      subst this
      exact a' x (by have := List.mem_of_getElem? hc'; simpa using this)
    exact (hs i c Γ' hc' okc q).run A1 W _ _ H' (L.loop g1 (G (i + 1)) _ fun Γ2 σ2 B2 e2 q2 => ⟨Γ2, e2, q2⟩) (setFl e' j (.str _ okc))
  · have e1 : i = w.cps.size := by omega
    subst e1
    exact .inl ⟨Nat.le_refl _, L.nx _ _ _ (e'.under g1) (hd _ (by rw [hsz]; exact q))⟩))⟩
/-- for x in reversed(a list) -/
theorem sv_forV (G : Nat → List Sl → Prop) (h : EvA K tr Γ [.lst ds]) (h0 : G 0 Γ) (hs : ∀ i d Γ', ds.reverse[i]? = some d → G i Γ' → Sv K t (Γ'.set j (.im d)) ⟨G (i + 1), D.nx, G (i + 1), D.rt⟩) (hd : ∀ Γ', G ds.length Γ' → D.nx Γ') : Sv K (tFor (iRev K tr) (gName j) t) Γ D := ⟨fun A0 W D' σ B L ⟨A, e, g0⟩ => h.run W A B σ e _ fun vs A1 B1 g rr => by
  cases rr with
  | cons r0 rn =>
  cases rn
  cases r0 with
  | @lst a xs _ hp r =>
  have g1 := g0.on g
  refine ⟨a, xs, rfl, .inl (.inl (g.sub _ _ hp)), fun i m σ' B' => m = xs.length - i ∧ i ≤ xs.length ∧ ∃ Γ', EnvFl K A1 W Γ' σ' B' ∧ G i Γ', ⟨xs.length, by simp, Nat.zero_le _, Γ, ⟨A1, e.grow g, g1.floor⟩, h0⟩, ?_⟩
  have lst : ∀ {Γ σ B'}, EnvFl K A1 W Γ σ B' → SqL K B' a xs := fun e => let ⟨A', e, gg⟩ := e; .inl (.inl (gg.sub _ _ (gg.fix _ _ hp)))
  rintro i m σ' B' ⟨rfl, hi, Γ', e', q⟩
  by_cases hlt : i < xs.length
  · have hx : xs[xs.length - 1 - i]? = some xs[xs.length - 1 - i] := List.getElem?_eq_getElem (by omega)
    refine .inr ⟨⟨hlt, xs, _, lst e', hx⟩, fun σ2 B2 => ∃ Γ2, EnvFl K A1 W Γ2 σ2 B2 ∧ G (i + 1) Γ2, fun σ2 B2 p => ⟨xs.length - (i + 1), by omega, rfl, hlt, p⟩, fun x H' y => ?_⟩
    obtain ⟨rfl, y⟩ := y
    have e3 := (y xs (lst e')).symm.trans hx
    obtain ⟨d, hdd, rx⟩ := r.getV hx
    have e4 : x = xs[xs.length - 1 - i] := Option.some.inj e3
    subst e4
    have hl := r.length
    refine (hs i d Γ' ?_ q).run A1 W _ _ H' (L.loop g1 (G (i + 1)) _ fun Γ2 σ2 B2 e2 q2 => ⟨Γ2, e2, q2⟩) (setFl e' j rx)
    rw [List.getElem?_reverse (by omega)]
    rw [← hl]
    exact hdd
  · have e1 : i = xs.length := by omega
    subst e1
    exact .inl ⟨Nat.le_refl _, L.nx _ _ _ (e'.under g1) (hd _ (by rw [← r.length]; exact q))⟩⟩
theorem sv_while (G : Nat → List Sl → Prop) (m0 : Nat) (h0 : G m0 Γ) (hs : ∀ m Γ', G m Γ' → ∃ b, EvT K tc Γ' b ∧ (b = true → Sv K t Γ' ⟨fun Γ2 => ∃ m', m' < m ∧ G m' Γ2, D.nx, fun Γ2 => ∃ m', m' < m ∧ G m' Γ2, D.rt⟩) ∧ (b = false → D.nx Γ')) : Sv K (tWhile tc t) Γ D := ⟨fun A0 W D' σ B L ⟨A, e, g0⟩ => by
  refine ⟨fun m σ' B' => ∃ Γ', EnvFl K A W Γ' σ' B' ∧ G m Γ', ⟨m0, Γ, ⟨A, e, g0.floor⟩, h0⟩, fun m σ' B' ⟨Γ', e', q⟩ => ?_⟩
  obtain ⟨b, hb, h1, h2⟩ := hs m Γ' q
  obtain ⟨A1, e1, g1⟩ := e'
  refine hb.run W A1 B' σ' e1 _ fun A2 B2 g2 => ?_
  have e2 : EnvFl K A W Γ' σ' B2 := ⟨A2, e1.grow g2, g1.on g2⟩
  cases b with
  | true => exact ⟨fun σ2 B3 => ∃ m', m' < m ∧ ∃ Γ', EnvFl K A W Γ' σ2 B3 ∧ G m' Γ', fun σ2 B3 p => p, (h1 rfl).run A W _ σ' B2 (L.loop g0 (fun Γ2 => ∃ m', m' < m ∧ G m' Γ2) _ fun Γ2 σ2 B3 e3 ⟨m', hm, q3⟩ => ⟨m', hm, Γ2, e3, q3⟩) e2⟩
  | false => exact L.nx _ _ _ (e2.under g0) (h2 rfl)⟩
end
/-- a def's body keeps its promise -/
theorem body_ok {K : PySem.W.Frag} {R : List Sf.D → Sl → Prop} {N : List Str} {np : Nat} {t : TS} (hR : ∀ ds s, R ds s → ds.length = np ∧ Sv K t (ds.map Sl.im ++ List.replicate (N.length - np) Sl.un) ⟨fun _ => s = .im .non, fun _ => False, fun _ => False, fun s' => s' = s⟩)
    {vs : List V} {H : Hp} {Q : VK} {E : XK} (h : spF K R vs H Q E) : t { nx := fun _ H' => Q .non H', rt := Q } (L2.start N vs) H := by
  obtain ⟨A, ds, s, ex, r, hr, q⟩ := h
  obtain ⟨hl, sv⟩ := hR ds s hr
  have hlen := r.length
  refine sv.run A H _ _ H ⟨fun Γ σ B e hs => ?_, fun _ _ _ _ z => z.elim, fun _ _ _ _ z => z.elim, fun s' v B e hs => ?_⟩ ⟨A, ⟨ex, ?_, fun _ => [], fun i s' e => ?_, (fun i j p z => absurd z (by simp)), (fun i p z => absurd z (by simp))⟩, fun _ _ z => z, fun _ _ z => z, ex, fun _ _ z => .inl ⟨_, z⟩⟩
  · obtain ⟨A', e, g⟩ := e
    exact q .non A' B [] g (by rw [hs]; exact ⟨rfl, _, rfl, .non⟩) fun _ z => nomatch z
  · obtain ⟨A', fp, g, ok, hW⟩ := e
    subst hs
    exact q v A' B fp g ok hW
  · unfold L2.start
    simp only [List.length_append, List.length_map, List.length_replicate]
    omega
  · unfold L2.start
    by_cases hi : i < ds.length
    · rw [List.getElem?_append_left (by simpa using hi), List.getElem?_map] at e
      rw [List.getElem?_append_left (by rw [List.length_map]; omega), List.getElem?_map]
      cases hd : ds[i]? with
      | none => rw [hd] at e; cases e
      | some d =>
        rw [hd] at e
        cases e
        obtain ⟨v, h1, h2⟩ := r.get hd
        rw [h1]
        exact ⟨rfl, v, rfl, h2⟩
    · rw [List.getElem?_append_right (by simpa using Nat.le_of_not_lt hi)] at e
      have := List.mem_of_getElem? e
      rw [List.mem_replicate] at this
      rw [this.2]
      rfl
/-- a statement that is not come to -/
def tNever : TS := fun _ _ _ => False
theorem ps_never {X : Cx} {x : Stmt} : PS X x tNever := ⟨fun _ _ _ _ _ _ h => h.elim⟩
end Sf

/-! Words for the defs' proofs. -/
namespace Sf
open PySem PySem.Spec PyProof.Rows L2
section
variable {K : PySem.W.Frag} {Γ : List Sl} {te : TE}
theorem EvV.fi {n : Int} (h : EvV K te Γ (.int n)) : EvF K te Γ (.int n) := h.f rfl
theorem EvV.fs {n : Str} (h : EvV K te Γ (.str n)) : EvF K te Γ (.str n) := h.f rfl
theorem EvV.fb {n : Bool} (h : EvV K te Γ (.bl n)) : EvF K te Γ (.bl n) := h.f rfl
theorem EvV.fn (h : EvV K te Γ .non) : EvF K te Γ .non := h.f rfl
end
/-- a def keeps its promise: nN slots, np parameters -/
def Keeps (K : PySem.W.Frag) (R : List D → Sl → Prop) (nN np : Nat) (t : TS) : Prop :=
  ∀ ds s, R ds s → ds.length = np ∧ Sv K t (ds.map Sl.im ++ List.replicate (nN - np) Sl.un) ⟨fun _ => s = .im .non, fun _ => False, fun _ => False, fun s' => s' = s⟩
theorem hu65 {A : Around} {k : Nat} (hr : Room k A) : A.units + 65 < cLine := by
  have := hr.un
  omega
theorem hu1 {A : Around} {k : Nat} (hr : Room k A) : A.units + 1 < cLine := hu_of hr
theorem spF_len {K : PySem.W.Frag} {R : List D → Sl → Prop} {nN np : Nat} {t : TS} (h : Keeps K R nN np t) {vs : List V} {H : Hp} {Q : VK} {E : XK} (k : spF K R vs H Q E) : vs.length = np := by
  obtain ⟨A, ds, s, _, r, hr, _⟩ := k
  rw [r.length]
  exact (h ds s hr).1
theorem atI_nn {α : Type} {xs : List α} {i : Int} (h0 : 0 ≤ i) (h1 : i < xs.length) : atI xs i = some (xs[i.toNat]'(by omega)) := by
  obtain ⟨n, rfl⟩ := Int.eq_ofNat_of_zero_le h0
  exact atI_nat (List.getElem?_eq_getElem (by simpa using h1))
theorem at_en {α : Type} [En α] {xs : List α} {i : Nat} {x : α} (h : xs[i]? = some x) : atI (xs.map en) (i : Int) = some (en x) := atI_nat (by rw [List.getElem?_map, h]; rfl)
theorem nd_t {p : Prop} [Decidable p] (h : (!decide p) = true) : ¬ p := by simpa using h
theorem nd_f {p : Prop} [Decidable p] (h : (!decide p) = false) : p := by simpa using h
end Sf

/-! Evaluation: isinstance by shape, join, split. -/
namespace Sf
open PySem PySem.Spec PyProof.Rows L2
section
variable {K : PySem.W.Frag} {Γ : List Sl} {te ta tb tc : TE} {i : Nat} {d e : D} {v x y z : V} {ds es : List D} {vs : List V} {tr : TA} {n : String}
theorem ev_isi_lst (b : Bool) (ha : EvW K ta Γ (.lst ds)) (hk : kitB "list" n = some b) : EvV K (tCB (rIsi K) (tCons ta (tCons (tC (.ty n)) tNil))) Γ (.bl b) := ev_isi ha rfl hk
theorem ev_isi_tup (b : Bool) (ha : EvW K ta Γ (.tup ds)) (hk : kitB "tuple" n = some b) : EvV K (tCB (rIsi K) (tCons ta (tCons (tC (.ty n)) tNil))) Γ (.bl b) := ev_isi ha rfl hk
theorem ev_isi_str {s : Str} (b : Bool) (ha : EvW K ta Γ (.str s)) (hk : kitB "str" n = some b) : EvV K (tCB (rIsi K) (tCons ta (tCons (tC (.ty n)) tNil))) Γ (.bl b) := ev_isi ha rfl hk
theorem ev_isi_int {s : Int} (b : Bool) (ha : EvW K ta Γ (.int s)) (hk : kitB "int" n = some b) : EvV K (tCB (rIsi K) (tCons ta (tCons (tC (.ty n)) tNil))) Γ (.bl b) := ev_isi ha rfl hk
theorem ev_isi_bl {s : Bool} (b : Bool) (ha : EvW K ta Γ (.bl s)) (hk : kitB "bool" n = some b) : EvV K (tCB (rIsi K) (tCons ta (tCons (tC (.ty n)) tNil))) Γ (.bl b) := ev_isi ha rfl hk
theorem ev_isi_non (b : Bool) (ha : EvW K ta Γ .non) (hk : kitB "NoneType" n = some b) : EvV K (tCB (rIsi K) (tCons ta (tCons (tC (.ty n)) tNil))) Γ (.bl b) := ev_isi ha rfl hk
theorem ev_isi_dk {s : List (Key × D)} (b : Bool) (ha : EvW K ta Γ (.dk s)) (hk : kitB "dict" n = some b) : EvV K (tCB (rIsi K) (tCons ta (tCons (tC (.ty n)) tNil))) Γ (.bl b) := ev_isi ha rfl hk
theorem sOk_join {sep : Str} (hs : sOk sep) : ∀ {l : List Str}, (∀ x ∈ l, sOk x) → sOk (Str.join sep l)
  | [], _ => show PyData.strOk ⟨#[]⟩ = true by decide +kernel
  | [x], h => h x List.mem_cons_self
  | x :: y :: r, h => sOk_app (sOk_app (h x List.mem_cons_self) hs) (sOk_join hs (l := y :: r) fun z hz => h z (List.mem_cons_of_mem _ hz))
theorem ev_join {sep : Str} {l : List Str} (ha : EvV K ta Γ (.str sep)) (hb : EvL K tb Γ (l.map D.str)) (hl : (l.map (·.length)).sum + l.length * sep.length ≤ 16777216) : EvV K (tBM K "str" (rJoin K) ta (tCons tb tNil)) Γ (.str (Str.join sep l)) :=
  ⟨fun W A B σ E Q q => ha.run W A B σ E _ fun A1 B1 g1 o => ⟨rfl, hb.run W A1 B1 σ (E.grow g1) _ fun p xs A2 B2 g2 h r => by
    refine ⟨sep, p, l, rfl, rfl, .inl (.inl (.inl ?_)), hl, ?_⟩
    · rw [r.strs.1] at h; exact h
    · have e : Txt.join sep l = Str.join sep l := StrLaws.glued_eq_join sep l
      rw [e]
      exact q A2 B2 (g1.trans g2) (sOk_join o r.strs.2)⟩⟩
end
theorem sOk_at {z : Str} {n : Int} {c : Nat} (hz : sOk z) (h : atI z.cps.toList n = some c) : sOk ⟨#[c]⟩ := by
  have a' : z.cps.all (· < 0x110000) = true := hz
  show (#[c] : Array Nat).all (· < 0x110000) = true
  simp only [Array.all_eq_true'] at a' ⊢
  intro x hx
  have : x = c := by simpa using hx
  subst this
  unfold atI at h
  cases e : ixN z.cps.toList.length n with
  | none => rw [e] at h; cases h
  | some j =>
    rw [e] at h
    exact a' x (by have := List.mem_of_getElem? (show z.cps.toList[j]? = some x from h); simpa using this)
theorem filt_true {α : Type} (l : List α) : l.filter (fun _ => true) = l := List.filter_eq_self.mpr fun _ _ => rfl
end Sf

/-! dicts of plain data compared with themselves -/
namespace Sf
open PySem PySem.Spec PyProof.Rows L2
mutual
theorem eqv_self : ∀ d : D, plain d = true → PyData.eqv (py d) (py d) = true
  | .non, _ => by simp [py, PyData.eqv]
  | .bl b, _ => by simp [py, PyData.eqv]
  | .int i, _ => by simp [py, PyData.eqv]
  | .str x, _ => by simp [py, PyData.eqv]
  | .lst ds, h => by
    rw [plain] at h
    simp only [py, PyData.eqv]
    exact eqv_selfA ds h
  | .tup ds, h => by
    rw [plain] at h
    simp only [py, PyData.eqv]
    exact eqv_selfA ds h
  | .ktup ds, h => by
    rw [plain] at h
    simp only [py, PyData.eqv]
    exact eqv_selfA ds h
  | .scr _, h => by rw [plain] at h; cases h
  | .dk _, h => by rw [plain] at h; cases h
  | .dt _, h => by rw [plain] at h; cases h
theorem eqv_selfA : ∀ ds : List D, plainA ds = true → PyData.eqvAll (pyA ds) (pyA ds) = true
  | [], _ => by rw [pyA]; rfl
  | d :: ds, h => by
    rw [plainA, Bool.and_eq_true] at h
    rw [pyA, PyData.eqvAll, eqv_self d h.1, eqv_selfA ds h.2]
    rfl
end
/-- plain data of no great depth -/
def Pl (d : D) : Prop := plain d = true ∧ (py d).depth ≤ 50
section
variable {K : PySem.W.Frag} {H : Hp} {Γ : List Sl} {ta tb : TE}
theorem Rp.eqW {x y : V} {d : D} (hd : Pl d) (r : Rp K H x d) (r' : Rp K H y d) : EqW K H x y := .inr ⟨py d, (r.dp hd.1).1, (r'.dp hd.1).1, (r.dp hd.1).2, hd.2, eqv_self d hd.1⟩
theorem RpK.find {kvs : List (Key × D)} : ∀ {ks : List (Key × V)}, RpK K H ks kvs → ∀ p ∈ ks, ∃ d, (p.1, d) ∈ kvs ∧ Rp K H p.2 d := by
  intro ks r
  induction kvs generalizing ks with
  | nil => cases r; intro p h; cases h
  | cons q kvs ih =>
    cases r with
    | cons rv rs =>
      intro p h
      rcases List.mem_cons.mp h with rfl | h
      · exact ⟨_, List.mem_cons_self, rv⟩
      · obtain ⟨d, hd, r⟩ := ih rs p h
        exact ⟨d, List.mem_cons_of_mem _ hd, r⟩
theorem vD_nd {kvs : List (Key × D)} (nd : (kvs.map (·.1)).Nodup) {k : Key} {d : D} (h : (k, d) ∈ kvs) : vD kvs k = some d := by
  induction kvs with
  | nil => cases h
  | cons q r ih =>
    obtain ⟨j, e⟩ := q
    rw [List.map_cons, List.nodup_cons] at nd
    rw [vD_cons]
    rcases List.mem_cons.mp h with h | h
    · cases h; rw [if_pos rfl]
    · rw [if_neg fun z => nd.1 (by rw [show j = k from z]; exact List.mem_map.mpr ⟨_, h, rfl⟩)]
      exact ih nd.2 h
theorem RpK.len {kvs : List (Key × D)} : ∀ {ks : List (Key × V)}, RpK K H ks kvs → ks.length = kvs.length := by
  induction kvs with
  | nil => intro ks r; cases r; rfl
  | cons q kvs ih =>
    intro ks r
    cases r with
    | cons rv rs => rw [List.length_cons, List.length_cons, ih rs]
theorem Rp.dicW {x y : V} {kvs : List (Key × D)} (nd : (kvs.map (·.1)).Nodup) (pl : ∀ p ∈ kvs, Pl p.2) (r : Rp K H x (.dk kvs)) (r' : Rp K H y (.dk kvs)) : DicW K H x y := by
  cases r with
  | @dk a xs _ ha ra =>
    cases r' with
    | @dk b ys _ hb rb =>
      refine ⟨a, b, xs, ys, rfl, rfl, ha, hb, (RpK.len ra).trans (RpK.len rb).symm, fun p hp => ?_⟩
      obtain ⟨d, hd, rd⟩ := RpK.find ra p hp
      rcases rb.val (k := p.1) with ⟨e, _⟩ | ⟨d', v, e, e', rv⟩
      · rw [vD_nd nd hd] at e; cases e
      · rw [vD_nd nd hd] at e
        cases e
        exact ⟨v, e', Rp.eqW (pl _ hd) rd rv⟩
theorem ev_nek {kvs : List (Key × D)} (ha : EvW K ta Γ (.dk kvs)) (hb : EvW K tb Γ (.dk kvs)) (nd : (kvs.map (·.1)).Nodup) (pl : ∀ p ∈ kvs, Pl p.2) : EvV K (tOp (rNeX K) ta tb) Γ (.bl false) :=
  evv_opW ha hb trivial fun H u w Q r1 r2 k => .inr (.inr (.inl ⟨Rp.dicW nd pl r1 r2, k⟩))
/-- plain, or a dict of plain values -/
def Gd (d : D) : Prop := Pl d ∨ ∃ kvs, d = .dk kvs ∧ (kvs.map (·.1)).Nodup ∧ ∀ p ∈ kvs, Pl p.2
theorem RpA.paired : ∀ {xs ys : List V} {ds : List D}, (∀ d ∈ ds, Gd d) → RpA K H xs ds → RpA K H ys ds → Paired (fun u v => EqW K H u v ∨ DicW K H u v) xs ys
  | _, _, [], _, .nil, .nil => .nil
  | _, _, d :: ds, h, .cons r t, .cons r' t' => .cons (by
    rcases h d List.mem_cons_self with p | ⟨kvs, rfl, nd, pl⟩
    · exact .inl (Rp.eqW p r r')
    · exact .inr (Rp.dicW nd pl r r')) (RpA.paired (fun x hx => h x (List.mem_cons_of_mem _ hx)) t t')
theorem ev_nel {ds : List D} (ha : EvW K ta Γ (.lst ds)) (hb : EvW K tb Γ (.lst ds)) (h : ∀ d ∈ ds, Gd d) : EvV K (tOp (rNeX K) ta tb) Γ (.bl false) :=
  evv_opW ha hb trivial fun H u w Q r1 r2 k => by
    cases r1 with
    | @lst a xs _ ha ra =>
      cases r2 with
      | @lst b ys _ hb rb => exact .inr (.inr (.inr ⟨⟨a, b, xs, ys, rfl, rfl, ha, hb, RpA.paired h ra rb⟩, k⟩))
end
end Sf

/-! owned programs: a list of pairs of lists -/
namespace Sf
open PySem PySem.Spec PyProof.Rows L2
abbrev Bk := List D × List D
def dB (b : Bk) : D := .tup [.lst b.1, .lst b.2]
def dP (bs : List Bk) : D := .lst (bs.map dB)
section
variable {K : PySem.W.Frag} {A B : Hp}
theorem PgB.at : ∀ {vs : List V} {bs : List Bk} {fp : List Addr} {i : Nat} {ds es : List D}, PgB K A B vs bs fp → bs[i]? = some (ds, es) →
    ∃ t r w xs ys, vs[i]? = some (.ref t) ∧ A t = some (.tup [.ref r, .ref w]) ∧ (A r = none ∧ B r = some (.lst xs) ∧ RpA K A xs ds) ∧ (A w = none ∧ B w = some (.lst ys) ∧ RpA K A ys es) ∧ r ∈ fp ∧ w ∈ fp
  | _, _, _, i, _, _, .nil, e => by simp at e
  | _, _, _, 0, _, _, .cons h1 h2 h3 h4 h5 h6 h7 _, e => by
    cases e
    exact ⟨_, _, _, _, _, rfl, h1, ⟨h2, h3, h4⟩, ⟨h5, h6, h7⟩, List.mem_cons_self, List.mem_cons_of_mem _ List.mem_cons_self⟩
  | _, _, _, i + 1, _, _, .cons h1 h2 h3 h4 h5 h6 h7 t, e => by
    obtain ⟨t', r, w, xs, ys, k1, k2, k3, k4, k5, k6⟩ := PgB.at (i := i) t (by simpa using e)
    exact ⟨t', r, w, xs, ys, by simpa using k1, k2, k3, k4, List.mem_cons_of_mem _ (List.mem_cons_of_mem _ k5), List.mem_cons_of_mem _ (List.mem_cons_of_mem _ k6)⟩
theorem PgB.len : ∀ {vs : List V} {bs : List Bk} {fp : List Addr}, PgB K A B vs bs fp → vs.length = bs.length
  | _, _, _, .nil => rfl
  | _, _, _, .cons _ _ _ _ _ _ _ t => by rw [List.length_cons, List.length_cons, t.len]
/-- the rows of one block change -/
theorem PgB.rows : ∀ {vs : List V} {bs : List Bk} {fp : List Addr} {i : Nat} {ds es ds' : List D} {t r w : Addr} {zs : List V}, PgB K A B vs bs fp → fp.Nodup → bs[i]? = some (ds, es) → vs[i]? = some (.ref t) → A t = some (.tup [.ref r, .ref w]) → RpA K A zs ds' →
    PgB K A (upd B r (.lst zs)) vs (bs.set i (ds', es)) fp
  | _, _, _, _, _, _, _, _, _, _, _, .nil, _, e, _, _, _ => by simp at e
  | _, _, _, 0, _, _, _, _, r, _, _, .cons (r := r0) (w := w0) h1 h2 h3 h4 h5 h6 h7 tl, nd, e, ev, et, z => by
    cases e
    cases ev
    have er := Option.some.inj (h1.symm.trans et)
    injection er with er
    injection er with er _
    injection er with er
    subst er
    rw [List.nodup_cons, List.nodup_cons] at nd
    have hne : w0 ≠ r0 := fun q => nd.1 (q ▸ List.mem_cons_self)
    refine .cons h1 h2 upd_same z h5 ((upd_ne hne).trans h6) h7 (tl.frame (fun _ _ q => q) fun q hq => ⟨(tl.out q hq).1, upd_ne fun e => nd.1 (by rw [← e]; exact List.mem_cons_of_mem _ hq)⟩)
  | _, _, _, i + 1, _, _, _, t, r, _, _, .cons (r := r0) (w := w0) h1 h2 h3 h4 h5 h6 h7 tl, nd, e, ev, et, z => by
    rw [List.nodup_cons, List.nodup_cons] at nd
    obtain ⟨t', r', w', _, _, k1, k2, _, _, k5, _⟩ := tl.at (i := i) (by simpa using e)
    have e1 := Option.some.inj (k1.symm.trans (show _ = some (V.ref t) by simpa using ev))
    injection e1 with e1
    subst e1
    have er := Option.some.inj (k2.symm.trans et)
    injection er with er
    injection er with er _
    injection er with er
    subst er
    have n1 : r0 ≠ r' := fun q => nd.1 (q ▸ List.mem_cons_of_mem _ k5)
    have n2 : w0 ≠ r' := fun q => nd.2.1 (q ▸ k5)
    exact .cons h1 h2 ((upd_ne n1).trans h3) h4 h5 ((upd_ne n2).trans h6) h7 (tl.rows nd.2.2 (by simpa using e) (by simpa using ev) et z)
theorem PgB.rpa (hs : Ex A B) : ∀ {vs : List V} {bs : List Bk} {fp : List Addr}, PgB K A B vs bs fp → RpA K B vs (bs.map dB)
  | _, _, _, .nil => .nil
  | _, _, _, .cons h1 _ h3 h4 _ h6 h7 t => .cons (.tup (hs _ _ h1) (.cons (.lst h3 (h4.mono hs)) (.cons (.lst h6 (h7.mono hs)) .nil))) (t.rpa hs)
theorem PgB.snoc {t r w : Addr} {xs ys : List V} {ds es : List D} (h1 : A t = some (.tup [.ref r, .ref w])) (h2 : A r = none) (h3 : B r = some (.lst xs)) (h4 : RpA K A xs ds) (h5 : A w = none) (h6 : B w = some (.lst ys)) (h7 : RpA K A ys es) :
    ∀ {vs : List V} {bs : List Bk} {fp : List Addr}, PgB K A B vs bs fp → PgB K A B (vs ++ [.ref t]) (bs ++ [(ds, es)]) (fp ++ [r, w])
  | _, _, _, .nil => .cons h1 h2 h3 h4 h5 h6 h7 .nil
  | _, _, _, .cons a b c d e f g tl => .cons a b c d e f g (tl.snoc h1 h2 h3 h4 h5 h6 h7)
/-- all lists of an owned program become fixed -/
theorem PgB.fixed {A0 W : Hp} : ∀ {vs : List V} {bs : List Bk} {fp : List Addr} {A B : Hp}, PgB K A B vs bs fp → fp.Nodup → Gr A0 W A B → (∀ p ∈ fp, W p = none) →
    ∃ A', Gr A0 W A' B ∧ Ex A A' ∧ (∀ q, q ∉ fp → A' q = A q) ∧ RpA K A' vs (bs.map dB)
  | _, _, _, A, B, .nil, _, g, _ => ⟨A, g, fun _ _ q => q, fun _ _ => rfl, .nil⟩
  | _, _, _, A, B, .cons (t := t) (r := r) (w := w) (xs := xs) (ys := ys) (ds := ds) (es := es) (fp := fp) h1 h2 h3 h4 h5 h6 h7 tl, nd, g, hW => by
    rw [List.nodup_cons, List.nodup_cons] at nd
    have hne : w ≠ r := fun q => nd.1 (q ▸ List.mem_cons_self)
    have g1 : Gr A0 W (upd A r (.lst xs)) B := by
      refine ⟨fun a u q => Evl.Ex.new h2 a u (g.fix a u q), g.all, fun a u q => ?_, fun a u q => ?_⟩
      · by_cases e : a = r
        · subst e; rw [upd_same] at q; rw [h3, ← q]
        · rw [upd_ne e] at q; exact g.sub a u q
      · by_cases e : a = r
        · subst e; exact .inr (hW _ List.mem_cons_self)
        · rw [upd_ne e] at q; exact g.new a u q
    have hw : upd A r (.lst xs) w = none := (upd_ne hne).trans h5
    have g2 : Gr A0 W (upd (upd A r (.lst xs)) w (.lst ys)) B := by
      refine ⟨fun a u q => Evl.Ex.new hw a u (g1.fix a u q), g.all, fun a u q => ?_, fun a u q => ?_⟩
      · by_cases e : a = w
        · subst e; rw [upd_same] at q; rw [h6, ← q]
        · rw [upd_ne e] at q; exact g1.sub a u q
      · by_cases e : a = w
        · subst e; exact .inr (hW _ (List.mem_cons_of_mem _ List.mem_cons_self))
        · rw [upd_ne e] at q; exact g1.new a u q
    have x1 : Ex A (upd (upd A r (.lst xs)) w (.lst ys)) := fun a u q => Evl.Ex.new hw a u (Evl.Ex.new h2 a u q)
    have tl' : PgB K (upd (upd A r (.lst xs)) w (.lst ys)) B _ _ fp := tl.frame x1 fun q hq => ⟨by
      rw [upd_ne fun e => nd.2.1 (by rw [← e]; exact hq), upd_ne fun e => nd.1 (by rw [← e]; exact List.mem_cons_of_mem _ hq)]
      exact (tl.out q hq).1, rfl⟩
    obtain ⟨A', gA, xA, k, rr⟩ := tl'.fixed nd.2.2 g2 fun p hp => hW p (List.mem_cons_of_mem _ (List.mem_cons_of_mem _ hp))
    have x2 : Ex A A' := fun a u q => xA a u (x1 a u q)
    refine ⟨A', gA, x2, fun q hq => ?_, .cons (.tup (x2 _ _ h1) (.cons (.lst (xA r _ ((upd_ne hne.symm).trans upd_same)) (h4.mono x2)) (.cons (.lst (xA w _ upd_same) (h7.mono x2)) .nil))) rr⟩
    have q1 : q ≠ r := fun e => hq (e ▸ List.mem_cons_self)
    have q2 : q ≠ w := fun e => hq (e ▸ List.mem_cons_of_mem _ List.mem_cons_self)
    have q3 : q ∉ fp := fun e => hq (List.mem_cons_of_mem _ (List.mem_cons_of_mem _ e))
    rw [k q q3, upd_ne q2, upd_ne q1]
end
section
variable {K : PySem.W.Frag} {Γ : List Sl} {te ta tb : TE} {i : Nat} {bs : List Bk}
theorem ev_pgw (h : Γ[i]? = some (.pg bs)) : EvW K (tVar i) Γ (dP bs) := ⟨fun W A B σ E Q q => by
  obtain ⟨fp, ⟨p, xs, gp, h0, _, h1, h2, h3, _⟩, _⟩ := E.at h
  exact ⟨.ref p, slotRef h0, q _ A B (.refl E.ex) (.lst h2 (h3.rpa E.ex))⟩⟩
theorem EvO.fixP (h : EvO K te Γ (.pg bs)) : EvF K te Γ (dP bs) := ⟨fun W A B σ E Q q => h.run W A B σ E Q fun v A1 B1 fp g ok hn => by
  obtain ⟨p, xs, gp, e, rfl, h1, h2, h3, nd⟩ := ok
  cases e
  rw [List.nodup_cons] at nd
  obtain ⟨A2, g2, x2, k2, rr⟩ := h3.fixed nd.2 g fun p hp => hn p (List.mem_cons_of_mem _ hp)
  have hp : A2 p = none := (k2 p nd.1).trans h1
  have g3 := g2.fixed (hn p List.mem_cons_self) hp h2
  exact q _ _ B1 [] g3 ⟨rfl, _, rfl, .lst upd_same (rr.mono (Evl.Ex.new hp))⟩ fun _ z => nomatch z⟩
/-- a pair of owned lists -/
structure EvG (K : PySem.W.Frag) (te : TE) (Γ : List Sl) (b : Bk) : Prop where
  run : ∀ W A B σ, EnvAt K W A B Γ σ → ∀ Q : VK, (∀ t r w xs ys A' B', Gr A B A' B' → A' t = some (.tup [.ref r, .ref w]) → (A' r = none ∧ B' r = some (.lst xs) ∧ RpA K A' xs b.1) → (A' w = none ∧ B' w = some (.lst ys) ∧ RpA K A' ys b.2) → r ≠ w → B r = none → B w = none → Q (.ref t) B') → te σ B Q
theorem ev_pair {ds es : List D} (ha : EvO K ta Γ (.ow ds)) (hb : EvO K tb Γ (.ow es)) : EvG K (tTup (tCons ta (tCons tb tNil))) Γ (ds, es) := ⟨fun W A B σ E Q q =>
  ha.run W A B σ E _ fun v A1 B1 fp g1 ok hn => hb.run W A1 B1 σ (E.grow g1) _ fun u A2 B2 fq g2 ok2 hn2 => by
    obtain ⟨r, xs, e, rfl, h1, h2, h3⟩ := ok
    cases e
    obtain ⟨w, ys, e, rfl, k1, k2, k3⟩ := ok2
    cases e
    refine ⟨show (2 : Nat) ≤ sizeLine by decide, fun t ht => ?_⟩
    have g12 := g1.trans g2
    have r1 : B1 w = none := hn2 w List.mem_cons_self
    have ne : r ≠ w := fun e => by rw [e] at h2; rw [r1] at h2; cases h2
    have hr := g2.all _ _ h2
    have tr : r ≠ t := fun e => by rw [e, ht] at hr; cases hr
    have tw : w ≠ t := fun e => by rw [e, ht] at k2; cases k2
    have x : Ex A2 (upd A2 t (.tup [.ref r, .ref w])) := Evl.Ex.new (ex_free g2.sub ht)
    refine q t r w xs ys _ _ (g12.trans (Gr.layF g2.sub ht)) upd_same ⟨(upd_ne tr).trans (g2.out h1 h2), (upd_ne tr).trans hr, (h3.mono g2.fix).mono x⟩ ⟨(upd_ne tw).trans k1, (upd_ne tw).trans k2, k3.mono x⟩ ne (hn r List.mem_cons_self) ?_
    exact ex_free g1.all r1⟩
end
end Sf

/-! owned programs: made by a comprehension, changed -/
namespace Sf
open PySem PySem.Spec PyProof.Rows L2
section
variable {K : PySem.W.Frag} {Γ : List Sl} {te ta tb tl : TE} {i : Nat} {bs : List Bk} {tr : TA} {ds : List D}
theorem lcP {W A B : Hp} {σ : SS} (E : EnvAt K W A B Γ σ) {j : Nat} {J : It} {dd : List D} (g : Nat → Bk) (hz : dd.length ≤ 40000)
    (hstop : ∀ i A' B', Gr A B A' B' → dd.length ≤ i → J.stop i B') (hgo : ∀ i A' B', Gr A B A' B' → i < dd.length → J.go i B')
    (hyld : ∀ i A' B' x B'', Gr A B A' B' → i < dd.length → J.yld i B' x B'' → B'' = B' ∧ ∃ d, dd[i]? = some d ∧ Rp K A' x d)
    (he : ∀ i d, dd[i]? = some d → EvG K te (Γ.set j (.im d)) (g i))
    {Q : VK} (q : ∀ p xs fp A' B', Gr A B A' B' → B p = none → A' p = none → B' p = some (.lst xs) → PgB K A' B' xs ((List.range dd.length).map g) fp → (p :: fp).Nodup → (∀ a ∈ fp, B a = none) → Q (.ref p) B') :
    ∀ Dl, B Dl = none → ∃ Wd : Nat → Nat → Hp → Prop, (∃ m, Wd 0 m (upd B Dl (.lst []))) ∧ ∀ i m H, Wd i m H →
      (J.stop i H ∧ Q (.ref Dl) H) ∨ (J.go i H ∧ ∃ Nx : Hp → Prop, (∀ H', Nx H' → ∃ m', m' < m ∧ Wd (i + 1) m' H') ∧ ∀ x H', J.yld i H x H' → gName j x (L2.wipe σ [j]) H' fun σ2 H2 => L2.wipe σ2 [j] = L2.wipe σ [j] ∧ tYes σ2 H2 fun b H3 =>
        if b = true then te σ2 H3 fun y H4 => ∃ acc, H4 Dl = some (.lst acc) ∧ acc.length < sizeLine ∧ Nx (upd H4 Dl (.lst (acc ++ [y]))) else Nx H3) := by
  intro Dl hD
  let Pv : Nat → Hp → Prop := fun i H' => ∃ A' acc fp, Gr A B A' H' ∧ A' Dl = none ∧ H' Dl = some (.lst acc) ∧ PgB K A' H' acc ((List.range i).map g) fp ∧ (Dl :: fp).Nodup ∧ ∀ a ∈ fp, B a = none
  refine ⟨fun i m H => m = dd.length - i ∧ i ≤ dd.length ∧ Pv i H, ⟨dd.length, by simp, Nat.zero_le _, A, [], [], Gr.lay E.ex hD, ex_free E.ex hD, upd_same, .nil, by simp, fun _ z => nomatch z⟩, ?_⟩
  rintro i m H ⟨rfl, hi, A1, acc, fp, g1, hA1, hacc, racc, nd, hnew⟩
  by_cases hlt : i < dd.length
  · refine .inr ⟨hgo i A1 H g1 hlt, Pv (i + 1), fun H' p' => ⟨dd.length - (i + 1), by omega, rfl, hlt, p'⟩, fun x H' yl => ?_⟩
    obtain ⟨rfl, d, hd, rx⟩ := hyld i A1 H x H' g1 hlt yl
    refine ⟨wipe_again σ j x, ?_⟩
    have E1 : EnvAt K W A1 H' (Γ.set j (.im d)) ((L2.wipe σ [j]).set j (some x)) := by
      have e0 := ((E.grow g1).wipe j).put (.refl g1.sub) (s := .im d) (v := x) (fp := []) j ⟨rfl, x, rfl, rx⟩ (fun _ z => nomatch z) (fun _ z => nomatch z)
      rw [List.set_set] at e0
      exact e0
    have hl : acc.length < sizeLine := by
      rw [racc.len, List.length_map, List.length_range]
      exact Nat.lt_of_lt_of_le (show i < 100000 by omega) (by decide)
    refine (he i d hd).run W A1 H' _ E1 _ fun t r w xs ys A3 B3 g13 ht hr hw hne hr0 hw0 => ?_
    have hD3 : A3 Dl = none := g13.out hA1 hacc
    have hB3 := g13.all _ _ hacc
    have rD : r ≠ Dl := fun e => by rw [e, hacc] at hr0; cases hr0
    have wD' : w ≠ Dl := fun e => by rw [e, hacc] at hw0; cases hw0
    have live : ∀ p ∈ fp, ∃ o, H' p = some o := fun p hp => (racc.out p hp).2
    have rfp : r ∉ fp := fun h => by obtain ⟨o, e⟩ := live r h; rw [e] at hr0; cases hr0
    have wfp : w ∉ fp := fun h => by obtain ⟨o, e⟩ := live w h; rw [e] at hw0; cases hw0
    rw [List.nodup_cons] at nd
    refine ⟨acc, hB3, hl, A3, acc ++ [.ref t], fp ++ [r, w], ?_, hD3, upd_same, ?_, ?_, ?_⟩
    · have gg := g1.trans g13
      exact ⟨gg.fix, fun a o z => by
        rw [upd_ne (ne_of_none z hD)]
        exact gg.all a o z, fun a o z => by
        rw [upd_ne (ne_of_none z hD3)]
        exact gg.sub a o z, gg.new⟩
    · rw [List.range_succ, List.map_append]
      refine PgB.snoc ht hr.1 ((upd_ne rD).trans hr.2.1) hr.2.2 hw.1 ((upd_ne wD').trans hw.2.1) hw.2.2 ?_
      refine racc.frame g13.fix fun p hp => ?_
      obtain ⟨h1, o, h2⟩ := racc.out p hp
      have pD : p ≠ Dl := fun e => nd.1 (by rw [← e]; exact hp)
      exact ⟨g13.out h1 h2, by rw [upd_ne pD, g13.all _ _ h2, h2]⟩
    · rw [List.nodup_cons, List.nodup_append]
      refine ⟨fun h => ?_, nd.2, ?_, ?_⟩
      · rcases List.mem_append.mp h with h | h
        · exact nd.1 h
        · rcases List.mem_cons.mp h with h | h
          · exact rD h.symm
          · exact wD' (List.mem_singleton.mp h).symm
      · simp [hne]
      · intro a ha b hb e
        subst e
        rcases List.mem_cons.mp hb with h | h
        · exact rfp (h ▸ ha)
        · exact wfp (List.mem_singleton.mp h ▸ ha)
    · intro a ha
      rcases List.mem_append.mp ha with h | h
      · exact hnew a h
      · rcases List.mem_cons.mp h with h | h
        · rw [h]; exact ex_free g1.all hr0
        · rw [List.mem_singleton.mp h]; exact ex_free g1.all hw0
  · have e : i = dd.length := by omega
    subst e
    exact .inl ⟨hstop _ A1 H g1 (Nat.le_refl _), q Dl acc fp A1 H g1 hD hA1 hacc racc nd hnew⟩
/-- pairs of new lists, over range(n) -/
theorem ev_pgR {j n : Nat} (g : Nat → Bk) (h : EvAV K tr Γ [.int (n : Int)]) (hz : n ≤ 40000)
    (he : ∀ i, i < n → EvG K te (Γ.set j (.im (.int (i : Int)))) (g i)) : EvO K (tLc (iRng1 tr) (gName j) tYes te [j]) Γ (.pg ((List.range n).map g)) := ⟨fun W A B σ E Q q => h.run W A B σ E _ fun A1 B1 g1 => by
  refine ⟨n, rfl, by omega, by omega, ?_⟩
  have hd : ((List.range n).map fun k : Nat => D.int (k : Int)).length = n := by simp
  have dflt : ∀ i, i < n → ((List.range n).map fun k : Nat => D.int (k : Int))[i]? = some (D.int (i : Int)) := fun i hi => by simp [hi]
  have en : ((n : Int)).toNat = n := by simp
  rw [en]
  refine lcP (E.grow g1) (j := j) (J := Itr 0 n) (dd := (List.range n).map fun k : Nat => D.int (k : Int)) g (by rw [hd]; exact hz)
    (fun i A' B' gg hi => by rw [hd] at hi; exact hi) (fun i A' B' gg hi => by rw [hd] at hi; exact hi) (fun i A' B' x B'' gg hi yl => ?_) (fun i d hd' => ?_) (fun l ys fp A' B' gg h1 h2 h3 h4 h5 h6 => ?_)
  · rw [hd] at hi
    obtain ⟨e, e2⟩ := yl
    refine ⟨e, _, dflt i hi, ?_⟩
    rw [e2, Int.zero_add]
    exact .int _
  · have hi : i < n := by have := (List.getElem?_eq_some_iff.mp hd').1; rwa [hd] at this
    rw [dflt i hi] at hd'
    cases hd'
    exact he i hi
  · rw [hd] at h4
    refine q _ A' B' (l :: fp) (g1.trans gg) ⟨l, ys, fp, rfl, rfl, h2, h3, h4, h5⟩ fun p hp => ?_
    rcases List.mem_cons.mp hp with rfl | hp
    · exact ex_free g1.all h1
    · exact ex_free g1.all (h6 p hp)⟩
/-- pairs of new lists, over a list -/
theorem ev_pgL {j : Nat} (g : D → Bk) (h : EvL K tl Γ ds) (hz : ds.length ≤ 40000) (he : ∀ d, d ∈ ds → EvG K te (Γ.set j (.im d)) (g d)) : EvO K (tLc (iX K tl) (gName j) tYes te [j]) Γ (.pg (ds.map g)) := ⟨fun W A B σ E Q q => .inl (h.run W A B σ E _ fun p xs A1 B1 g1 hp r => by
  refine ⟨p, rfl, ⟨xs, .inl (.inl hp)⟩, ?_⟩
  have dflt : ∀ i (hi : i < ds.length), ds[i]? = some ds[i] := fun i hi => List.getElem?_eq_getElem hi
  have lst : ∀ {A' B'}, Gr A1 B1 A' B' → SqL K B' p xs := fun gg => .inl (.inl (gg.all _ _ hp))
  refine lcP (E.grow g1) (j := j) (J := Itl K p) (dd := ds) (fun i => (ds[i]?.map g).getD ([], [])) hz
    (fun i A' B' gg hi => ⟨xs, lst gg, by rw [r.length]; exact hi⟩) (fun i A' B' gg hi => ?_) (fun i A' B' x B'' gg hi yl => ?_) (fun i d hd => ?_) (fun l ys fp A' B' gg h1 h2 h3 h4 h5 h6 => ?_)
  · obtain ⟨x, hx, _⟩ := r.get (dflt i hi)
    exact ⟨xs, x, lst gg, hx⟩
  · obtain ⟨e, yl⟩ := yl
    obtain ⟨x', hx, rx⟩ := r.get (dflt i hi)
    have : x' = x := Option.some.inj (hx.symm.trans (yl xs (lst gg)))
    subst this
    exact ⟨e, _, dflt i hi, rx.mono gg.fix⟩
  · rw [hd]
    exact he d (List.mem_of_getElem? hd)
  · have e : (List.range ds.length).map (fun i => (ds[i]?.map g).getD ([], [])) = ds.map g := by
      refine List.ext_getElem (by simp) fun i h1 h2 => ?_
      simp at h1 h2 ⊢
      rw [List.getElem?_eq_getElem h1]
      rfl
    rw [e] at h4
    refine q _ A' B' (l :: fp) (g1.trans gg) ⟨l, ys, fp, rfl, rfl, h2, h3, h4, h5⟩ fun p hp => ?_
    rcases List.mem_cons.mp hp with rfl | hp
    · exact ex_free g1.all h1
    · exact ex_free g1.all (h6 p hp))⟩
/-- the rows' list of block k of the program in slot i -/
structure EvR (K : PySem.W.Frag) (te : TE) (Γ : List Sl) (i k : Nat) : Prop where
  run : ∀ W A B σ, EnvAt K W A B Γ σ → ∀ Q : VK, (∀ p t r w xs A' B', Gr A B A' B' → σ[i]?.getD none = some (.ref p) → B' p = some (.lst xs) → xs[k]? = some (.ref t) → A' t = some (.tup [.ref r, .ref w]) → (∃ zs, B' r = some (.lst zs)) → Q (.ref r) B') → te σ B Q
theorem ev_recv {k : Nat} (h : Γ[i]? = some (.pg bs)) (ha : EvV K ta Γ (.int (k : Int))) (hk : k < bs.length) : EvR K (tOp (rIxX K) (tOp (rIxX K) (tVar i) ta) (tC (.int 0))) Γ i k := ⟨fun W A B σ E Q q => by
  obtain ⟨fp, ⟨p, xs, gp, h0, _, h1, h2, h3, _⟩, _⟩ := E.at h
  refine ⟨.ref p, slotRef h0, ha.run W A B σ E _ fun A1 B1 g1 _ => ?_⟩
  obtain ⟨ds, es, hb⟩ : ∃ ds es, bs[k]? = some (ds, es) := ⟨_, _, List.getElem?_eq_getElem hk⟩
  obtain ⟨t, r, w, zs, ys, k1, k2, ⟨k3, k4, k5⟩, _, _, _⟩ := h3.at hb
  have hp := g1.all _ _ h2
  have ht := g1.fix _ _ k2
  exact .inl ⟨p, xs, _, _, rfl, rfl, .inl (.inl hp), atI_nat k1, .inr (.inl ⟨t, _, 0, .ref r, rfl, rfl, .inl (.inl (g1.sub _ _ ht)), rfl, q p t r w xs A1 B1 g1 h0 hp k1 ht ⟨zs, g1.all _ _ k4⟩⟩)⟩⟩
end
section
variable {K : PySem.W.Frag} {Γ : List Sl} {te ta tr : TE} {i k : Nat} {bs : List Bk} {D : EG} {d : Sf.D} {ds es : List Sf.D}
theorem updG {A0 W A B : Hp} {σ : SS} (e : EnvAt K W A B Γ σ) (g0 : Gr A0 W A B) (h : Γ[i]? = some (.pg bs)) (hb : bs[k]? = some (ds, es)) {p t r w : Addr} {xs zs : List V} {ds' : List Sf.D} (hs : σ[i]?.getD none = some (.ref p)) (hp : B p = some (.lst xs)) (hx : xs[k]? = some (.ref t)) (ht : A t = some (.tup [.ref r, .ref w]))
    (rr : RpA K A zs ds') : EnvFl K A0 W (Γ.set i (.pg (bs.set k (ds', es)))) σ (upd B r (.lst zs)) := by
  have key : ∀ fp, SlOk K A B (.pg bs) (σ[i]?.getD none) fp → ∃ gp, fp = p :: gp ∧ A p = none ∧ PgB K A B xs bs gp ∧ fp.Nodup ∧ r ∈ gp := fun fp ok => by
    obtain ⟨q, ys, gp, k0, rfl, k1, k2, k3, nd⟩ := ok
    rw [hs] at k0; cases k0
    rw [hp] at k2; cases k2
    obtain ⟨t', r', w', _, _, j1, j2, _, _, j3, _⟩ := k3.at hb
    rw [hx] at j1; cases j1
    rw [ht] at j2; cases j2
    exact ⟨gp, rfl, k1, k3, nd, j3⟩
  refine updFl e g0 h (fun fp ok => ?_) fun fp ok => ?_
  · obtain ⟨gp, rfl, _, _, _, hr⟩ := key fp ok
    exact List.mem_cons_of_mem _ hr
  · obtain ⟨gp, rfl, h1, h2, nd, hr⟩ := key fp ok
    have nd' := (List.nodup_cons.mp nd)
    have ne : p ≠ r := fun e => nd'.1 (e ▸ hr)
    exact ⟨p, xs, gp, hs, rfl, h1, (upd_ne ne).trans hp, h2.rows nd'.2 hb hx ht rr, nd⟩
theorem rowsAt {A B : Hp} {σ : SS} {fp : List Addr} (ok : SlOk K A B (.pg bs) (σ[i]?.getD none) fp) (hb : bs[k]? = some (ds, es)) {p t r w : Addr} {xs : List V} (hs : σ[i]?.getD none = some (.ref p)) (hp : B p = some (.lst xs)) (hx : xs[k]? = some (.ref t)) (ht : A t = some (.tup [.ref r, .ref w])) :
    ∃ zs, B r = some (.lst zs) ∧ RpA K A zs ds := by
  obtain ⟨q, ys, gp, k0, rfl, k1, k2, k3, nd⟩ := ok
  rw [hs] at k0; cases k0
  rw [hp] at k2; cases k2
  obtain ⟨t', r', w', zs, _, j1, j2, ⟨_, j4, j5⟩, _, j3, _⟩ := k3.at hb
  rw [hx] at j1; cases j1
  rw [ht] at j2; cases j2
  exact ⟨zs, j4, j5⟩
/-- p[k][0].append(e) -/
theorem sv_appG (h : Γ[i]? = some (.pg bs)) (hr : EvR K tr Γ i k) (hb : bs[k]? = some (ds, es)) (he : EvF K te Γ d) (hz : ds.length < 100000) (q : D.nx (Γ.set i (.pg (bs.set k (ds ++ [d], es))))) : Sv K (tDrop (tBM K "list" rAppend tr (tCons te tNil))) Γ D := ⟨fun A0 W D' σ B L ⟨A, e, g0⟩ => hr.run W A B σ e _ fun p t r w xs A1 B1 g1 hs hp hx ht hq => by
  obtain ⟨ys, hy⟩ := hq
  refine ⟨.inl ⟨rfl, ys, .inl (.inl hy)⟩, he.run W A1 B1 σ (e.grow g1) _ fun v A2 B2 fq g2 ok _ => ?_⟩
  obtain ⟨_, u, e1, rv⟩ := ok
  cases e1
  have e2 := (e.grow g1).grow g2
  obtain ⟨fp, ok2, _⟩ := e2.at h
  obtain ⟨zs, hzs, rz⟩ := rowsAt ok2 hb hs (g2.all _ _ hp) hx (g2.fix _ _ ht)
  exact ⟨r, zs, v, rfl, rfl, hzs, by rw [rz.length]; exact lt16 hz, L.nx _ _ _ (updG e2 ((g0.on g1).on g2) h hb hs (g2.all _ _ hp) hx (g2.fix _ _ ht) (rz.append (.cons rv .nil))) q⟩⟩
/-- p[k][0].insert(0, e) -/
theorem sv_insG (h : Γ[i]? = some (.pg bs)) (hr : EvR K tr Γ i k) (hb : bs[k]? = some (ds, es)) (he : EvF K te Γ d) (hz : ds.length < 100000) (q : D.nx (Γ.set i (.pg (bs.set k (d :: ds, es))))) : Sv K (tDrop (tBM K "list" rInsert tr (tCons (tC (.int 0)) (tCons te tNil)))) Γ D := ⟨fun A0 W D' σ B L ⟨A, e, g0⟩ => hr.run W A B σ e _ fun p t r w xs A1 B1 g1 hs hp hx ht hq => by
  obtain ⟨ys, hy⟩ := hq
  refine ⟨.inl ⟨rfl, ys, .inl (.inl hy)⟩, (evv_c (K := K) (Γ := Γ) (v := .int 0)).run W A1 B1 σ (e.grow g1) _ fun A1' B1' g1' _ => he.run W A1' B1' σ ((e.grow g1).grow g1') _ fun v A2 B2 fq g2 ok _ => ?_⟩
  obtain ⟨_, u, e1, rv⟩ := ok
  cases e1
  have e2 := ((e.grow g1).grow g1').grow g2
  have g12 := g1'.trans g2
  obtain ⟨fp, ok2, _⟩ := e2.at h
  obtain ⟨zs, hzs, rz⟩ := rowsAt ok2 hb hs (g12.all _ _ hp) hx (g12.fix _ _ ht)
  exact ⟨r, zs, 0, v, rfl, rfl, hzs, by rw [rz.length]; exact lt16 hz, by omega, by omega, L.nx _ _ _ (updG e2 (((g0.on g1).on g1').on g2) h hb hs (g12.all _ _ hp) hx (g12.fix _ _ ht) (.cons rv rz)) q⟩⟩
/-- p[k][0].pop(0) -/
theorem sv_popG (h : Γ[i]? = some (.pg bs)) (hr : EvR K tr Γ i k) (hb : bs[k]? = some (d :: ds, es)) (hz : ds.length < 100000) (q : D.nx (Γ.set i (.pg (bs.set k (ds, es))))) : Sv K (tDrop (tBM K "list" rPopAt tr (tCons (tC (.int 0)) tNil))) Γ D := ⟨fun A0 W D' σ B L ⟨A, e, g0⟩ => hr.run W A B σ e _ fun p t r w xs A1 B1 g1 hs hp hx ht hq => by
  have e2 := e.grow g1
  obtain ⟨fp, ok2, _⟩ := e2.at h
  obtain ⟨zs, hzs, rz⟩ := rowsAt ok2 hb hs hp hx ht
  cases rz with
  | @cons v vs _ _ r1 tl =>
    exact ⟨.inl ⟨rfl, _, .inl (.inl hzs)⟩, r, v :: vs, 0, 0, v, rfl, rfl, hzs, by omega, by omega, (by rw [seqIndex_of (by omega) (by rw [List.length_cons]; omega)]; rfl), rfl, L.nx _ _ _ (updG e2 (g0.on g1) h hb hs hp hx ht tl) q⟩⟩
end
end Sf

/-! lists and dicts of owned lists; dict displays of one pair -/
namespace Sf
open PySem PySem.Spec PyProof.Rows L2
/-- what a dict of lists holds under a key -/
def vL (kvs : List (Key × List D)) (k : Key) : Option (List D) := (kvs.find? fun kv => decide (kv.1 = k)).map (·.2)
theorem vL_cons {k j : Key} {ds : List D} {r : List (Key × List D)} : vL ((j, ds) :: r) k = if j = k then some ds else vL r k := by
  unfold vL
  rw [List.find?_cons]
  by_cases h : j = k <;> simp [h]
theorem vL_snoc (k j : Key) (y : List D) : ∀ kvs : List (Key × List D), vL kvs k = none → vL (kvs ++ [(k, y)]) j = if j = k then some y else vL kvs j
  | [], _ => by
    show vL [(k, y)] j = _
    rw [vL_cons]
    by_cases h : k = j
    · rw [if_pos h, if_pos h.symm]
    · rw [if_neg h, if_neg fun z => h z.symm]
  | (i, x) :: r, h => by
    rw [vL_cons] at h
    split at h
    · cases h
    · rename_i hi
      rw [List.cons_append, vL_cons, vL_cons, vL_snoc k j y r h]
      by_cases hj : i = j
      · subst hj
        rw [if_pos rfl, if_neg hi, if_pos rfl]
      · rw [if_neg hj, if_neg hj]
theorem valV_cons {k j : Key} {v : V} {r : List (Key × V)} : valV ((j, v) :: r) k = if j = k then some v else valV r k := by
  unfold valV
  rw [List.find?_cons]
  by_cases h : j = k <;> simp [h]
section
variable {K : PySem.W.Frag} {A B : Hp}
theorem PgL.val {k : Key} : ∀ {kvs : List (Key × List D)} {xs : List (Key × V)} {gp : List Addr}, xs.map (·.1) = kvs.map (·.1) → PgL K A B (xs.map (·.2)) (kvs.map (·.2)) gp →
    (vL kvs k = none ∧ valV xs k = none) ∨ ∃ ds r ys, vL kvs k = some ds ∧ valV xs k = some (.ref r) ∧ A r = none ∧ B r = some (.lst ys) ∧ RpA K A ys ds ∧ r ∈ gp
  | [], xs, gp, hk, h => by
    have : xs = [] := by cases xs <;> simp at hk ⊢
    subst this
    exact .inl ⟨rfl, rfl⟩
  | (j, ds) :: r, [], gp, hk, h => by simp at hk
  | (j, ds) :: r, (j', v) :: xs, gp, hk, h => by
    simp only [List.map_cons, List.cons.injEq] at hk
    obtain ⟨e, hk⟩ := hk
    subst e
    cases h with
    | cons h1 h2 h3 t =>
      rw [vL_cons, valV_cons]
      by_cases e : j' = k
      · rw [if_pos e, if_pos e]
        exact .inr ⟨_, _, _, rfl, rfl, h1, h2, h3, List.mem_cons_self⟩
      · rw [if_neg e, if_neg e]
        rcases PgL.val (k := k) hk t with q | ⟨a, b, c, q1, q2, q3, q4, q5, q6⟩
        · exact .inl q
        · exact .inr ⟨a, b, c, q1, q2, q3, q4, q5, List.mem_cons_of_mem _ q6⟩
theorem PgL.len : ∀ {vs : List V} {dss : List (List D)} {fp : List Addr}, PgL K A B vs dss fp → vs.length = dss.length
  | _, _, _, .nil => rfl
  | _, _, _, .cons _ _ _ t => by rw [List.length_cons, List.length_cons, t.len]
theorem PgL.at : ∀ {vs : List V} {dss : List (List D)} {fp : List Addr} {i : Nat} {ds : List D}, PgL K A B vs dss fp → dss[i]? = some ds → ∃ r xs, vs[i]? = some (.ref r) ∧ A r = none ∧ B r = some (.lst xs) ∧ RpA K A xs ds ∧ r ∈ fp
  | _, _, _, i, _, .nil, e => by simp at e
  | _, _, _, 0, _, .cons h1 h2 h3 _, e => by
    cases e
    exact ⟨_, _, rfl, h1, h2, h3, List.mem_cons_self⟩
  | _, _, _, i + 1, _, .cons h1 h2 h3 t, e => by
    obtain ⟨r, xs, k1, k2, k3, k4, k5⟩ := PgL.at (i := i) t (by simpa using e)
    exact ⟨r, xs, by simpa using k1, k2, k3, k4, List.mem_cons_of_mem _ k5⟩
theorem PgL.snoc {r : Addr} {xs : List V} {ds : List D} (h1 : A r = none) (h2 : B r = some (.lst xs)) (h3 : RpA K A xs ds) : ∀ {vs : List V} {dss : List (List D)} {fp : List Addr}, PgL K A B vs dss fp → PgL K A B (vs ++ [.ref r]) (dss ++ [ds]) (fp ++ [r])
  | _, _, _, .nil => .cons h1 h2 h3 .nil
  | _, _, _, .cons a b c tl => .cons a b c (tl.snoc h1 h2 h3)
theorem PgL.rpa (hs : Ex A B) : ∀ {vs : List V} {dss : List (List D)} {fp : List Addr}, PgL K A B vs dss fp → RpA K B vs (dss.map D.lst)
  | _, _, _, .nil => .nil
  | _, _, _, .cons _ h2 h3 t => .cons (.lst h2 (h3.mono hs)) (t.rpa hs)
end
section
variable {K : PySem.W.Frag} {Γ : List Sl} {te ta tb tc : TE} {i : Nat} {kvs : List (Key × List D)} {d : D} {ds : List D}
theorem ev_niL {k : Key} (h : Γ[i]? = some (.kl kvs)) (ha : EvV K ta Γ (kV k)) : EvV K (tOp (rNiX K) ta (tVar i)) Γ (.bl (!(vL kvs k).isSome)) := ⟨fun W A B σ E Q q =>
  ha.run W A B σ E _ fun A1 B1 g1 _ => by
    obtain ⟨fp, ⟨p, xs, gp, h0, _, h1, h2, hk, h3, _⟩, _⟩ := (E.grow g1).at h
    refine ⟨.ref p, slotRef h0, .inl ⟨p, _, rfl, DGet.k h2, ?_⟩⟩
    rcases PgL.val (k := k) hk h3 with ⟨a, b⟩ | ⟨_, _, _, a, b, _⟩ <;> rw [b] <;> rw [a] at q <;> exact q A1 B1 g1 trivial⟩
theorem ev_ixL {k : Key} (h : Γ[i]? = some (.kl kvs)) (hb : EvV K tb Γ (kV k)) (hv : vL kvs k = some ds) : EvL K (tOp (rIxX K) (tVar i) tb) Γ ds := ⟨fun W A B σ E Q q => by
  obtain ⟨fp0, ⟨p0, xs0, gp0, h00, _⟩, _⟩ := E.at h
  refine ⟨.ref p0, slotRef h00, hb.run W A B σ E _ fun A1 B1 g1 _ => ?_⟩
  obtain ⟨fp, ⟨p, xs, gp, h0, _, h1, h2, hk, h3, _⟩, _⟩ := (E.grow g1).at h
  rw [h00] at h0; cases h0
  rcases PgL.val (k := k) hk h3 with ⟨a, b⟩ | ⟨ds', r, ys, a, b, c1, c2, c3, _⟩
  · rw [hv] at a; cases a
  · rw [hv] at a; cases a
    exact .inr (.inr (.inr ⟨p0, .ref r, rfl, by rw [← b]; exact DGet.k h2, q r ys A1 B1 g1 c2 c3⟩))⟩
theorem ev_disp {k : Key} (ha : EvV K ta Γ (kV k)) (hb : EvF K tb Γ d) : EvO K (tDisp ((ta, tb) :: [])) Γ (.ok [(k, d)]) := ⟨fun W A B σ E Q q => fun p hp => by
  have g0 := Gr.lay (A := A) E.ex hp (o := .dK [])
  refine ha.run W A _ σ (E.grow g0) _ fun A1 B1 g1 _ => hb.run W A1 B1 σ ((E.grow g0).grow g1) _ fun v A2 B2 fp g2 ok _ => ?_
  obtain ⟨_, w, e, r⟩ := ok
  cases e
  have g12 := g1.trans g2
  have hB : B2 p = some (.dK []) := g12.all _ _ upd_same
  have hA : A2 p = none := g12.out (ex_free E.ex hp) upd_same
  refine ⟨hB, [(k, v)], rfl, by simp, ?_⟩
  refine q (.ref p) A2 _ [p] ?_ ⟨p, [(k, v)], rfl, rfl, hA, upd_same, .cons r .nil⟩ fun z hz => by rw [List.mem_singleton.mp hz]; exact hp
  have gg := g0.trans g12
  exact ⟨gg.fix, fun a o z => by rw [upd_ne (ne_of_none z hp)]; exact gg.all a o z, fun a o z => by rw [upd_ne (ne_of_none z hA)]; exact gg.sub a o z, gg.new⟩⟩
theorem ev_dispL {k : Key} (ha : EvV K ta Γ (kV k)) (hb : EvO K tb Γ (.ow ds)) : EvO K (tDisp ((ta, tb) :: [])) Γ (.kl [(k, ds)]) := ⟨fun W A B σ E Q q => fun p hp => by
  have g0 := Gr.lay (A := A) E.ex hp (o := .dK [])
  refine ha.run W A _ σ (E.grow g0) _ fun A1 B1 g1 _ => hb.run W A1 B1 σ ((E.grow g0).grow g1) _ fun v A2 B2 fp g2 ok hn => ?_
  obtain ⟨r, xs, e, rfl, h1, h2, h3⟩ := ok
  cases e
  have g12 := g1.trans g2
  have hB : B2 p = some (.dK []) := g12.all _ _ upd_same
  have hA : A2 p = none := g12.out (ex_free E.ex hp) upd_same
  have hrn := ex_free g1.all (hn r List.mem_cons_self)
  have rp : r ≠ p := fun e => by rw [e, upd_same] at hrn; cases hrn
  rw [upd_ne rp] at hrn
  refine ⟨hB, [(k, .ref r)], rfl, by simp, ?_⟩
  refine q (.ref p) A2 _ [p, r] ?_ ⟨p, [(k, .ref r)], [r], rfl, rfl, hA, upd_same, rfl, .cons h1 ((upd_ne rp).trans h2) h3 .nil, by simp [rp.symm]⟩ fun z hz => ?_
  · have gg := g0.trans g12
    exact ⟨gg.fix, fun a o z => by rw [upd_ne (ne_of_none z hp)]; exact gg.all a o z, fun a o z => by rw [upd_ne (ne_of_none z hA)]; exact gg.sub a o z, gg.new⟩
  · rcases List.mem_cons.mp hz with rfl | hz
    · exact hp
    · rw [List.mem_singleton.mp hz]; exact hrn⟩
end
section
variable {K : PySem.W.Frag} {Γ : List Sl} {te ta tb tk tr : TE} {i : Nat} {kvs : List (Key × List Sf.D)} {D : EG} {d : Sf.D} {ds : List Sf.D}
/-- an owned slot's object changes and takes up what is new -/
theorem EnvAt.own {W A B A2 B2 : Hp} {σ : SS} (e : EnvAt K W A B Γ σ) (g : Gr A B A2 B2) {s s' : Sl} {p : Addr} {o : HO} {add : List Addr} (h : Γ[i]? = some s) (hadd : ∀ a ∈ add, B a = none ∧ W a = none ∧ ∃ u, upd B2 p o a = some u)
    (hp : ∀ fp, SlOk K A2 B2 s (σ[i]?.getD none) fp → p ∈ fp) (ok : ∀ fp, SlOk K A2 B2 s (σ[i]?.getD none) fp → (∀ a ∈ add, a ∉ fp) → SlOk K A2 (upd B2 p o) s' (σ[i]?.getD none) (fp ++ add)) : EnvAt K W A2 (upd B2 p o) (Γ.set i s') σ := by
  obtain ⟨ex, len, F, f1, f2, f3⟩ := e
  have fi := (f1 i s h).grow g
  have hpi := hp _ fi
  have hA : A2 p = none := (fi.out p hpi).1
  have hno : ∀ j a, a ∈ add → a ∉ F j := fun j a ha hj => by
    obtain ⟨_, u, hu⟩ := f3 j a hj
    rw [(hadd a ha).1] at hu; cases hu
  refine ⟨fun a u q => ?_, by rw [List.length_set, len], fun j => if j = i then F i ++ add else F j, fun j t ej => ?_, fun j k a hj hk => ?_, fun j a ha => ?_⟩
  · rw [upd_ne (ne_of_none q hA)]
    exact g.sub a u q
  · by_cases hj : j = i
    · subst hj
      have hlt : j < Γ.length := (List.getElem?_eq_some_iff.mp h).1
      rw [List.getElem?_set_self hlt] at ej
      cases ej
      simp only [if_true]
      exact ok _ fi fun a ha => hno j a ha
    · rw [List.getElem?_set_ne (Ne.symm hj)] at ej
      simp only [if_neg hj]
      have fj := (f1 j t ej).grow g
      refine fj.frame (fun _ _ q => q) fun q hq => ⟨(fj.out q hq).1, upd_ne fun z => ?_⟩
      subst z
      exact hj (f2 j i q hq hpi)
  · by_cases e1 : j = i
    · by_cases e2 : k = i
      · rw [e1, e2]
      · simp only [if_pos e1, if_neg e2] at hj hk
        rcases List.mem_append.mp hj with hj | hj
        · rw [e1]; exact f2 i k a hj hk
        · exact absurd hk (hno k a hj)
    · by_cases e2 : k = i
      · simp only [if_neg e1, if_pos e2] at hj hk
        rcases List.mem_append.mp hk with hk | hk
        · rw [e2]; exact f2 j i a hj hk
        · exact absurd hj (hno j a hk)
      · simp only [if_neg e1, if_neg e2] at hj hk
        exact f2 j k a hj hk
  · have key : ∀ j, a ∈ F j → W a = none ∧ ∃ u, upd B2 p o a = some u := fun j hj => by
      refine ⟨(f3 j a hj).1, ?_⟩
      by_cases z : a = p
      · exact ⟨o, by rw [z, upd_same]⟩
      · obtain ⟨u, hu⟩ := (f3 j a hj).2
        exact ⟨u, by rw [upd_ne z]; exact g.all a u hu⟩
    by_cases e1 : j = i
    · simp only [if_pos e1] at ha
      rcases List.mem_append.mp ha with ha | ha
      · exact key i ha
      · exact (hadd a ha).2
    · simp only [if_neg e1] at ha
      exact key j ha
theorem ownFl {A0 W A B A2 B2 : Hp} {σ : SS} (e : EnvAt K W A B Γ σ) (g0 : Gr A0 W A B) (g : Gr A B A2 B2) {s s' : Sl} {p : Addr} {o : HO} {add : List Addr} (h : Γ[i]? = some s) (hadd : ∀ a ∈ add, B a = none ∧ ∃ u, upd B2 p o a = some u)
    (hp : ∀ fp, SlOk K A2 B2 s (σ[i]?.getD none) fp → p ∈ fp) (ok : ∀ fp, SlOk K A2 B2 s (σ[i]?.getD none) fp → (∀ a ∈ add, a ∉ fp) → SlOk K A2 (upd B2 p o) s' (σ[i]?.getD none) (fp ++ add)) : EnvFl K A0 W (Γ.set i s') σ (upd B2 p o) := by
  have hadd' : ∀ a ∈ add, B a = none ∧ W a = none ∧ ∃ u, upd B2 p o a = some u := fun a ha => ⟨(hadd a ha).1, ex_free g0.all (hadd a ha).1, (hadd a ha).2⟩
  obtain ⟨fp, ok0, hW⟩ := e.at h
  have hpi := hp _ (ok0.grow g)
  have hA := ((ok0.grow g).out p hpi).1
  have g2 := g0.on g
  refine ⟨A2, e.own g h hadd' hp ok, g2.fix, fun a u q => ?_, fun a u q => ?_, g2.new⟩
  · rw [upd_ne (ne_of_none q (hW p hpi))]; exact g2.all a u q
  · rw [upd_ne (ne_of_none q hA)]; exact g2.sub a u q
/-- d[k] = a new list, under a new key -/
theorem sv_putL {k : Key} (h : Γ[i]? = some (.kl kvs)) (he : EvO K te Γ (.ow ds)) (hk : EvV K tk Γ (kV k)) (hv : vL kvs k = none) (hz : kvs.length < 100000) (q : D.nx (Γ.set i (.kl (kvs ++ [(k, ds)])))) : Sv K (tAsg te (gSub (tVar i) tk rSetX)) Γ D := ⟨fun A0 W D' σ B L ⟨A, e, g0⟩ => he.run W A B σ e _ fun v A1 B1 fq g1 ok hn => by
  obtain ⟨r, ys, e1, rfl, r1, r2, r3⟩ := ok
  cases e1
  obtain ⟨fp0, ⟨p, xs0, gp0, h0, _⟩, _⟩ := (e.grow g1).at h
  refine ⟨.ref p, slotRef h0, hk.run W A1 B1 σ (e.grow g1) _ fun A2 B2 g2 _ => ?_⟩
  have g12 := g1.trans g2
  have e2 := e.grow g12
  obtain ⟨fp, ⟨p', xs, gp, h0', _, k1, k2, kk, k3, nd⟩, _⟩ := e2.at h
  rw [h0] at h0'; cases h0'
  have hr2 := g2.all _ _ r2
  have hrA : A2 r = none := g2.out r1 r2
  have hrB : B r = none := hn r List.mem_cons_self
  have hv' : valV xs k = none := by
    rcases PgL.val (k := k) kk k3 with ⟨_, b⟩ | ⟨_, _, _, a, _⟩
    · exact b
    · rw [hv] at a; cases a
  have hput : putK xs k (.ref r) = xs ++ [(k, .ref r)] := by
    unfold putK
    rw [if_neg]
    rw [valV_any k xs, hv']
    exact Bool.false_ne_true
  have hlen : xs.length = kvs.length := by
    have := congrArg List.length kk
    rwa [List.length_map, List.length_map] at this
  refine .inr ⟨p, _, rfl, DPut.k k2 (by rw [hlen]; exact lt16 hz), ?_⟩
  rw [hput]
  have rp : r ≠ p := fun z => by
    obtain ⟨fp, ⟨p', _, _, j0, _, _, j2, _⟩, _⟩ := e.at h
    rw [h0] at j0; cases j0
    rw [z, j2] at hrB; cases hrB
  refine L.nx _ _ _ (ownFl e g0 g12 h (add := [r]) (fun a ha => ?_) (fun fp ok => ?_) fun fp ok hno => ?_) q
  · rw [List.mem_singleton.mp ha]
    exact ⟨hrB, _, (upd_ne rp).trans hr2⟩
  · obtain ⟨p', _, _, j0, rfl, _⟩ := ok
    rw [h0] at j0; cases j0
    exact List.mem_cons_self
  · obtain ⟨p', zs, gq, j0, rfl, j1, j2, j3, j4, j5⟩ := ok
    rw [h0] at j0; cases j0
    rw [k2] at j2; cases j2
    have hrn := hno r List.mem_cons_self
    refine ⟨p, _, gq ++ [r], h0, rfl, j1, upd_same, by rw [List.map_append, List.map_append, j3]; rfl, ?_, ?_⟩
    · rw [List.map_append, List.map_append]
      have fr : PgL K A2 (upd B2 p (.dK (xs ++ [(k, .ref r)]))) (xs.map (·.2)) (kvs.map (·.2)) gq := j4.frame (fun _ _ q => q) fun q hq => ⟨(j4.out q hq).1, upd_ne fun e => (List.nodup_cons.mp j5).1 (e ▸ hq)⟩
      exact fr.snoc hrA ((upd_ne rp).trans hr2) (r3.mono g2.fix)
    · rw [List.nodup_append]
      refine ⟨j5, by simp, fun a ha b hb e => ?_⟩
      rw [List.mem_singleton.mp hb] at e
      exact hrn (e ▸ ha)⟩
/-- what stands under a key of a dict of new lists is handed back -/
theorem sv_retL1 {k : Key} {j : Nat} (h : Γ[i]? = some (.kl kvs)) (hk : EvV K (tVar j) Γ (kV k)) (q : D.rt (match vL kvs k with | none => .im .non | some ds => .ow ds)) : Sv K (tRet (tDGet1 (tVar i) (tVar j))) Γ D := ⟨fun A0 W D' σ B L ⟨A, e, g0⟩ => by
  obtain ⟨fp0, ⟨p, xs0, gp0, h0, _, _, h02, _⟩, _⟩ := e.at h
  refine ⟨.ref p, slotRef h0, p, rfl, .inl ⟨xs0, .inl h02⟩, hk.run W A B σ e _ fun A1 B1 g1 _ => ?_⟩
  obtain ⟨fp, ⟨p', xs, gp, h0', rfl, k1, k2, kk, k3, nd⟩, hW⟩ := (e.grow g1).at h
  rw [h0] at h0'; cases h0'
  refine ⟨_, DGet.k k2, ?_⟩
  have g01 := g0.on g1
  rcases PgL.val (k := k) kk k3 with ⟨a, b⟩ | ⟨ds, r, ys, a, b, c1, c2, c3, c4⟩
  · rw [b]
    rw [a] at q
    exact L.rt (.im .non) .non B1 ⟨A1, [], g01, ⟨rfl, _, rfl, .non⟩, fun _ z => nomatch z⟩ q
  · rw [b]
    rw [a] at q
    exact L.rt (.ow ds) (.ref r) B1 ⟨A1, [r], g01, ⟨r, ys, rfl, rfl, c1, c2, c3⟩, fun z hz => by rw [List.mem_singleton.mp hz]; exact hW r (List.mem_cons_of_mem _ c4)⟩ q⟩
/-- a new list is added to, and forgotten -/
theorem sv_appX (hr : EvO K tr Γ (.ow ds)) (he : EvF K te Γ d) (hz : ds.length < 100000) (q : D.nx Γ) : Sv K (tDrop (tBM K "list" rAppend tr (tCons te tNil))) Γ D := ⟨fun A0 W D' σ B L ⟨A, e, g0⟩ => hr.run W A B σ e _ fun v A1 B1 fp g1 ok hn => by
  obtain ⟨r, xs, e1, rfl, r1, r2, r3⟩ := ok
  cases e1
  refine ⟨.inl ⟨rfl, xs, .inl (.inl r2)⟩, he.run W A1 B1 σ (e.grow g1) _ fun v A2 B2 fq g2 ok _ => ?_⟩
  obtain ⟨_, u, e1, rv⟩ := ok
  cases e1
  have g12 := g1.trans g2
  have hr2 := g2.all _ _ r2
  have hrA : A2 r = none := g2.out r1 r2
  have hrB : B r = none := hn r List.mem_cons_self
  refine ⟨r, xs, v, rfl, rfl, hr2, by rw [r3.length]; exact lt16 hz, L.nx _ _ _ ⟨A2, ?_, ?_⟩ q⟩
  · have e2 := e.grow g12
    obtain ⟨ex, len, F, f1, f2, f3⟩ := e
    have hno : ∀ j, r ∉ F j := fun j hj => by
      obtain ⟨_, u, hu⟩ := f3 j r hj
      rw [hrB] at hu; cases hu
    refine ⟨fun a u q => ?_, len, F, fun j s ej => ?_, f2, fun j a ha => ⟨(f3 j a ha).1, ?_⟩⟩
    · rw [upd_ne (ne_of_none q hrA)]; exact g12.sub a u q
    · have fj := (f1 j s ej).grow g12
      exact fj.frame (fun _ _ q => q) fun a ha => ⟨(fj.out a ha).1, upd_ne fun z => hno j (z ▸ ha)⟩
    · obtain ⟨u, hu⟩ := (f3 j a ha).2
      have na : a ≠ r := fun z => hno j (by rw [← z]; exact ha)
      exact ⟨u, (upd_ne na).trans (g12.all a u hu)⟩
  · have g2 := g0.on g12
    have hrW : W r = none := ex_free g0.all hrB
    exact ⟨g2.fix, fun a u q => by rw [upd_ne (ne_of_none q hrW)]; exact g2.all a u q, fun a u q => by rw [upd_ne (ne_of_none q hrA)]; exact g2.sub a u q, g2.new⟩⟩
end
end Sf

/-! lists of owned lists -/
namespace Sf
open PySem PySem.Spec PyProof.Rows L2
section
variable {K : PySem.W.Frag} {A B : Hp}
/-- one of the lists changes -/
theorem PgL.chg : ∀ {vs : List V} {dss : List (List D)} {fp : List Addr} {i : Nat} {ds ds' : List D} {r : Addr} {zs : List V}, PgL K A B vs dss fp → fp.Nodup → dss[i]? = some ds → vs[i]? = some (.ref r) → RpA K A zs ds' → PgL K A (upd B r (.lst zs)) vs (dss.set i ds') fp
  | _, _, _, _, _, _, _, _, .nil, _, e, _, _ => by simp at e
  | _, _, _, 0, _, _, r, _, .cons (r := r0) h1 h2 h3 tl, nd, e, ev, z => by
    have er : V.ref r0 = V.ref r := Option.some.inj ev
    injection er with er
    subst er
    rw [List.nodup_cons] at nd
    exact .cons h1 upd_same z (tl.frame (fun _ _ q => q) fun q hq => ⟨(tl.out q hq).1, upd_ne fun e => nd.1 (by rw [← e]; exact hq)⟩)
  | _, _, _, i + 1, _, _, r, _, .cons (r := r0) h1 h2 h3 tl, nd, e, ev, z => by
    rw [List.nodup_cons] at nd
    obtain ⟨r', _, k1, _, _, _, k5⟩ := tl.at (i := i) (by simpa using e)
    have e1 := Option.some.inj (k1.symm.trans (show _ = some (V.ref r) by simpa using ev))
    injection e1 with e1
    subst e1
    have n1 : r0 ≠ r' := fun q => nd.1 (by rw [q]; exact k5)
    exact .cons h1 ((upd_ne n1).trans h2) h3 (tl.chg nd.2 (by simpa using e) (by simpa using ev) z)
/-- one of the lists is another one -/
theorem PgL.put : ∀ {vs : List V} {dss : List (List D)} {fp : List Addr} {i : Nat} {ds' : List D} {r : Addr} {zs : List V}, PgL K A B vs dss fp → i < dss.length → A r = none → B r = some (.lst zs) → RpA K A zs ds' → PgL K A B (vs.set i (.ref r)) (dss.set i ds') (fp.set i r)
  | _, _, _, _, _, _, _, .nil, h, _, _, _ => absurd h (by simp)
  | _, _, _, 0, _, _, _, .cons h1 h2 h3 tl, _, a, b, c => .cons a b c tl
  | _, _, _, i + 1, _, _, _, .cons h1 h2 h3 tl, h, a, b, c => .cons h1 h2 h3 (tl.put (by simpa using h) a b c)
theorem PgL.fixed {A0 W : Hp} : ∀ {vs : List V} {dss : List (List D)} {fp : List Addr} {A B : Hp}, PgL K A B vs dss fp → fp.Nodup → Gr A0 W A B → (∀ p ∈ fp, W p = none) →
    ∃ A', Gr A0 W A' B ∧ Ex A A' ∧ (∀ q, q ∉ fp → A' q = A q) ∧ RpA K A' vs (dss.map D.lst)
  | _, _, _, A, B, .nil, _, g, _ => ⟨A, g, fun _ _ q => q, fun _ _ => rfl, .nil⟩
  | _, _, _, A, B, .cons (r := r) (xs := xs) (fp := fp) h2 h3 h4 tl, nd, g, hW => by
    rw [List.nodup_cons] at nd
    have g1 : Gr A0 W (upd A r (.lst xs)) B := by
      refine ⟨fun a u q => Evl.Ex.new h2 a u (g.fix a u q), g.all, fun a u q => ?_, fun a u q => ?_⟩
      · by_cases e : a = r
        · subst e; rw [upd_same] at q; rw [h3, ← q]
        · rw [upd_ne e] at q; exact g.sub a u q
      · by_cases e : a = r
        · subst e; exact .inr (hW _ List.mem_cons_self)
        · rw [upd_ne e] at q; exact g.new a u q
    have x1 : Ex A (upd A r (.lst xs)) := Evl.Ex.new h2
    have tl' : PgL K (upd A r (.lst xs)) B _ _ fp := tl.frame x1 fun q hq => ⟨by
      rw [upd_ne fun e => nd.1 (by rw [← e]; exact hq)]
      exact (tl.out q hq).1, rfl⟩
    obtain ⟨A', gA, xA, k, rr⟩ := tl'.fixed nd.2 g1 fun p hp => hW p (List.mem_cons_of_mem _ hp)
    have x2 : Ex A A' := fun a u q => xA a u (x1 a u q)
    refine ⟨A', gA, x2, fun q hq => ?_, .cons (.lst (xA r _ upd_same) (h4.mono x2)) rr⟩
    have q1 : q ≠ r := fun e => hq (e ▸ List.mem_cons_self)
    have q3 : q ∉ fp := fun e => hq (List.mem_cons_of_mem _ e)
    rw [k q q3, upd_ne q1]
end
section
variable {K : PySem.W.Frag} {Γ : List Sl} {te ta tb tl : TE} {i : Nat} {dss : List (List D)} {ds : List D}
theorem ev_llw (h : Γ[i]? = some (.ll dss)) : EvW K (tVar i) Γ (.lst (dss.map D.lst)) := ⟨fun W A B σ E Q q => by
  obtain ⟨fp, ⟨p, xs, gp, h0, _, h1, h2, h3, _⟩, _⟩ := E.at h
  exact ⟨.ref p, slotRef h0, q _ A B (.refl E.ex) (.lst h2 (h3.rpa E.ex))⟩⟩
theorem ev_llix {k : Nat} (h : Γ[i]? = some (.ll dss)) (ha : EvV K ta Γ (.int (k : Int))) (hk : dss[k]? = some ds) : EvL K (tOp (rIxX K) (tVar i) ta) Γ ds := ⟨fun W A B σ E Q q => by
  obtain ⟨fp0, ⟨p0, xs0, gp0, h00, _⟩, _⟩ := E.at h
  refine ⟨.ref p0, slotRef h00, ha.run W A B σ E _ fun A1 B1 g1 _ => ?_⟩
  obtain ⟨fp, ⟨p, xs, gp, h0, _, h1, h2, h3, _⟩, _⟩ := (E.grow g1).at h
  rw [h00] at h0; cases h0
  obtain ⟨r, ys, k1, k2, k3, k4, _⟩ := h3.at hk
  exact .inl ⟨p0, xs, _, _, rfl, rfl, .inl (.inl h2), atI_nat k1, q r ys A1 B1 g1 k3 k4⟩⟩
theorem EvO.fixLL (h : EvO K te Γ (.ll dss)) : EvF K te Γ (.lst (dss.map D.lst)) := ⟨fun W A B σ E Q q => h.run W A B σ E Q fun v A1 B1 fp g ok hn => by
  obtain ⟨p, xs, gp, e, rfl, h1, h2, h3, nd⟩ := ok
  cases e
  rw [List.nodup_cons] at nd
  obtain ⟨A2, g2, x2, k2, rr⟩ := h3.fixed nd.2 g fun p hp => hn p (List.mem_cons_of_mem _ hp)
  have hp : A2 p = none := (k2 p nd.1).trans h1
  have g3 := g2.fixed (hn p List.mem_cons_self) hp h2
  exact q _ _ B1 [] g3 ⟨rfl, _, rfl, .lst upd_same (rr.mono (Evl.Ex.new hp))⟩ fun _ z => nomatch z⟩
/-- a slice of data, as it stands -/
theorem ev_slW {tlo thi : TO} {lo hi : Option Int} (ha : EvW K te Γ (.lst ds)) (h1 : EvP K tlo Γ lo) (h2 : EvP K thi Γ hi) : EvW K (tSl (rSlX K) te tlo thi) Γ (.lst (cutD ds lo hi)) := ⟨fun W A B σ E Q q =>
  ha.run W A B σ E _ fun p A1 B1 g1 r => h1.run W A1 B1 σ (E.grow g1) _ fun A2 B2 g2 => h2.run W A2 B2 σ ((E.grow g1).grow g2) _ fun A3 B3 g3 => by
    cases r with
    | @lst a xs _ s r =>
      refine .inl ⟨_, _, rfl, .inl (.inl (g3.all _ _ (g2.all _ _ s))), fun l hl => ?_⟩
      have x : Ex B3 (upd B3 l (.lst (cutV xs lo hi))) := Evl.Ex.new hl
      exact q _ A3 _ (((g1.trans g2).trans g3).trans (Gr.lay g3.sub hl)) (.lst upd_same ((cut_rel ((r.mono g2.all).mono g3.all) lo hi).mono x))⟩
/-- new lists, over a list -/
theorem lcQ {W A B : Hp} {σ : SS} (E : EnvAt K W A B Γ σ) {j : Nat} {J : It} {dd : List D} (g : Nat → List D) (hz : dd.length ≤ 40000)
    (hstop : ∀ i A' B', Gr A B A' B' → dd.length ≤ i → J.stop i B') (hgo : ∀ i A' B', Gr A B A' B' → i < dd.length → J.go i B')
    (hyld : ∀ i A' B' x B'', Gr A B A' B' → i < dd.length → J.yld i B' x B'' → B'' = B' ∧ ∃ d, dd[i]? = some d ∧ Rp K A' x d)
    (he : ∀ i d, dd[i]? = some d → EvO K te (Γ.set j (.im d)) (.ow (g i)))
    {Q : VK} (q : ∀ p xs fp A' B', Gr A B A' B' → B p = none → A' p = none → B' p = some (.lst xs) → PgL K A' B' xs ((List.range dd.length).map g) fp → (p :: fp).Nodup → (∀ a ∈ fp, B a = none) → Q (.ref p) B') :
    ∀ Dl, B Dl = none → ∃ Wd : Nat → Nat → Hp → Prop, (∃ m, Wd 0 m (upd B Dl (.lst []))) ∧ ∀ i m H, Wd i m H →
      (J.stop i H ∧ Q (.ref Dl) H) ∨ (J.go i H ∧ ∃ Nx : Hp → Prop, (∀ H', Nx H' → ∃ m', m' < m ∧ Wd (i + 1) m' H') ∧ ∀ x H', J.yld i H x H' → gName j x (L2.wipe σ [j]) H' fun σ2 H2 => L2.wipe σ2 [j] = L2.wipe σ [j] ∧ tYes σ2 H2 fun b H3 =>
        if b = true then te σ2 H3 fun y H4 => ∃ acc, H4 Dl = some (.lst acc) ∧ acc.length < sizeLine ∧ Nx (upd H4 Dl (.lst (acc ++ [y]))) else Nx H3) := by
  intro Dl hD
  let Pv : Nat → Hp → Prop := fun i H' => ∃ A' acc fp, Gr A B A' H' ∧ A' Dl = none ∧ H' Dl = some (.lst acc) ∧ PgL K A' H' acc ((List.range i).map g) fp ∧ (Dl :: fp).Nodup ∧ ∀ a ∈ fp, B a = none
  refine ⟨fun i m H => m = dd.length - i ∧ i ≤ dd.length ∧ Pv i H, ⟨dd.length, by simp, Nat.zero_le _, A, [], [], Gr.lay E.ex hD, ex_free E.ex hD, upd_same, .nil, by simp, fun _ z => nomatch z⟩, ?_⟩
  rintro i m H ⟨rfl, hi, A1, acc, fp, g1, hA1, hacc, racc, nd, hnew⟩
  by_cases hlt : i < dd.length
  · refine .inr ⟨hgo i A1 H g1 hlt, Pv (i + 1), fun H' p' => ⟨dd.length - (i + 1), by omega, rfl, hlt, p'⟩, fun x H' yl => ?_⟩
    obtain ⟨rfl, d, hd, rx⟩ := hyld i A1 H x H' g1 hlt yl
    refine ⟨wipe_again σ j x, ?_⟩
    have E1 : EnvAt K W A1 H' (Γ.set j (.im d)) ((L2.wipe σ [j]).set j (some x)) := by
      have e0 := ((E.grow g1).wipe j).put (.refl g1.sub) (s := .im d) (v := x) (fp := []) j ⟨rfl, x, rfl, rx⟩ (fun _ z => nomatch z) (fun _ z => nomatch z)
      rw [List.set_set] at e0
      exact e0
    have hl : acc.length < sizeLine := by
      rw [racc.len, List.length_map, List.length_range]
      exact Nat.lt_of_lt_of_le (show i < 100000 by omega) (by decide)
    refine (he i d hd).run W A1 H' _ E1 _ fun v A3 B3 fq g13 ok hn => ?_
    obtain ⟨r, xs, e, rfl, hr1, hr2, hr3⟩ := ok
    cases e
    have hr0 := hn r List.mem_cons_self
    have hD3 : A3 Dl = none := g13.out hA1 hacc
    have hB3 := g13.all _ _ hacc
    have rD : r ≠ Dl := fun e => by rw [e, hacc] at hr0; cases hr0
    have rfp : r ∉ fp := fun h => by obtain ⟨o, e⟩ := (racc.out r h).2; rw [e] at hr0; cases hr0
    rw [List.nodup_cons] at nd
    refine ⟨acc, hB3, hl, A3, acc ++ [.ref r], fp ++ [r], ?_, hD3, upd_same, ?_, ?_, ?_⟩
    · have gg := g1.trans g13
      exact ⟨gg.fix, fun a o z => by
        rw [upd_ne (ne_of_none z hD)]
        exact gg.all a o z, fun a o z => by
        rw [upd_ne (ne_of_none z hD3)]
        exact gg.sub a o z, gg.new⟩
    · rw [List.range_succ, List.map_append]
      refine PgL.snoc hr1 ((upd_ne rD).trans hr2) hr3 ?_
      refine racc.frame g13.fix fun p hp => ?_
      obtain ⟨h1, o, h2⟩ := racc.out p hp
      have pD : p ≠ Dl := fun e => nd.1 (by rw [← e]; exact hp)
      exact ⟨g13.out h1 h2, by rw [upd_ne pD, g13.all _ _ h2, h2]⟩
    · rw [List.nodup_cons, List.nodup_append]
      refine ⟨fun h => ?_, nd.2, by simp, fun a ha b hb e => ?_⟩
      · rcases List.mem_append.mp h with h | h
        · exact nd.1 h
        · exact rD (List.mem_singleton.mp h).symm
      · subst e
        exact rfp (List.mem_singleton.mp hb ▸ ha)
    · intro a ha
      rcases List.mem_append.mp ha with h | h
      · exact hnew a h
      · rw [List.mem_singleton.mp h]; exact ex_free g1.all hr0
  · have e : i = dd.length := by omega
    subst e
    exact .inl ⟨hstop _ A1 H g1 (Nat.le_refl _), q Dl acc fp A1 H g1 hD hA1 hacc racc nd hnew⟩
theorem ev_llL {j : Nat} {ds : List D} (g : D → List D) (h : EvL K tl Γ ds) (hz : ds.length ≤ 40000) (he : ∀ d, d ∈ ds → EvO K te (Γ.set j (.im d)) (.ow (g d))) : EvO K (tLc (iX K tl) (gName j) tYes te [j]) Γ (.ll (ds.map g)) := ⟨fun W A B σ E Q q => .inl (h.run W A B σ E _ fun p xs A1 B1 g1 hp r => by
  refine ⟨p, rfl, ⟨xs, .inl (.inl hp)⟩, ?_⟩
  have dflt : ∀ i (hi : i < ds.length), ds[i]? = some ds[i] := fun i hi => List.getElem?_eq_getElem hi
  have lst : ∀ {A' B'}, Gr A1 B1 A' B' → SqL K B' p xs := fun gg => .inl (.inl (gg.all _ _ hp))
  refine lcQ (E.grow g1) (j := j) (J := Itl K p) (dd := ds) (fun i => (ds[i]?.map g).getD []) hz
    (fun i A' B' gg hi => ⟨xs, lst gg, by rw [r.length]; exact hi⟩) (fun i A' B' gg hi => ?_) (fun i A' B' x B'' gg hi yl => ?_) (fun i d hd => ?_) (fun l ys fp A' B' gg h1 h2 h3 h4 h5 h6 => ?_)
  · obtain ⟨x, hx, _⟩ := r.get (dflt i hi)
    exact ⟨xs, x, lst gg, hx⟩
  · obtain ⟨e, yl⟩ := yl
    obtain ⟨x', hx, rx⟩ := r.get (dflt i hi)
    have : x' = x := Option.some.inj (hx.symm.trans (yl xs (lst gg)))
    subst this
    exact ⟨e, _, dflt i hi, rx.mono gg.fix⟩
  · rw [hd]
    exact he d (List.mem_of_getElem? hd)
  · have e : (List.range ds.length).map (fun i => (ds[i]?.map g).getD []) = ds.map g := by
      refine List.ext_getElem (by simp) fun i h1 h2 => ?_
      simp at h1 h2 ⊢
      rw [List.getElem?_eq_getElem h1]
      rfl
    rw [e] at h4
    refine q _ A' B' (l :: fp) (g1.trans gg) ⟨l, ys, fp, rfl, rfl, h2, h3, h4, h5⟩ fun p hp => ?_
    rcases List.mem_cons.mp hp with rfl | hp
    · exact ex_free g1.all h1
    · exact ex_free g1.all (h6 p hp))⟩
end
section
variable {K : PySem.W.Frag} {Γ : List Sl} {te ta tk tr : TE} {i j k : Nat} {dss : List (List Sf.D)} {D : EG} {d : Sf.D} {ds : List Sf.D}
theorem sv_retLL (h : Γ[i]? = some (.ll dss)) (q : D.rt (.ll dss)) : Sv K (tRet (tVar i)) Γ D := sv_retO h (fun _ _ _ _ ⟨p, _, _, e, _⟩ => ⟨_, e⟩) q
/-- xs[k].append(e) -/
theorem sv_appLL (h : Γ[i]? = some (.ll dss)) (ha : EvV K ta Γ (.int (k : Int))) (hk : dss[k]? = some ds) (he : EvF K te Γ d) (hz : ds.length < 100000) (q : D.nx (Γ.set i (.ll (dss.set k (ds ++ [d]))))) : Sv K (tDrop (tBM K "list" rAppend (tOp (rIxX K) (tVar i) ta) (tCons te tNil))) Γ D := ⟨fun A0 W D' σ B L ⟨A, e, g0⟩ => by
  obtain ⟨fp0, ⟨p, xs0, gp0, h00, _⟩, _⟩ := e.at h
  refine ⟨.ref p, slotRef h00, ha.run W A B σ e _ fun A1 B1 g1 _ => ?_⟩
  obtain ⟨fp, ⟨p', xs, gp, h0, _, h1, h2, h3, nd⟩, _⟩ := (e.grow g1).at h
  rw [h00] at h0; cases h0
  obtain ⟨r, ys, k1, k2, k3, k4, _⟩ := h3.at hk
  refine .inl ⟨p, xs, _, _, rfl, rfl, .inl (.inl h2), atI_nat k1, .inl ⟨rfl, ys, .inl (.inl k3)⟩, he.run W A1 B1 σ (e.grow g1) _ fun v A2 B2 fq g2 ok _ => ?_⟩
  obtain ⟨_, u, e1, rv⟩ := ok
  cases e1
  have e2 := (e.grow g1).grow g2
  have hp2 := g2.all _ _ h2
  refine ⟨r, ys, v, rfl, rfl, g2.all _ _ k3, by rw [k4.length]; exact lt16 hz, L.nx _ _ _ (updFl e2 ((g0.on g1).on g2) h (fun fp ok => ?_) fun fp ok => ?_) q⟩
  · obtain ⟨p', zs, gq, j0, rfl, j1, j2, j3, j4⟩ := ok
    rw [h00] at j0; cases j0
    rw [hp2] at j2; cases j2
    obtain ⟨r', _, m1, _, _, _, m5⟩ := j3.at hk
    rw [k1] at m1; cases m1
    exact List.mem_cons_of_mem _ m5
  · obtain ⟨p', zs, gq, j0, rfl, j1, j2, j3, j4⟩ := ok
    rw [h00] at j0; cases j0
    rw [hp2] at j2; cases j2
    obtain ⟨r', _, m1, _, _, _, m5⟩ := j3.at hk
    rw [k1] at m1; cases m1
    have nd' := List.nodup_cons.mp j4
    have ne : p ≠ r := fun e => nd'.1 (e ▸ m5)
    exact ⟨p, xs, gq, h00, rfl, j1, (upd_ne ne).trans hp2, j3.chg nd'.2 hk k1 ((k4.mono g2.fix).append (.cons rv .nil)), j4⟩⟩
/-- xs[k] = found, where found is an owned list: it moves -/
theorem sv_movLL (hne : i ≠ j) (h : Γ[i]? = some (.ll dss)) (hj : Γ[j]? = some (.ow ds)) (ha : EvV K tk Γ (.int (k : Int))) (hk : k < dss.length) (q : D.nx ((Γ.set i (.ll (dss.set k ds))).set j .un)) : Sv K (tAsg (tVar j) (gSub (tVar i) tk rSetX)) Γ D := ⟨fun A0 W D' σ B L ⟨A, e, g0⟩ => by
  obtain ⟨fpj, ⟨r, ys, hj0, _, rj1, rj2, rj3⟩, _⟩ := e.at hj
  obtain ⟨fpi, ⟨p, xs, gp, hi0, _, ri1, ri2, ri3, _⟩, _⟩ := e.at h
  refine ⟨.ref r, slotRef hj0, .ref p, slotRef hi0, ha.run W A B σ e _ fun A2 B2 g2 _ => ?_⟩
  have e2 := e.grow g2
  have hp2 := g2.all _ _ ri2
  refine .inl ⟨p, xs, _, k, rfl, rfl, hp2, Evl.ixN_nat (by rw [ri3.len]; exact hk), L.nx _ _ _ ?_ q⟩
  have g02 := g0.on g2
  obtain ⟨ex, len, F, f1, f2, f3⟩ := e2
  obtain ⟨p', zs, gq, i0, hFi, i1, i2, i3, i4⟩ := f1 i _ h
  rw [hi0] at i0; cases i0
  rw [hp2] at i2; cases i2
  obtain ⟨r', ws, j0, hFj, j1, j2, j3⟩ := f1 j _ hj
  rw [hj0] at j0; cases j0
  have rF : r ∈ F j := by rw [hFj]; exact List.mem_cons_self
  have pF : p ∈ F i := by rw [hFi]; exact List.mem_cons_self
  have gF : ∀ a ∈ gq, a ∈ F i := fun a ha => by rw [hFi]; exact List.mem_cons_of_mem _ ha
  have rp : r ≠ p := fun z => hne (f2 i j p pF (z ▸ rF))
  have rg : r ∉ gq := fun z => hne (f2 i j r (gF r z) rF)
  rw [hFi] at i4
  have nd' := List.nodup_cons.mp i4
  have hiΓ : i < Γ.length := (List.getElem?_eq_some_iff.mp h).1
  have hjΓ : j < Γ.length := (List.getElem?_eq_some_iff.mp hj).1
  have sub : ∀ a, a ∈ p :: gq.set k r → a ∈ F i ∨ a ∈ F j := fun a ha => by
    rcases List.mem_cons.mp ha with rfl | ha
    · exact .inl pF
    · rcases List.mem_or_eq_of_mem_set ha with ha | rfl
      · exact .inl (gF a ha)
      · exact .inr rF
  refine ⟨A2, ⟨fun a u z => ?_, by rw [List.length_set, List.length_set, len], fun m => if m = j then [] else if m = i then p :: gq.set k r else F m, fun m s em => ?_, fun m n a hm hn => ?_, fun m a hm => ?_⟩, g02.fix, fun a u z => ?_, fun a u z => ?_, g02.new⟩
  · rw [upd_ne (ne_of_none z i1)]; exact ex a u z
  · by_cases mj : m = j
    · subst mj
      rw [List.getElem?_set_self (by rw [List.length_set]; exact hjΓ)] at em
      cases em
      simp only [if_true]
      exact (rfl : ([] : List Addr) = [])
    · rw [List.getElem?_set_ne (Ne.symm mj)] at em
      simp only [if_neg mj]
      by_cases mi : m = i
      · subst mi
        rw [List.getElem?_set_self hiΓ] at em
        cases em
        simp only [if_true]
        refine ⟨p, _, gq.set k r, hi0, rfl, i1, upd_same, ?_, ?_⟩
        · have fr : PgL K A2 (upd B2 p (.lst (xs.set k (.ref r)))) xs dss gq := i3.frame (fun _ _ q => q) fun q hq => ⟨(i3.out q hq).1, upd_ne fun e => nd'.1 (e ▸ hq)⟩
          exact fr.put hk j1 ((upd_ne rp).trans j2) j3
        · rw [List.nodup_cons]
          refine ⟨fun z => ?_, ?_⟩
          · rcases List.mem_or_eq_of_mem_set z with z | z
            · exact nd'.1 z
            · exact rp z.symm
          · rw [List.set_eq_take_append_cons_drop]
            split
            · rw [List.nodup_append, List.nodup_cons]
              have n1 := nd'.2
              rw [← List.take_append_drop k gq, List.nodup_append] at n1
              have hd : ∀ a ∈ gq.drop (k + 1), a ∈ gq.drop k := fun a ha => by
                rw [show k + 1 = k + 1 from rfl, ← List.drop_drop] at ha
                exact List.mem_of_mem_drop ha
              refine ⟨n1.1, ⟨fun z => rg (List.mem_of_mem_drop z), ?_⟩, fun a ha b hb z => ?_⟩
              · have := n1.2.1
                exact this.sublist (by rw [← List.drop_drop]; exact List.drop_sublist _ _)
              · subst z
                rcases List.mem_cons.mp hb with rfl | hb
                · exact rg (List.mem_of_mem_take ha)
                · exact n1.2.2 a ha a (hd a hb) rfl
            · exact nd'.2
      · rw [List.getElem?_set_ne (Ne.symm mi)] at em
        simp only [if_neg mi]
        refine (f1 m s em).frame (fun _ _ q => q) fun q hq => ⟨((f1 m s em).out q hq).1, upd_ne fun z => ?_⟩
        subst z
        exact mi (f2 m i q hq pF)
  · by_cases mj : m = j
    · simp only [if_pos mj] at hm; cases hm
    · by_cases nj : n = j
      · simp only [if_pos nj] at hn; cases hn
      · simp only [if_neg mj] at hm
        simp only [if_neg nj] at hn
        by_cases mi : m = i
        · by_cases ni : n = i
          · rw [mi, ni]
          · simp only [if_pos mi] at hm
            simp only [if_neg ni] at hn
            rcases sub a hm with z | z
            · exact absurd (f2 n i a hn z) ni
            · exact absurd (f2 n j a hn z) nj
        · simp only [if_neg mi] at hm
          by_cases ni : n = i
          · simp only [if_pos ni] at hn
            rcases sub a hn with z | z
            · exact absurd (f2 m i a hm z) mi
            · exact absurd (f2 m j a hm z) mj
          · simp only [if_neg ni] at hn
            exact f2 m n a hm hn
  · have key : ∀ n, a ∈ F n → W a = none ∧ ∃ u, upd B2 p (.lst (xs.set k (.ref r))) a = some u := fun n hn => by
      refine ⟨(f3 n a hn).1, ?_⟩
      by_cases z : a = p
      · exact ⟨_, by rw [z, upd_same]⟩
      · obtain ⟨u, hu⟩ := (f3 n a hn).2
        exact ⟨u, by rw [upd_ne z]; exact hu⟩
    by_cases mj : m = j
    · simp only [if_pos mj] at hm; cases hm
    · simp only [if_neg mj] at hm
      by_cases mi : m = i
      · simp only [if_pos mi] at hm
        rcases sub a hm with z | z
        · exact key i z
        · exact key j z
      · simp only [if_neg mi] at hm
        exact key m hm
  · rw [upd_ne (ne_of_none z (f3 i p pF).1)]; exact g02.all a u z
  · rw [upd_ne (ne_of_none z i1)]; exact g02.sub a u z⟩
end
end Sf

/-! an owned list moves into an owned program -/
namespace Sf
open PySem PySem.Spec PyProof.Rows L2
section
variable {K : PySem.W.Frag} {Γ : List Sl} {te ta tb tw : TE} {i j : Nat} {bs : List Bk}
theorem ev_pg0 : EvO K (tLst tNil) Γ (.pg []) := ⟨fun W A B σ E Q q => ⟨by decide, fun l hl => q (.ref l) A _ [l] (Gr.lay E.ex hl) ⟨l, [], [], rfl, rfl, ex_free E.ex hl, upd_same, .nil, by simp⟩ fun z hz => by rw [List.mem_singleton.mp hz]; exact hl⟩⟩
theorem EnvAt.mov {W A B A2 B2 : Hp} {σ : SS} (e : EnvAt K W A B Γ σ) (g : Gr A B A2 B2) (hne : i ≠ j) {s s' sj : Sl} {p : Addr} {o : HO} {add : List Addr} (h : Γ[i]? = some s) (hj : Γ[j]? = some sj)
    (hadd : ∀ fj, SlOk K A B sj (σ[j]?.getD none) fj → ∀ a ∈ add, a ∈ fj ∨ B a = none) (hW : ∀ a ∈ add, W a = none ∧ ∃ u, upd B2 p o a = some u)
    (hp : ∀ fp, SlOk K A2 B2 s (σ[i]?.getD none) fp → p ∈ fp) (ok : ∀ fp, SlOk K A2 B2 s (σ[i]?.getD none) fp → (∀ a ∈ add, a ∉ fp) → SlOk K A2 (upd B2 p o) s' (σ[i]?.getD none) (fp ++ add)) : EnvAt K W A2 (upd B2 p o) ((Γ.set i s').set j .un) σ := by
  obtain ⟨ex, len, F, f1, f2, f3⟩ := e
  have fi := (f1 i s h).grow g
  have hpi := hp _ fi
  have hA : A2 p = none := (fi.out p hpi).1
  have hjj := hadd _ (f1 j sj hj)
  have hno : ∀ m a, m ≠ j → a ∈ add → a ∉ F m := fun m a hm ha hF => by
    rcases hjj a ha with q | q
    · exact hm (f2 m j a hF q)
    · obtain ⟨_, u, hu⟩ := f3 m a hF
      rw [q] at hu; cases hu
  have hiΓ : i < Γ.length := (List.getElem?_eq_some_iff.mp h).1
  have hjΓ : j < Γ.length := (List.getElem?_eq_some_iff.mp hj).1
  refine ⟨fun a u q => ?_, by rw [List.length_set, List.length_set, len], fun m => if m = j then [] else if m = i then F i ++ add else F m, fun m t em => ?_, fun m n a hm hn => ?_, fun m a hm => ?_⟩
  · rw [upd_ne (ne_of_none q hA)]
    exact g.sub a u q
  · by_cases mj : m = j
    · subst mj
      rw [List.getElem?_set_self (by rw [List.length_set]; exact hjΓ)] at em
      cases em
      simp only [if_true]
      exact (rfl : ([] : List Addr) = [])
    · rw [List.getElem?_set_ne (Ne.symm mj)] at em
      simp only [if_neg mj]
      by_cases mi : m = i
      · subst mi
        rw [List.getElem?_set_self hiΓ] at em
        cases em
        simp only [if_true]
        exact ok _ fi fun a ha => hno m a hne ha
      · rw [List.getElem?_set_ne (Ne.symm mi)] at em
        simp only [if_neg mi]
        have fm := (f1 m t em).grow g
        refine fm.frame (fun _ _ q => q) fun q hq => ⟨(fm.out q hq).1, upd_ne fun z => ?_⟩
        subst z
        exact mi (f2 m i q hq hpi)
  · by_cases mj : m = j
    · simp only [if_pos mj] at hm; cases hm
    · by_cases nj : n = j
      · simp only [if_pos nj] at hn; cases hn
      · simp only [if_neg mj] at hm
        simp only [if_neg nj] at hn
        by_cases mi : m = i
        · by_cases ni : n = i
          · rw [mi, ni]
          · simp only [if_pos mi] at hm
            simp only [if_neg ni] at hn
            rcases List.mem_append.mp hm with z | z
            · exact absurd (f2 n i a hn z) ni
            · exact absurd hn (hno n a nj z)
        · simp only [if_neg mi] at hm
          by_cases ni : n = i
          · simp only [if_pos ni] at hn
            rcases List.mem_append.mp hn with z | z
            · exact absurd (f2 m i a hm z) mi
            · exact absurd hm (hno m a mj z)
          · simp only [if_neg ni] at hn
            exact f2 m n a hm hn
  · have key : ∀ n, a ∈ F n → W a = none ∧ ∃ u, upd B2 p o a = some u := fun n hn => by
      refine ⟨(f3 n a hn).1, ?_⟩
      by_cases z : a = p
      · exact ⟨o, by rw [z, upd_same]⟩
      · obtain ⟨u, hu⟩ := (f3 n a hn).2
        exact ⟨u, by rw [upd_ne z]; exact g.all a u hu⟩
    by_cases mj : m = j
    · simp only [if_pos mj] at hm; cases hm
    · simp only [if_neg mj] at hm
      by_cases mi : m = i
      · simp only [if_pos mi] at hm
        rcases List.mem_append.mp hm with z | z
        · exact key i z
        · exact hW a z
      · simp only [if_neg mi] at hm
        exact key m hm
end
section
variable {K : PySem.W.Frag} {Γ : List Sl} {tw : TE} {i j : Nat} {bs : List Bk} {ds es : List Sf.D} {D : EG}
/-- p.append((left, a new list)), where left is an owned list: it moves -/
theorem sv_movP (hne : i ≠ j) (h : Γ[i]? = some (.pg bs)) (hj : Γ[j]? = some (.ow ds)) (hw : EvO K tw Γ (.ow es)) (hz : bs.length < 100000) (q : D.nx ((Γ.set i (.pg (bs ++ [(ds, es)]))).set j .un)) :
    Sv K (tDrop (tBM K "list" rAppend (tVar i) (tCons (tTup (tCons (tVar j) (tCons tw tNil))) tNil))) Γ D := ⟨fun A0 W D' σ B L ⟨A, e, g0⟩ => by
  obtain ⟨fpi, ⟨p, xs, gp, hi0, _, _, h02, _⟩, _⟩ := e.at h
  obtain ⟨fpj, ⟨r, ys, hj0, _, rj1, rj2, rj3⟩, hWj⟩ := e.at hj
  refine ⟨.ref p, slotRef hi0, .inl ⟨rfl, xs, .inl (.inl h02)⟩, .ref r, slotRef hj0, hw.run W A B σ e _ fun v A1 B1 fp g1 ok hn => ?_⟩
  obtain ⟨w, zs, ew, rfl, w1, w2, w3⟩ := ok
  cases ew
  refine ⟨show (2 : Nat) ≤ sizeLine by decide, fun t ht => ?_⟩
  have gt := Gr.layF (o := .tup [.ref r, .ref w]) g1.sub ht
  have g2 := g1.trans gt
  have hwB : B w = none := hn w List.mem_cons_self
  have hrB1 := g1.all _ _ rj2
  have rt : r ≠ t := fun z => by rw [z, ht] at hrB1; cases hrB1
  have wt : w ≠ t := fun z => by rw [z, ht] at w2; cases w2
  have pB1 := g1.all _ _ h02
  have pt : p ≠ t := fun z => by rw [z, ht] at pB1; cases pB1
  have wr : w ≠ r := fun z => by rw [z, rj2] at hwB; cases hwB
  have x2 : Ex A1 (upd A1 t (.tup [.ref r, .ref w])) := gt.fix
  have e2 := e.grow g2
  obtain ⟨fp2, ⟨p', xs', gp', hi0', _, k1, k2, k3, nd⟩, _⟩ := e2.at h
  rw [hi0] at hi0'; cases hi0'
  have hx : xs' = xs := by
    rw [upd_ne pt, pB1] at k2
    cases k2
    rfl
  subst hx
  have pr : r ≠ p := fun z => by
    obtain ⟨ex, len, F, f1, f2, f3⟩ := e
    obtain ⟨_, _, a0, aF, _⟩ := f1 j _ hj
    obtain ⟨_, _, _, b0, bF, _⟩ := f1 i _ h
    rw [hj0] at a0; cases a0
    rw [hi0] at b0; cases b0
    exact hne (f2 i j p (by rw [bF]; exact List.mem_cons_self) (by rw [aF, z]; exact List.mem_cons_self))
  have pw : w ≠ p := fun z => by rw [z, h02] at hwB; cases hwB
  refine ⟨p, xs', .ref t, rfl, rfl, k2, by rw [k3.len]; exact lt16 hz, L.nx _ _ _ ⟨_, e.mov g2 hne (add := [r, w]) (s' := .pg (bs ++ [(ds, es)])) h hj (fun fj ok a ha => ?_) (fun a ha => ?_) (fun fp ok => ?_) (fun fp ok hno => ?_), ?_⟩ q⟩
  · obtain ⟨_, _, a0, rfl, _⟩ := ok
    rw [hj0] at a0; cases a0
    rcases List.mem_cons.mp ha with rfl | ha
    · exact .inl List.mem_cons_self
    · rw [List.mem_singleton.mp ha]; exact .inr hwB
  · rcases List.mem_cons.mp ha with rfl | ha
    · refine ⟨hWj _ (by
        rename_i hfp
        rw [hfp]
        exact List.mem_cons_self), _, (upd_ne pr).trans ((upd_ne rt).trans hrB1)⟩
    · rw [List.mem_singleton.mp ha]
      exact ⟨ex_free g0.all hwB, _, (upd_ne pw).trans ((upd_ne wt).trans w2)⟩
  · obtain ⟨_, _, _, b0, rfl, _⟩ := ok
    rw [hi0] at b0; cases b0
    exact List.mem_cons_self
  · obtain ⟨_, vs, gq, b0, rfl, m1, m2, m3, m4⟩ := ok
    rw [hi0] at b0; cases b0
    rw [k2] at m2; cases m2
    have nd' := List.nodup_cons.mp m4
    refine ⟨p, _, gq ++ [r, w], hi0, rfl, m1, upd_same, ?_, ?_⟩
    · refine PgB.snoc (upd_same) ((upd_ne rt).trans (g1.out rj1 rj2)) ((upd_ne pr).trans ((upd_ne rt).trans hrB1)) ((rj3.mono g1.fix).mono x2) ((upd_ne wt).trans w1) ((upd_ne pw).trans ((upd_ne wt).trans w2)) (w3.mono x2) ?_
      exact m3.frame (fun _ _ q => q) fun a ha => ⟨(m3.out a ha).1, upd_ne fun z => nd'.1 (by rw [← z]; exact ha)⟩
    · rw [List.nodup_append]
      refine ⟨m4, by simp [wr.symm], fun a ha b hb z => ?_⟩
      subst z
      exact hno a hb ha
  · have gg := g0.on g2
    have hA2p : (upd A1 t (.tup [.ref r, .ref w])) p = none := k1
    have hWp : W p = none := by
      obtain ⟨fpi', ok', hWi⟩ := e.at h
      obtain ⟨_, _, _, b0, bF, _⟩ := ok'
      rw [hi0] at b0; cases b0
      exact hWi p (by rw [bF]; exact List.mem_cons_self)
    exact ⟨gg.fix, fun a u z => by rw [upd_ne (ne_of_none z hWp)]; exact gg.all a u z, fun a u z => by rw [upd_ne (ne_of_none z hA2p)]; exact gg.sub a u z, gg.new⟩⟩
end
end Sf

/-! a test that takes the first out of an owned list -/
namespace Sf
open PySem PySem.Spec PyProof.Rows L2
section
variable {K : PySem.W.Frag} {Γ : List Sl} {tr : TE} {tc1 : TT} {t u : TS} {i : Nat} {D : EG} {d d1 : Sf.D} {ds : List Sf.D} {E0 : XK}
theorem sv_popIf {R : List Sf.D → Sl → Prop} (h : Γ[i]? = some (.ow (d :: ds))) (h1 : EvT K tc1 Γ false) (hr : EvF K tr Γ d1) (hR : R [d1, d] (.im (.bl true))) (k : Sv K u (Γ.set i (.ow ds)) D) :
    Sv K (tIfS (tOr tc1 (tNot (tB (tCall (spF K R) [] E0 (tCons tr (tCons (tBM K "list" rPopAt (tVar i) (tCons (tC (.int 0)) tNil)) tNil)))))) t u) Γ D := ⟨fun A0 W D' σ B L ⟨A, e, g0⟩ => h1.run W A B σ e _ fun A1 B1 g1 => by
  simp only [Bool.false_eq_true, if_false]
  refine hr.run W A1 B1 σ (e.grow g1) _ fun v1 A2 B2 fq g2 ok _ => ?_
  obtain ⟨_, w, ew, rv1⟩ := ok
  cases ew
  have e2 := (e.grow g1).grow g2
  have g02 := (g0.on g1).on g2
  obtain ⟨fp, ⟨p, xs, h0, hfp, p1, p2, p3⟩, hW⟩ := e2.at h
  have hWp : W p = none := hW p (by rw [hfp]; exact List.mem_cons_self)
  cases p3 with
  | @cons v vs _ _ rv tl =>
    refine ⟨.ref p, slotRef h0, .inl ⟨rfl, _, .inl (.inl p2)⟩, p, v :: vs, 0, 0, v, rfl, rfl, p2, by omega, by omega, (by rw [seqIndex_of (by omega) (by rw [List.length_cons]; omega)]; rfl), rfl, ?_⟩
    have e3 : EnvAt K W A2 (upd B2 p (.lst vs)) (Γ.set i (.ow ds)) σ := e2.upd1 h (fun fp ok => by
      obtain ⟨q, zs, k0, rfl, _⟩ := ok
      rw [h0] at k0; cases k0
      exact List.mem_cons_self) fun fp ok => by
      obtain ⟨q, zs, k0, rfl, k1, k2, k3⟩ := ok
      rw [h0] at k0; cases k0
      exact ⟨p, vs, h0, rfl, k1, upd_same, tl⟩
    have g3 : Gr A0 W A2 (upd B2 p (.lst vs)) := ⟨g02.fix, fun a o q => by rw [upd_ne (ne_of_none q hWp)]; exact g02.all a o q, fun a o q => by rw [upd_ne (ne_of_none q p1)]; exact g02.sub a o q, g02.new⟩
    refine ⟨A2, [d1, d], .im (.bl true), e3.ex, .cons rv1 (.cons rv .nil), hR, fun x A' B' fp g ok _ => ?_⟩
    obtain ⟨_, y, ey, ry⟩ := ok
    cases ey
    cases ry
    exact ⟨true, rfl, k.run A0 W D' σ B' L ⟨A', e3.grow g, g3.on g⟩⟩⟩
end
end Sf

/-! calls on owned things whose answers hold scalars and tuples alone -/
namespace Sf
open PySem PySem.Spec PyProof.Rows L2
/-- what is fixed, and what is no tuple -/
def mixH (A B : Hp) : Hp := fun a => match A a with
  | some o => some o
  | none => match B a with
    | some (.lst xs) => some (.lst xs)
    | _ => none
theorem mixH_fix (A B : Hp) : Ex A (mixH A B) := fun a o h => by unfold mixH; rw [h]
theorem mixH_lst {A B : Hp} (h : Ex A B) {a : Addr} {xs : List V} (hb : B a = some (.lst xs)) : mixH A B a = some (.lst xs) := by
  unfold mixH
  cases e : A a with
  | none => simp only [hb]
  | some o => rw [← hb, h a o e]
theorem mixH_sub {A B : Hp} (h : Ex A B) : Ex (mixH A B) B := fun a o e => by
  unfold mixH at e
  cases e1 : A a with
  | some u => simp only [e1] at e; rw [← e]; exact h a u e1
  | none =>
    simp only [e1] at e
    cases e2 : B a with
    | none => simp only [e2] at e; cases e
    | some u =>
      simp only [e2] at e
      cases u <;> simp only [reduceCtorEq] at e
      exact e
theorem mixH_tup {A B : Hp} {a : Addr} {xs : List V} (e : mixH A B a = some (.tup xs)) : A a = some (.tup xs) := by
  unfold mixH at e
  cases e1 : A a with
  | some u => simp only [e1] at e; exact e
  | none =>
    simp only [e1] at e
    cases e2 : B a with
    | none => simp only [e2] at e; cases e
    | some u =>
      simp only [e2] at e
      cases u <;> simp only [reduceCtorEq, Option.some.injEq] at e
theorem mixH_mono {A B A' B' : Hp} (g : Gr A B A' B') : Ex (mixH A B) (mixH A' B') := fun a o e => by
  unfold mixH at e
  cases e1 : A a with
  | some u =>
    simp only [e1] at e
    rw [← e]
    exact mixH_fix A' B' a u (g.fix a u e1)
  | none =>
    simp only [e1] at e
    cases e2 : B a with
    | none => simp only [e2] at e; cases e
    | some u =>
      simp only [e2] at e
      cases u <;> simp only [reduceCtorEq] at e
      rw [← e]
      exact mixH_lst g.sub (g.all _ _ e2)
mutual
def tupD : D → Bool
  | .non => true
  | .bl _ => true
  | .int _ => true
  | .str _ => true
  | .tup ds => tupA ds
  | _ => false
def tupA : List D → Bool
  | [] => true
  | d :: ds => tupD d && tupA ds
end
section
variable {K : PySem.W.Frag}
mutual
theorem Rp.tup_to {H H' : Hp} (k : ∀ a xs, H a = some (.tup xs) → H' a = some (.tup xs)) : ∀ {v : V} {d : D}, Rp K H v d → tupD d = true → Rp K H' v d
  | _, _, .non, _ => .non
  | _, _, .bl b, _ => .bl b
  | _, _, .int i, _ => .int i
  | _, _, .str x h, _ => .str x h
  | _, _, .tup s r, p => .tup (k _ _ s) (RpA.tup_to k r (by rw [tupD] at p; exact p))
  | _, _, .lst _ _, p => by rw [tupD] at p <;> first | cases p | (intros; rename_i h; cases h)
  | _, _, .scr _, p => by rw [tupD] at p <;> first | cases p | (intros; rename_i h; cases h)
  | _, _, .ktup _ _, p => by rw [tupD] at p <;> first | cases p | (intros; rename_i h; cases h)
  | _, _, .dk _ _, p => by rw [tupD] at p <;> first | cases p | (intros; rename_i h; cases h)
  | _, _, .dt _ _, p => by rw [tupD] at p <;> first | cases p | (intros; rename_i h; cases h)
theorem RpA.tup_to {H H' : Hp} (k : ∀ a xs, H a = some (.tup xs) → H' a = some (.tup xs)) : ∀ {v : List V} {d : List D}, RpA K H v d → tupA d = true → RpA K H' v d
  | _, _, .nil, _ => .nil
  | _, _, .cons a b, p => by
    rw [tupA, Bool.and_eq_true] at p
    exact .cons (Rp.tup_to k a p.1) (RpA.tup_to k b p.2)
end
theorem tupA_all {ds : List D} (h : ∀ d ∈ ds, tupD d = true) : tupA ds = true := by
  induction ds with
  | nil => rw [tupA]
  | cons d ds ih => rw [tupA, h d List.mem_cons_self, ih fun x hx => h x (List.mem_cons_of_mem _ hx)]; rfl
def tupS : Sl → Prop
  | .ow ds => tupA ds = true
  | .pg bs => ∀ b ∈ bs, tupA b.1 = true ∧ tupA b.2 = true
  | .tl d ds => tupD d = true ∧ tupA ds = true
  | .im d => tupD d = true
  | _ => False
theorem PgB.tup_to {A A' B : Hp} (k : ∀ a xs, A a = some (.tup xs) → A' a = some (.tup xs)) : ∀ {vs : List V} {bs : List Bk} {fp : List Addr}, PgB K A B vs bs fp → (∀ p ∈ fp, A' p = none) → (∀ b ∈ bs, tupA b.1 = true ∧ tupA b.2 = true) → PgB K A' B vs bs fp
  | _, _, _, .nil, _, _ => .nil
  | _, _, _, .cons (r := r) (w := w) h1 h2 h3 h4 h5 h6 h7 t, n, q => by
    obtain ⟨q1, q2⟩ := q _ List.mem_cons_self
    exact .cons (k _ _ h1) (n r (by simp)) h3 (RpA.tup_to k h4 q1) (n w (by simp)) h6 (RpA.tup_to k h7 q2) (t.tup_to k (fun p hp => n p (by simp [hp])) fun b hb => q b (List.mem_cons_of_mem _ hb))
theorem SlOk.tup_to {A A' B : Hp} (k : ∀ a xs, A a = some (.tup xs) → A' a = some (.tup xs)) {s : Sl} {o : Option V} {fp : List Addr} (h : SlOk K A B s o fp) (n : ∀ p ∈ fp, A' p = none) (q : tupS s) : SlOk K A' B s o fp := by
  cases s with
  | ow ds =>
    obtain ⟨p, xs, h0, rfl, h1, h2, h3⟩ := h
    exact ⟨p, xs, h0, rfl, n p (by simp), h2, RpA.tup_to k h3 q⟩
  | im d =>
    obtain ⟨h0, v, h1, h2⟩ := h
    exact ⟨h0, v, h1, Rp.tup_to k h2 q⟩
  | pg bs =>
    obtain ⟨p, xs, gp, h0, rfl, h1, h2, h3, h4⟩ := h
    exact ⟨p, xs, gp, h0, rfl, n p (by simp), h2, h3.tup_to k (fun p hp => n p (by simp [hp])) q, h4⟩
  | tl d ds =>
    obtain ⟨t, v, r, xs, h0, ht, rv, rfl, h1, h2, h3⟩ := h
    exact ⟨t, v, r, xs, h0, k _ _ ht, Rp.tup_to k rv q.1, rfl, n r (by simp), h2, RpA.tup_to k h3 q.2⟩
  | un => exact q.elim
  | ok _ => exact q.elim
  | ot _ => exact q.elim
  | ll _ => exact q.elim
  | kl _ => exact q.elim
  | f3 _ _ _ => exact q.elim
  | bag _ _ => exact q.elim
end
/-- what is fixed but for lists -/
structure EvX (K : PySem.W.Frag) (te : TE) (Γ : List Sl) (d : D) : Prop where
  run : ∀ W A B σ, EnvAt K W A B Γ σ → ∀ Q : VK, (∀ v A' B', Gr A B A' B' → Rp K (mixH A' B') v d → Q v B') → te σ B Q
structure EvAX (K : PySem.W.Frag) (ta : TA) (Γ : List Sl) (ds : List D) : Prop where
  run : ∀ W A B σ, EnvAt K W A B Γ σ → ∀ Q : List V → Hp → Prop, (∀ vs A' B', Gr A B A' B' → RpA K (mixH A' B') vs ds → Q vs B') → ta σ B Q
section
variable {K : PySem.W.Frag} {Γ : List Sl} {te ta tb : TE} {tr : TA} {i : Nat} {d e : D} {ds es : List D} {bs : List Bk}
theorem EvO.x (h : EvF K te Γ d) : EvX K te Γ d := ⟨fun W A B σ E Q q => h.run W A B σ E Q fun v A' B' fp g ok _ => by
  obtain ⟨_, w, e, r⟩ := ok
  cases e
  exact q _ A' B' g (r.mono (mixH_fix A' B'))⟩
theorem EvL.x (h : EvL K te Γ ds) : EvX K te Γ (.lst ds) := ⟨fun W A B σ E Q q => h.run W A B σ E Q fun p xs A' B' g s r => q _ A' B' g (.lst (mixH_lst g.sub s) (r.mono (mixH_fix A' B')))⟩
theorem PgB.rpx {A B : Hp} (hs : Ex A B) : ∀ {vs : List V} {bs : List Bk} {fp : List Addr}, PgB K A B vs bs fp → RpA K (mixH A B) vs (bs.map dB)
  | _, _, _, .nil => .nil
  | _, _, _, .cons h1 _ h3 h4 _ h6 h7 t => .cons (.tup (mixH_fix A B _ _ h1) (.cons (.lst (mixH_lst hs h3) (h4.mono (mixH_fix A B))) (.cons (.lst (mixH_lst hs h6) (h7.mono (mixH_fix A B))) .nil))) (t.rpx hs)
theorem ev_pgx (h : Γ[i]? = some (.pg bs)) : EvX K (tVar i) Γ (dP bs) := ⟨fun W A B σ E Q q => by
  obtain ⟨fp, ⟨p, xs, gp, h0, _, h1, h2, h3, _⟩, _⟩ := E.at h
  exact ⟨.ref p, slotRef h0, q _ A B (.refl E.ex) (.lst (mixH_lst E.ex h2) (h3.rpx E.ex))⟩⟩
theorem eax_nil : EvAX K tNil Γ [] := ⟨fun W A B σ E Q q => q [] A B (.refl E.ex) .nil⟩
theorem eax_cons (h : EvX K te Γ d) (hr : EvAX K tr Γ ds) : EvAX K (tCons te tr) Γ (d :: ds) := ⟨fun W A B σ E Q q => h.run W A B σ E _ fun v A1 B1 g1 rv => hr.run W A1 B1 σ (E.grow g1) _ fun vs A2 B2 g2 r => q _ A2 B2 (g1.trans g2) (.cons (rv.mono (mixH_mono g2)) r)⟩
theorem ev_callX {R : List D → Sl → Prop} {s : Sl} {E0 : XK} (h : EvAX K tr Γ ds) (hR : R ds s) (hf : tupS s) : EvO K (tCall (spF K R) [] E0 tr) Γ s := ⟨fun W A B σ E Q q => h.run W A B σ E _ fun vs A1 B1 g1 r => by
  show spF K R (vs ++ []) B1 Q E0
  rw [List.append_nil]
  refine ⟨mixH A1 B1, ds, s, mixH_sub g1.sub, r, hR, fun v A2 B2 fp g2 ok hn => ?_⟩
  let A3 : Hp := fun a => match B1 a with
    | none => A2 a
    | some _ => A1 a
  have e3n : ∀ a, B1 a = none → A3 a = A2 a := fun a e => by show (match B1 a with | none => A2 a | some _ => A1 a) = _; rw [e]
  have e3s : ∀ a o, B1 a = some o → A3 a = A1 a := fun a o e => by show (match B1 a with | none => A2 a | some _ => A1 a) = _; rw [e]
  have g3 : Gr A1 B1 A3 B2 := by
    refine ⟨fun a o z => ?_, g2.all, fun a o z => ?_, fun a o z => ?_⟩
    · rw [e3s a o (g1.sub a o z)]; exact z
    · cases e : B1 a with
      | none => rw [e3n a e] at z; exact g2.sub a o z
      | some u => rw [e3s a u e] at z; exact g2.all a o (g1.sub a o z)
    · cases e : B1 a with
      | none => exact .inr rfl
      | some u => rw [e3s a u e] at z; exact .inl ⟨_, z⟩
  refine q v A3 B2 fp (g1.trans g3) (ok.tup_to (fun a xs z => ?_) (fun p hp => ?_) hf) fun p hp => ex_free g1.all (hn p hp)
  · cases e : B1 a with
    | none => rw [e3n a e]; exact z
    | some u =>
      rw [e3s a u e]
      rcases g2.new a _ z with ⟨u', k⟩ | k
      · have k2 := g2.fix _ _ k
        rw [z] at k2
        cases k2
        exact mixH_tup k
      · rw [e] at k; cases k
  · rw [e3n p (hn p hp)]
    exact (ok.out p hp).1⟩
end
end Sf

/-! [a list, a program, a program]: made, read, changed, and all its lists spoilt -/
namespace Sf
open PySem PySem.Spec PyProof.Rows L2
section
variable {K : PySem.W.Frag} {Γ : List Sl} {te ta tb tc tw : TE} {tr : TA} {i j : Nat} {d e : D} {ds es as : List D} {bs cs ws : List Bk}
theorem ev_f3 (ha : EvO K ta Γ (.ow as)) (hb : EvO K tb Γ (.pg bs)) (hc : EvO K tc Γ (.pg cs)) : EvO K (tLst (tCons ta (tCons tb (tCons tc tNil)))) Γ (.f3 as bs cs) := ⟨fun W A B σ E Q q =>
  ha.run W A B σ E _ fun v1 A1 B1 fp1 g1 ok1 hn1 => hb.run W A1 B1 σ (E.grow g1) _ fun v2 A2 B2 fp2 g2 ok2 hn2 => hc.run W A2 B2 σ ((E.grow g1).grow g2) _ fun v3 A3 B3 fp3 g3 ok3 hn3 => by
    refine ⟨show (3 : Nat) ≤ sizeLine by decide, fun p hp => ?_⟩
    have g4 := Gr.lay (o := .lst [v1, v2, v3]) g3.sub hp
    have k1 := ((ok1.grow g2).grow g3).grow g4
    have k2 := (ok2.grow g3).grow g4
    have k3 := ok3.grow g4
    have o1 := ok1.out
    have o2 := ok2.out
    have o3 := ok3.out
    obtain ⟨x, xs, e1, rfl, x1, x2, x3⟩ := k1
    obtain ⟨y, ys, f1, e2, rfl, y1, y2, y3, nd1⟩ := k2
    obtain ⟨z, zs, f2, e3, rfl, z1, z2, z3, nd2⟩ := k3
    cases e1
    cases e2
    cases e3
    have sx : ∃ u, B1 x = some u := (o1 x List.mem_cons_self).2
    have sy : ∀ a ∈ y :: f1, ∃ u, B2 a = some u := fun a ha => (o2 a ha).2
    have sz : ∀ a ∈ z :: f2, ∃ u, B3 a = some u := fun a ha => (o3 a ha).2
    refine q (.ref p) A3 _ (p :: x :: y :: z :: (f1 ++ f2)) (((g1.trans g2).trans g3).trans g4) ⟨p, x, y, z, xs, ys, zs, f1, f2, rfl, rfl, ⟨ex_free g3.sub hp, upd_same⟩, ⟨x1, x2, x3⟩, ⟨y1, y2, y3⟩, ⟨z1, z2, z3⟩, ?_⟩ fun a ha => ?_
    · have np : ∀ a, (∃ u, B3 a = some u) → a ≠ p := fun a ⟨u, hu⟩ e => by rw [e, hp] at hu; cases hu
      have s3 : ∀ a, (∃ u, B2 a = some u) → ∃ u, B3 a = some u := fun a ⟨u, hu⟩ => ⟨u, g3.all a u hu⟩
      have s2 : ∀ a, (∃ u, B1 a = some u) → ∃ u, B2 a = some u := fun a ⟨u, hu⟩ => ⟨u, g2.all a u hu⟩
      have pm : (p :: x :: y :: z :: (f1 ++ f2)).Perm (p :: x :: ((y :: f1) ++ (z :: f2))) := ((List.perm_middle.symm.cons y).cons x).cons p
      rw [pm.nodup_iff, List.nodup_cons, List.nodup_cons, List.nodup_append]
      refine ⟨fun h => ?_, fun h => ?_, nd1, nd2, fun a h1 b h2 e => ?_⟩
      · rcases List.mem_cons.mp h with h | h
        · exact np x (s3 _ (s2 _ sx)) h.symm
        · rcases List.mem_append.mp h with h | h
          · exact np p (s3 _ (sy p h)) rfl
          · exact np p (sz p h) rfl
      · rcases List.mem_append.mp h with h | h
        · obtain ⟨u, hu⟩ := sx
          rw [hn2 x h] at hu; cases hu
        · obtain ⟨u, hu⟩ := s2 x sx
          rw [hn3 x h] at hu; cases hu
      · subst e
        obtain ⟨u, hu⟩ := sy a h1
        rw [hn3 a h2] at hu; cases hu
    · rcases List.mem_cons.mp ha with rfl | ha
      · exact ex_free ((g1.trans g2).trans g3).all hp
      rcases List.mem_cons.mp ha with rfl | ha
      · exact hn1 _ List.mem_cons_self
      rcases List.mem_cons.mp ha with rfl | ha
      · exact ex_free g1.all (hn2 _ List.mem_cons_self)
      rcases List.mem_cons.mp ha with rfl | ha
      · exact ex_free (g1.trans g2).all (hn3 _ List.mem_cons_self)
      rcases List.mem_append.mp ha with ha | ha
      · exact ex_free g1.all (hn2 _ (List.mem_cons_of_mem _ ha))
      · exact ex_free (g1.trans g2).all (hn3 _ (List.mem_cons_of_mem _ ha))⟩
theorem ev_f3w (h : Γ[i]? = some (.f3 as bs cs)) : EvW K (tVar i) Γ (.lst [.lst as, dP bs, dP cs]) := ⟨fun W A B σ E Q q => by
  obtain ⟨fp, ⟨p, x, y, z, xs, ys, zs, f1, f2, h0, _, ⟨h1, h2⟩, ⟨x1, x2, x3⟩, ⟨y1, y2, y3⟩, ⟨z1, z2, z3⟩, nd⟩, _⟩ := E.at h
  exact ⟨.ref p, slotRef h0, q _ A B (.refl E.ex) (.lst h2 (.cons (.lst x2 (x3.mono E.ex)) (.cons (.lst y2 (y3.rpa E.ex)) (.cons (.lst z2 (z3.rpa E.ex)) .nil))))⟩⟩
theorem ev_f3a (h : Γ[i]? = some (.f3 as bs cs)) : EvW K (tOp (rIxX K) (tVar i) (tC (.int 0))) Γ (.lst as) := ev_ixW (ev_f3w h) evv_c rfl
theorem ev_f3b (h : Γ[i]? = some (.f3 as bs cs)) : EvW K (tOp (rIxX K) (tVar i) (tC (.int 1))) Γ (dP bs) := ev_ixW (ev_f3w h) evv_c rfl
theorem ev_f3c (h : Γ[i]? = some (.f3 as bs cs)) : EvW K (tOp (rIxX K) (tVar i) (tC (.int 2))) Γ (dP cs) := ev_ixW (ev_f3w h) evv_c rfl
end
section
variable {K : PySem.W.Frag} {Γ : List Sl} {te t1 t2 tw : TE} {i j : Nat} {d d1 d2 : Sf.D} {as : List Sf.D} {bs cs ws : List Bk} {D : EG}
/-- found[0].append(e) -/
theorem sv_app3 (h : Γ[i]? = some (.f3 as bs cs)) (he : EvF K te Γ d) (hz : as.length < 100000) (q : D.nx (Γ.set i (.f3 (as ++ [d]) bs cs))) : Sv K (tDrop (tBM K "list" rAppend (tOp (rIxX K) (tVar i) (tC (.int 0))) (tCons te tNil))) Γ D := ⟨fun A0 W D' σ B L ⟨A, e, g0⟩ => by
  obtain ⟨fp, ⟨p, x, y, z, xs, ys, zs, f1, f2, h0, rfl, ⟨h1, h2⟩, ⟨x1, x2, x3⟩, ⟨y1, y2, y3⟩, ⟨z1, z2, z3⟩, nd⟩, _⟩ := e.at h
  refine ⟨.ref p, slotRef h0, .inl ⟨p, _, 0, .ref x, rfl, rfl, .inl (.inl h2), rfl, .inl ⟨rfl, xs, .inl (.inl x2)⟩, he.run W A B σ e _ fun v A2 B2 fq g2 ok _ => ?_⟩⟩
  obtain ⟨_, u, e1, rv⟩ := ok
  cases e1
  have e2 := e.grow g2
  have p2 := g2.all _ _ h2
  refine ⟨x, xs, v, rfl, rfl, g2.all _ _ x2, by rw [x3.length]; exact lt16 hz, L.nx _ _ _ (updFl e2 (g0.on g2) h (fun fp ok => ?_) fun fp ok => ?_) q⟩
  · obtain ⟨p', x', y', z', xs', ys', zs', f1', f2', k0, rfl, ⟨k1, k2⟩, _⟩ := ok
    rw [h0] at k0; cases k0
    rw [p2] at k2; cases k2
    simp
  · obtain ⟨p', x', y', z', xs', ys', zs', f1', f2', k0, rfl, ⟨k1, k2⟩, ⟨x1', x2', x3'⟩, ⟨y1', y2', y3'⟩, ⟨z1', z2', z3'⟩, nd'⟩ := ok
    rw [h0] at k0; cases k0
    rw [p2] at k2; cases k2
    have n0 := nd'
    simp only [List.nodup_cons, List.mem_cons, List.mem_append, not_or] at nd'
    obtain ⟨⟨q1, q2, q3, q4, q5⟩, ⟨r1, r2, r3, r4⟩, _⟩ := nd'
    refine ⟨p, x, y, z, _, ys', zs', f1', f2', h0, rfl, ⟨k1, (upd_ne q1).trans p2⟩, ⟨x1', upd_same, (x3.mono g2.fix).append (.cons rv .nil)⟩, ⟨y1', (upd_ne (Ne.symm r1)).trans y2', ?_⟩, ⟨z1', (upd_ne (Ne.symm r2)).trans z2', ?_⟩, n0⟩
    · exact y3'.frame (fun _ _ q => q) fun a ha => ⟨(y3'.out a ha).1, upd_ne fun z => r3 (z ▸ ha)⟩
    · exact z3'.frame (fun _ _ q => q) fun a ha => ⟨(z3'.out a ha).1, upd_ne fun z => r4 (z ▸ ha)⟩⟩
theorem EnvAt.more {W A B : Hp} {σ : SS} (e : EnvAt K W A B Γ σ) {s : Sl} (h : Γ[i]? = some s) : ∃ fp, SlOk K A B s (σ[i]?.getD none) fp ∧ ∀ A' B' add s', Gr A B A' B' → (∀ a ∈ add, B a = none ∧ W a = none ∧ ∃ u, B' a = some u) → SlOk K A' B' s' (σ[i]?.getD none) (fp ++ add) → EnvAt K W A' B' (Γ.set i s') σ := by
  obtain ⟨ex, len, F, f1, f2, f3⟩ := e
  refine ⟨F i, f1 i s h, fun A' B' add s' g hn ok => ?_⟩
  have hiΓ : i < Γ.length := (List.getElem?_eq_some_iff.mp h).1
  have hno : ∀ m a, a ∈ add → a ∉ F m := fun m a ha hF => by
    obtain ⟨_, u, hu⟩ := f3 m a hF
    rw [(hn a ha).1] at hu; cases hu
  refine ⟨g.sub, by rw [List.length_set, len], fun m => if m = i then F i ++ add else F m, fun m t em => ?_, fun m n a hm hn' => ?_, fun m a hm => ?_⟩
  · by_cases mi : m = i
    · subst mi
      rw [List.getElem?_set_self hiΓ] at em
      cases em
      simp only [if_true]
      exact ok
    · rw [List.getElem?_set_ne (Ne.symm mi)] at em
      simp only [if_neg mi]
      exact (f1 m t em).grow g
  · by_cases mi : m = i
    · by_cases ni : n = i
      · rw [mi, ni]
      · simp only [if_pos mi] at hm
        simp only [if_neg ni] at hn'
        rcases List.mem_append.mp hm with z | z
        · exact absurd (f2 n i a hn' z) ni
        · exact absurd hn' (hno n a z)
    · simp only [if_neg mi] at hm
      by_cases ni : n = i
      · simp only [if_pos ni] at hn'
        rcases List.mem_append.mp hn' with z | z
        · exact absurd (f2 m i a hm z) mi
        · exact absurd hm (hno m a z)
      · simp only [if_neg ni] at hn'
        exact f2 m n a hm hn'
  · have key : ∀ n, a ∈ F n → W a = none ∧ ∃ u, B' a = some u := fun n hn' => ⟨(f3 n a hn').1, let ⟨u, q⟩ := (f3 n a hn').2; ⟨u, g.all a u q⟩⟩
    by_cases mi : m = i
    · simp only [if_pos mi] at hm
      rcases List.mem_append.mp hm with z | z
      · exact key i z
      · exact (hn a z).2
    · simp only [if_neg mi] at hm
      exact key m hm
theorem PgB.mem {A B : Hp} : ∀ {vs : List V} {bs : List Bk} {fp : List Addr}, PgB K A B vs bs fp → ∀ v ∈ vs, ∃ t r w, v = .ref t ∧ A t = some (.tup [.ref r, .ref w]) ∧ r ∈ fp ∧ w ∈ fp
  | _, _, _, .nil, _, h => nomatch h
  | _, _, _, .cons h1 h2 h3 h4 h5 h6 h7 t, v, h => by
    rcases List.mem_cons.mp h with rfl | h
    · exact ⟨_, _, _, rfl, h1, by simp, by simp⟩
    · obtain ⟨t', r, w, a, b, c, d⟩ := t.mem v h
      exact ⟨t', r, w, a, b, by simp [c], by simp [d]⟩
theorem PgB.bag {A B : Hp} {n : Nat} : ∀ {vs : List V} {bs : List Bk} {fp : List Addr}, PgB K A B vs bs fp → (∀ b ∈ bs, b.1.length ≤ n ∧ b.2.length ≤ n) → ∀ p ∈ fp, A p = none ∧ ∃ xs, B p = some (.lst xs) ∧ xs.length ≤ n
  | _, _, _, .nil, _, _, h => nomatch h
  | _, _, _, .cons h1 h2 h3 h4 h5 h6 h7 t, k, p, h => by
    obtain ⟨k1, k2⟩ := k _ List.mem_cons_self
    rcases List.mem_cons.mp h with rfl | h
    · exact ⟨h2, _, h3, by rw [h4.length]; exact k1⟩
    rcases List.mem_cons.mp h with rfl | h
    · exact ⟨h5, _, h6, by rw [h7.length]; exact k2⟩
    · exact t.bag (fun b hb => k b (List.mem_cons_of_mem _ hb)) p h
theorem Fg.setUn : ∀ (Γ : List Sl) (i : Nat) (a : Sl), Fg (Γ.set i a) (Γ.set i .un)
  | [], _, _ => .nil
  | _ :: l, 0, _ => .un (Fg.refl l)
  | _ :: l, i + 1, a => .eq rfl (Fg.setUn l i a)
theorem Fg.un1 : ∀ (Γ : List Sl) (i : Nat), Fg Γ (Γ.set i .un)
  | [], _ => .nil
  | _ :: l, 0 => .un (Fg.refl l)
  | _ :: l, i + 1 => .eq rfl (Fg.un1 l i)
theorem EnvFl.weak {A0 W B : Hp} {σ : SS} {Γ' : List Sl} (e : EnvFl K A0 W Γ σ B) (f : Fg Γ Γ') : EnvFl K A0 W Γ' σ B := let ⟨A, e, g⟩ := e; ⟨A, e.weak f, g⟩
theorem bagApp {A0 W A B : Hp} {σ : SS} {n : Nat} {l : List Addr} {D' : Ends} {t : Addr} {k : Int} {r : Addr} {vs : List V} (e : EnvAt K W A B Γ σ) (g0 : Gr A0 W A B) (h : Γ[i]? = some (.bag n l)) (hj : σ[j]? = some (some (.ref t))) (ht : A t = some (.tup vs)) (hk : atI vs k = some (.ref r)) (hr : r ∈ l) (he : EvF K te Γ d) (hz : n < 100000)
    (q : ∀ A' B', EnvAt K W A' B' (Γ.set i (.bag (n + 1) l)) σ → Gr A0 W A' B' → Ex A A' → D'.nx σ B') : tDrop (tBM K "list" rAppend (tOp (rIxX K) (tVar j) (tC (.int k))) (tCons te tNil)) D' σ B := by
  obtain ⟨fp, ⟨hfp, hbag⟩, _⟩ := e.at h
  obtain ⟨r1, ys, r2, r3⟩ := hbag r hr
  refine ⟨.ref t, hj, .inr (.inl ⟨t, vs, k, .ref r, rfl, rfl, .inl (.inl (e.ex _ _ ht)), hk, .inl ⟨rfl, ys, .inl (.inl r2)⟩, he.run W A B σ e _ fun v A2 B2 fq g2 ok _ => ?_⟩)⟩
  obtain ⟨_, u, e1, rv⟩ := ok
  cases e1
  have e2 := e.grow g2
  refine ⟨r, ys, v, rfl, rfl, g2.all _ _ r2, lt16 (Nat.lt_of_le_of_lt r3 hz), ?_⟩
  have g3 := g0.on g2
  have hW : W r = none := by
    obtain ⟨fp', ⟨hfp', _⟩, hw⟩ := e2.at h
    exact hw r (by rw [hfp']; exact hr)
  have hA2 : A2 r = none := g2.out r1 r2
  refine q A2 _ (e2.upd1 h (fun fp ok => by rw [ok.1]; exact hr) fun fp ok => ⟨ok.1, fun a ha => ?_⟩) ⟨g3.fix, fun a o z => by rw [upd_ne (ne_of_none z hW)]; exact g3.all a o z, fun a o z => by rw [upd_ne (ne_of_none z hA2)]; exact g3.sub a o z, g3.new⟩ g2.fix
  obtain ⟨k1, zs, k2, k3⟩ := ok.2 a ha
  by_cases ea : a = r
  · subst ea
    exact ⟨k1, _, upd_same, by rw [List.length_append, List.length_singleton]; omega⟩
  · exact ⟨k1, zs, (upd_ne ea).trans k2, by omega⟩
theorem sv_spoil {n : Nat} (hij : i ≠ j) (hjl : j < Γ.length) (h : Γ[i]? = some (.f3 as bs cs)) (hw : EvO K tw Γ (.pg ws)) (h1 : ∀ Γ', EvF K t1 Γ' d1) (h2 : ∀ Γ', EvF K t2 Γ' d2)
    (n3 : 3 ≤ n) (na : as.length ≤ n) (nb : bs.length ≤ n ∧ ∀ b ∈ bs, b.1.length ≤ n ∧ b.2.length ≤ n) (nc : cs.length ≤ n ∧ ∀ b ∈ cs, b.1.length ≤ n ∧ b.2.length ≤ n) (nw : ws.length ≤ n ∧ ∀ b ∈ ws, b.1.length ≤ n ∧ b.2.length ≤ n) (hn : n ≤ 9000)
    (q : D.nx ((Γ.set i .un).set j .un)) : Sv K (tFor (iX K (tOp (rAddX K) (tOp (rAddX K) (tOp (rIxX K) (tVar i) (tC (.int 1))) (tOp (rIxX K) (tVar i) (tC (.int 2)))) tw)) (gName j)
      (tSeq (tDrop (tBM K "list" rAppend (tOp (rIxX K) (tVar j) (tC (.int 0))) (tCons t1 tNil))) (tDrop (tBM K "list" rAppend (tOp (rIxX K) (tVar j) (tC (.int 1))) (tCons t2 tNil))))) Γ D := ⟨fun A0 W D' σ B L ⟨A, e, g0⟩ => .inl (by
  obtain ⟨fp, ok0, moreE⟩ := e.more h
  obtain ⟨p, x, y, z, xs, ys, zs, f1, f2, h0, hfp, ⟨p1, p2⟩, ⟨x1, x2, x3⟩, ⟨y1, y2, y3⟩, ⟨z1, z2, z3⟩, nd⟩ := ok0
  refine ⟨.ref p, slotRef h0, .inl ⟨p, _, 1, .ref y, rfl, rfl, .inl (.inl p2), rfl, .ref p, slotRef h0, .inl ⟨p, _, 2, .ref z, rfl, rfl, .inl (.inl p2), rfl, .inr (.inr (.inl ⟨y, z, ys, zs, rfl, rfl, y2, z2, ?_, fun l1 hl1 => ?_⟩))⟩⟩⟩
  · rw [y3.len, z3.len]; exact sz16 (by omega)
  have g1 := Gr.lay (o := .lst (ys ++ zs)) e.ex hl1
  refine hw.run W A _ σ (e.grow g1) _ fun v A2 B2 fq g2 ok2 hn2 => ?_
  obtain ⟨u, us, f3, ev, rfl, u1, u2, u3, nd3⟩ := ok2
  cases ev
  refine .inr (.inr (.inl ⟨l1, u, ys ++ zs, us, rfl, rfl, g2.all _ _ upd_same, u2, ?_, fun l2 hl2 => ?_⟩))
  · rw [List.length_append, y3.len, z3.len, u3.len]; exact sz16 (by omega)
  have g3 := Gr.layF (o := .lst (ys ++ zs ++ us)) g2.sub hl2
  have g123 := (g1.trans g2).trans g3
  have gA := g0.on g123
  have ul : u ≠ l2 := fun z => by rw [z, hl2] at u2; cases u2
  have u3' : PgB K (upd A2 l2 (.lst (ys ++ zs ++ us))) (upd B2 l2 (.lst (ys ++ zs ++ us))) us ws f3 := u3.frame g3.fix fun a ha => by
    obtain ⟨k1, o, k2⟩ := u3.out a ha
    exact ⟨g3.out k1 k2, (g3.all _ _ k2).trans k2.symm⟩
  have y3' : PgB K (upd A2 l2 (.lst (ys ++ zs ++ us))) (upd B2 l2 (.lst (ys ++ zs ++ us))) ys bs f1 := y3.frame g123.fix fun a ha => by
    obtain ⟨k1, o, k2⟩ := y3.out a ha
    exact ⟨g123.out k1 k2, (g123.all _ _ k2).trans k2.symm⟩
  have z3' : PgB K (upd A2 l2 (.lst (ys ++ zs ++ us))) (upd B2 l2 (.lst (ys ++ zs ++ us))) zs cs f2 := z3.frame g123.fix fun a ha => by
    obtain ⟨k1, o, k2⟩ := z3.out a ha
    exact ⟨g123.out k1 k2, (g123.all _ _ k2).trans k2.symm⟩
  have eb := moreE _ _ (u :: f3) (.bag n (fp ++ u :: f3)) g123 (fun a ha => by
    have hb := hn2 a ha
    have h4 := ex_free g1.all hb
    refine ⟨h4, ex_free g0.all h4, ?_⟩
    rcases List.mem_cons.mp ha with rfl | ha
    · exact ⟨_, (upd_ne ul).trans u2⟩
    · exact (u3'.out a ha).2) ⟨rfl, fun a ha => by
    have old : ∀ {b vs}, A b = none → B b = some (.lst vs) → vs.length ≤ n → upd A2 l2 (.lst (ys ++ zs ++ us)) b = none ∧ ∃ xs, upd B2 l2 (.lst (ys ++ zs ++ us)) b = some (.lst xs) ∧ xs.length ≤ n := fun k1 k2 k3 => ⟨g123.out k1 k2, _, g123.all _ _ k2, k3⟩
    rcases List.mem_append.mp ha with ha | ha
    · rw [hfp] at ha
      rcases List.mem_cons.mp ha with rfl | ha
      · exact old p1 p2 n3
      rcases List.mem_cons.mp ha with rfl | ha
      · exact old x1 x2 (by rw [x3.length]; exact na)
      rcases List.mem_cons.mp ha with rfl | ha
      · exact old y1 y2 (by rw [y3.len]; exact nb.1)
      rcases List.mem_cons.mp ha with rfl | ha
      · exact old z1 z2 (by rw [z3.len]; exact nc.1)
      rcases List.mem_append.mp ha with ha | ha
      · exact y3'.bag nb.2 a ha
      · exact z3'.bag nc.2 a ha
    · rcases List.mem_cons.mp ha with rfl | ha
      · exact ⟨(upd_ne ul).trans u1, us, (upd_ne ul).trans u2, by rw [u3.len]; exact nw.1⟩
      · exact u3'.bag nw.2 a ha⟩
  have key : ∀ v ∈ ys ++ zs ++ us, ∃ t r w, v = .ref t ∧ upd A2 l2 (.lst (ys ++ zs ++ us)) t = some (.tup [.ref r, .ref w]) ∧ r ∈ fp ++ u :: f3 ∧ w ∈ fp ++ u :: f3 := fun v hv => by
    rcases List.mem_append.mp hv with hv | hv
    · rcases List.mem_append.mp hv with hv | hv
      · obtain ⟨t, r, w, k1, k2, k3, k4⟩ := y3'.mem v hv
        exact ⟨t, r, w, k1, k2, by rw [hfp]; simp [k3], by rw [hfp]; simp [k4]⟩
      · obtain ⟨t, r, w, k1, k2, k3, k4⟩ := z3'.mem v hv
        exact ⟨t, r, w, k1, k2, by rw [hfp]; simp [k3], by rw [hfp]; simp [k4]⟩
    · obtain ⟨t, r, w, k1, k2, k3, k4⟩ := u3'.mem v hv
      exact ⟨t, r, w, k1, k2, by simp [k3], by simp [k4]⟩
  have hlen : (ys ++ zs ++ us).length ≤ 3 * n := by
    rw [List.length_append, List.length_append, y3.len, z3.len, u3.len]
    omega
  generalize fp ++ u :: f3 = l at eb key
  have hl2' : upd A2 l2 (.lst (ys ++ zs ++ us)) l2 = some (.lst (ys ++ zs ++ us)) := upd_same
  generalize upd A2 l2 (.lst (ys ++ zs ++ us)) = A3 at eb key hl2' gA
  generalize upd B2 l2 (.lst (ys ++ zs ++ us)) = B3 at eb gA
  generalize ys ++ zs ++ us = vs at key hl2' hlen
  have hiΓ : i < Γ.length := (List.getElem?_eq_some_iff.mp h).1
  have lst : ∀ {Γ σ B'}, EnvFl K A3 W Γ σ B' → SqL K B' l2 vs := fun e => let ⟨A', e, gg⟩ := e; .inl (.inl (gg.sub _ _ (gg.fix _ _ hl2')))
  have fl0 : EnvFl K A3 W (Γ.set i (.bag n l)) σ B3 := ⟨A3, eb, gA.floor⟩
  refine ⟨l2, rfl, ⟨vs, lst fl0⟩, ?_⟩
  refine for_list (fun k σ' B' => EnvFl K A3 W ((Γ.set i (.bag (n + 2 * k) l)).set j .un) σ' B') ?_ (fun k σ' B' _ e' => lst e') (fun k v σ' B' hv e' => ?_) (fun σ' B' e' => ?_)
  · exact fl0.weak (Fg.un1 _ j)
  · obtain ⟨t, r, w, rfl, ht, hr, hw'⟩ := key v (List.mem_of_getElem? hv)
    have hk : k < 3 * n := Nat.lt_of_lt_of_le (List.getElem?_eq_some_iff.mp hv).1 hlen
    obtain ⟨A4, e4, g4⟩ := e'
    have hi4 : ∀ (m : Nat) (X : List Sl), X = (Γ.set i (.bag m l)).set j .un → X[i]? = some (.bag m l) := fun m X hX => by
      rw [hX, List.getElem?_set_ne (Ne.symm hij), List.getElem?_set_self hiΓ]
    have e5 : EnvAt K W A4 B' ((Γ.set i (.bag (n + 2 * k) l)).set j .un) (σ'.set j (some (.ref t))) := by
      have := e4.put (.refl e4.ex) (s := .un) (v := .ref t) (fp := []) j rfl (fun _ z => nomatch z) (fun _ z => nomatch z)
      rwa [List.set_set] at this
    have hjσ : (σ'.set j (some (V.ref t)))[j]? = some (some (.ref t)) := by
      rw [List.getElem?_set_self]
      have := e4.len
      rw [this, List.length_set, List.length_set]
      exact hjl
    have step : ∀ m, ((Γ.set i (.bag m l)).set j .un).set i (.bag (m + 1) l) = (Γ.set i (.bag (m + 1) l)).set j .un := fun m => by
      rw [List.set_comm _ _ hij.symm, List.set_set]
    refine bagApp (k := 0) (r := r) e5 g4 (hi4 _ _ rfl) hjσ (g4.fix _ _ ht) rfl hr (h1 _) (by omega) fun A6 B6 e6 g6 x6 => ?_
    rw [step] at e6
    refine bagApp (k := 1) (r := w) e6 g6 (hi4 _ _ rfl) hjσ (g6.fix _ _ ht) rfl hw' (h2 _) (by omega) fun A7 B7 e7 g7 x7 => ?_
    rw [step] at e7
    exact ⟨A7, e7, g7⟩
  · refine L.nx _ _ _ (EnvFl.under gA (EnvFl.weak (Γ := (Γ.set i (.bag (n + 2 * vs.length) l)).set j .un) e' ?_)) q
    rw [List.set_comm _ _ hij, List.set_comm _ _ hij]
    exact Fg.setUn _ i _)⟩
end
end Sf

namespace Sf
open PySem PySem.Spec PyProof.Rows L2
/-! short words for evaluation: each closes its goal or fails -/
local macro_rules | `(tactic| wtm_at "sd") => `(tactic| first | assumption | exact trivial | omega | ((with_reducible show List.length _ ≤ _); simp only [List.length_cons, List.length_nil]; omega) | decide | rfl | ((with_reducible show sOk _); (show PyData.strOk _ = true); decide +kernel))
local macro_rules | `(tactic| wtm_at "ix") => `(tactic| first | assumption | exact rfl)
local macro_rules | `(tactic| wtm_at "rr") => `(tactic| assumption)
local macro_rules | `(tactic| wtm_at "evp") => `(tactic| first | exact ep_none | (apply ep_some; wtm_at "evv"))
local macro_rules | `(tactic| wtm_at "evav") => `(tactic| first | exact eav_nil | (apply eav_cons; wtm_at "evv"; wtm_at "evav"))
local macro_rules | `(tactic| wtm_at "eva") => `(tactic| first | exact ea_nil | (apply ea_cons; wtm_at "evf"; wtm_at "eva"))
local macro_rules | `(tactic| wtm_at "evaw") => `(tactic| first | exact eaw_nil | (apply eaw_cons; wtm_at "evw"; wtm_at "evaw"))
local macro_rules | `(tactic| wtm_at "evl") => `(tactic| first | exact evl_var rfl | (apply EvO.l; wtm_at "evf") | (apply EvO.ll; wtm_at "evo"))
local macro_rules | `(tactic| wtm_at "evk") => `(tactic| first | exact evk_var rfl | (apply EvO.k; wtm_at "evf"))
local macro_rules | `(tactic| wtm_at "evm") => `(tactic| first | exact evm_var rfl | (apply EvO.m; wtm_at "evf"))
local macro_rules | `(tactic| wtm_at "evw") => `(tactic| first
  | exact EvL.w (evl_var rfl) | exact EvK.w (evk_var rfl) | exact EvM.w (evm_var rfl)
  | (apply EvO.w; wtm_at "evf")
  | (apply EvL.w; wtm_at "evl"))
/-! what a slot may hold: fixed data -/
local macro_rules | `(tactic| wtm_at "evf") => `(tactic| first
  | exact evf_var rfl
  | (apply ev_ixT; wtm_at "evf"; wtm_at "evv"; wtm_at "ix")
  | (apply ev_ix; wtm_at "evl"; wtm_at "evv"; wtm_at "ix")
  | (apply ev_tup; wtm_at "eva"; wtm_at "sd")
  | (apply EvV.fi; wtm_at "evv")
  | (apply EvV.fs; wtm_at "evv")
  | (apply EvV.fb; wtm_at "evv")
  | (apply EvV.fn; wtm_at "evv")
  | (apply ev_call; wtm_at "eva"; wtm_at "rr")
  | (apply ev_callW; wtm_at "evaw"; wtm_at "rr"; wtm_at "sd")
  | (apply EvO.fixL; wtm_at "evo"))
/-! an owned list, a dict -/
local macro_rules | `(tactic| wtm_at "evo") => `(tactic| first
  | (apply ev_lst; wtm_at "eva"; wtm_at "sd")
  | exact ev_newK | exact ev_newT
  | (apply ev_listL; wtm_at "evl")
  | (apply ev_listT; wtm_at "evf")
  | (apply ev_dict; wtm_at "evk")
  | (apply ev_addL; wtm_at "evl"; wtm_at "evl"; wtm_at "sd")
  | (apply ev_slL; wtm_at "evl"; wtm_at "evp"; wtm_at "evp")
  | (apply ev_call; wtm_at "eva"; wtm_at "rr")
  | (apply ev_callW; wtm_at "evaw"; wtm_at "rr"; wtm_at "sd"))
local macro_rules | `(tactic| wtm_at "evv") => `(tactic| first
  | exact evv_c
  | exact evv_int rfl
  | exact evv_str rfl
  | exact evv_bl rfl
  | exact evv_non rfl
  | (apply ev_add; wtm_at "evv"; wtm_at "evv")
  | (apply ev_cat; wtm_at "evv"; wtm_at "evv"; wtm_at "sd")
  | (apply ev_sub; wtm_at "evv"; wtm_at "evv")
  | (apply ev_mul; wtm_at "evv"; wtm_at "evv"; wtm_at "mu")
  | (apply ev_div; wtm_at "evv"; wtm_at "evv"; wtm_at "sd")
  | (apply ev_mod; wtm_at "evv"; wtm_at "evv"; wtm_at "sd")
  | (apply ev_neg; wtm_at "evv")
  | (apply ev_lt; wtm_at "evv"; wtm_at "evv")
  | (apply ev_le; wtm_at "evv"; wtm_at "evv")
  | (apply ev_gt; wtm_at "evv"; wtm_at "evv")
  | (apply ev_ge; wtm_at "evv"; wtm_at "evv")
  | (apply ev_eqi; wtm_at "evv"; wtm_at "evv")
  | (apply ev_eqs; wtm_at "evv"; wtm_at "evv")
  | (apply ev_nei; wtm_at "evv"; wtm_at "evv")
  | (apply ev_nes; wtm_at "evv"; wtm_at "evv")
  | (apply ev_eqb; wtm_at "evv"; wtm_at "evv")
  | (apply ev_neb; wtm_at "evv"; wtm_at "evv")
  | (apply ev_min; wtm_at "evv"; wtm_at "evv")
  | (apply ev_max; wtm_at "evv"; wtm_at "evv")
  | (apply ev_intb; wtm_at "evv")
  | (apply ev_lens; wtm_at "evv"; wtm_at "sd")
  | (apply ev_lenR; wtm_at "evw")
  | (apply ev_lenW; wtm_at "evw")
  | (apply ev_lenT; wtm_at "evw")
  | (apply ev_ixR; wtm_at "evf"; wtm_at "evv"; wtm_at "ix")
  | (apply ev_ixS; wtm_at "evv"; wtm_at "evv"; wtm_at "sd"; wtm_at "ix")
  | (apply ev_slS; wtm_at "evv"; wtm_at "sd"; wtm_at "evp"; wtm_at "evp")
  | (apply ev_nis; wtm_at "evv"; wtm_at "evv")
  | (apply ev_ins; wtm_at "evv"; wtm_at "evv")
  | (apply ev_inK; wtm_at "evv"; wtm_at "evk")
  | (apply ev_niK; wtm_at "evv"; wtm_at "evk")
  | (apply ev_andV; wtm_at "evv"; (intro _; wtm_at "evv"))
  | (apply ev_orV; wtm_at "evv"; (intro _; wtm_at "evv"))
  | (apply ev_notV; wtm_at "evv")
  | (apply ev_isN; wtm_at "evw")
  | (apply ev_ntN; wtm_at "evw")
  | (apply ev_isi_lst true; wtm_at "evw"; decide +kernel)
  | (apply ev_isi_lst false; wtm_at "evw"; decide +kernel)
  | (apply ev_isi_tup true; wtm_at "evw"; decide +kernel)
  | (apply ev_isi_tup false; wtm_at "evw"; decide +kernel)
  | (apply ev_isi_str true; wtm_at "evw"; decide +kernel)
  | (apply ev_isi_str false; wtm_at "evw"; decide +kernel)
  | (apply ev_isi_int true; wtm_at "evw"; decide +kernel)
  | (apply ev_isi_int false; wtm_at "evw"; decide +kernel)
  | (apply ev_isi_bl true; wtm_at "evw"; decide +kernel)
  | (apply ev_isi_bl false; wtm_at "evw"; decide +kernel)
  | (apply ev_isi_non true; wtm_at "evw"; decide +kernel)
  | (apply ev_isi_non false; wtm_at "evw"; decide +kernel)
  | (apply ev_isi_dk true; wtm_at "evw"; decide +kernel)
  | (apply ev_isi_dk false; wtm_at "evw"; decide +kernel)
  | (apply EvO.sc; wtm_at "evf1"; exact rfl))
/-! data that is a scalar: what is not made of scalars -/
local macro_rules | `(tactic| wtm_at "evf1") => `(tactic| first
  | (apply ev_ixT; wtm_at "evf"; wtm_at "evv"; wtm_at "ix")
  | (apply ev_ix; wtm_at "evl"; wtm_at "evv"; wtm_at "ix")
  | (apply ev_ixKT; wtm_at "evf"; wtm_at "evv"; wtm_at "ix")
  | (apply ev_get; wtm_at "evk"; wtm_at "evv"; wtm_at "evf")
  | (apply ev_call; wtm_at "eva"; wtm_at "rr")
  | (apply ev_callW; wtm_at "evaw"; wtm_at "rr"; wtm_at "sd"))
local macro_rules | `(tactic| wtm_at "mu") => `(tactic| first
  | assumption
  | (apply mul_ok_l; omega)
  | (apply mul_ok_r; omega))
local macro_rules | `(tactic| wtm_at "evt") => `(tactic| first
  | exact et_yes
  | (apply et_v; wtm_at "evv")
  | (apply et_b; wtm_at "evv")
  | (apply et_and; wtm_at "evt"; (intro _; wtm_at "evt"))
  | (apply et_or; wtm_at "evt"; (intro _; wtm_at "evt"))
  | (apply et_not; wtm_at "evt"))
/-! a name gets a value, and what follows -/
local macro_rules | `(tactic| wtm_at "ev") => `(tactic| first | wtm_at "evf" | wtm_at "evo")
/-! ### _law_cell_at, _law_drawn -/
def cellAt (ns : List Int) (k : Int) : Int :=
  if k < ns.length then ns.getD k.toNat 0 else if ns = [] then 97 * k * k + 13 * k else ns.getD (k % ns.length).toNat 0 * (2 * k + 1) + 97 * k * k + 13 * k
def R__law_cell_at : List D → Sl → Prop := fun ds s => ∃ (ns : List Int) (k : Int), ds = [.scr ns, .int k] ∧ (0 ≤ k ∧ k ≤ 100000) ∧ s = .im (.int (cellAt ns k))
def rd__law_cell_at (K : PySem.W.Frag) : TS :=
  (tSeq (tIfS (tTest (tOp rLtX (tVar 1) (tCB (rLenX K) (tCons (tVar 0) tNil)))) (tRet (tOp (rIxX K) (tVar 0) (tVar 1))) tNext)
    (tSeq (tIfS (tTest (tOp (rEqX K) (tCB (rLenX K) (tCons (tVar 0) tNil)) (tC (.int 0)))) (tRet (tOp (rAddX K) (tOp rMulX (tOp rMulX (tC (.int 97)) (tVar 1)) (tVar 1)) (tOp rMulX (tC (.int 13)) (tVar 1)))) tNext)
    (tRet (tOp (rAddX K) (tOp (rAddX K) (tOp rMulX (tOp (rIxX K) (tVar 0) (tOp rModX (tVar 1) (tCB (rLenX K) (tCons (tVar 0) tNil)))) (tOp (rAddX K) (tOp rMulX (tC (.int 2)) (tVar 1)) (tC (.int 1)))) (tOp rMulX (tOp rMulX (tC (.int 97)) (tVar 1)) (tVar 1))) (tOp rMulX (tC (.int 13)) (tVar 1))))))
theorem atI_getD {ns : List Int} {i : Int} (h0 : 0 ≤ i) (h1 : i < ns.length) : atI ns i = some (ns.getD i.toNat 0) := by
  rw [atI_nn h0 h1, List.getD_eq_getElem?_getD, List.getElem?_eq_getElem (by omega)]
  rfl
theorem sv__law_cell_at {K : PySem.W.Frag} : Keeps K R__law_cell_at 2 2 (rd__law_cell_at K) := by
  rintro ds s ⟨ns, k, rfl, hk, rfl⟩
  refine ⟨rfl, ?_⟩
  show Sv K (rd__law_cell_at K) [.im (.scr ns), .im (.int k)] _
  unfold rd__law_cell_at
  refine q_when (b := decide (k < ns.length)) (by wtm_at "evt") (fun h => ?_) (fun h => ?_)
  · have h := of_decide_eq_true h
    have hx := atI_getD (ns := ns) hk.1 h
    refine sv_ret (s := .im (.int (ns.getD k.toNat 0))) (by wtm_at "ev") ?_
    show _ = _
    unfold cellAt
    rw [if_pos h]
  · have h := of_decide_eq_false h
    refine q_when (b := decide ((ns.length : Int) = 0)) (by wtm_at "evt") (fun h2 => ?_) (fun h2 => ?_)
    · have h2 := of_decide_eq_true h2
      have e : ns = [] := List.length_eq_zero_iff.mp (by omega)
      refine sv_ret (s := .im (.int (97 * k * k + 13 * k))) (by wtm_at "ev") ?_
      show _ = _
      unfold cellAt
      rw [if_neg h, if_pos e]
    · have h2 := of_decide_eq_false h2
      have e : ns ≠ [] := fun z => h2 (by rw [z]; rfl)
      have hl : 0 < (ns.length : Int) := by omega
      have hx := atI_getD (ns := ns) (Int.emod_nonneg k (by omega)) (Int.emod_lt_of_pos k hl)
      refine sv_ret (s := .im (.int (ns.getD (k % ns.length).toNat 0 * (2 * k + 1) + 97 * k * k + 13 * k))) (by wtm_at "ev") ?_
      show _ = _
      unfold cellAt
      rw [if_neg h, if_neg e]
local macro_rules | `(tactic| wtm_at "rr") => `(tactic| exact ⟨_, _, rfl, (by omega), rfl⟩)
def drawn (ns : List Int) (k : Int) : Int := cellAt ns k * 48271 % 2147483647
theorem drawn_b (ns : List Int) (k : Int) : 0 ≤ drawn ns k ∧ drawn ns k < 2147483647 := ⟨Int.emod_nonneg _ (by decide), Int.emod_lt_of_pos _ (by decide)⟩
def R__law_drawn : List D → Sl → Prop := fun ds s => ∃ (ns : List Int) (k : Int), ds = [.scr ns, .int k] ∧ (0 ≤ k ∧ k ≤ 100000) ∧ s = .im (.int (drawn ns k))
def rd__law_drawn (K : PySem.W.Frag) : TS :=
  (tRet (tOp rModX (tOp rMulX (tCall (spF K R__law_cell_at) [] E0 (tCons (tVar 0) (tCons (tVar 1) tNil))) (tC (.int 48271))) (tC (.int 2147483647))))
theorem sv__law_drawn {K : PySem.W.Frag} : Keeps K R__law_drawn 2 2 (rd__law_drawn K) := by
  rintro ds s ⟨ns, k, rfl, hk, rfl⟩
  refine ⟨rfl, ?_⟩
  show Sv K (rd__law_drawn K) [.im (.scr ns), .im (.int k)] _
  unfold rd__law_drawn
  exact sv_ret (s := .im (.int (drawn ns k))) (by unfold drawn; wtm_at "ev") rfl
/-! ### letters -/
abbrev abc : Str := "abcdefghijklmnopqrstuvwxyz"
theorem abc_cps : abc.cps.toList = (List.range 26).map (· + 97) := by decide +kernel
/-- the letter at a place -/
def letter (i : Int) : Str := ⟨#[i.toNat + 97]⟩
theorem abc_at {i : Int} (h0 : 0 ≤ i) (h1 : i < 26) : atI abc.cps.toList i = some (i.toNat + 97) := by
  obtain ⟨n, rfl⟩ := Int.eq_ofNat_of_zero_le h0
  refine atI_nat ?_
  rw [abc_cps, List.getElem?_map, List.getElem?_range (by omega)]
  rfl
theorem sOk_letter {i : Int} (h1 : i < 26) : sOk (letter i) := by
  show (#[i.toNat + 97] : Array Nat).all (· < 0x110000) = true
  simp
  omega
theorem len_app (a b : Str) : (a ++ b).length = a.length + b.length := by
  show (a.cps ++ b.cps).size = _
  rw [Array.size_append]
  rfl
/-! ### _law_rest_by -/
def restSt (cell : Int) : Nat → Int × Str
  | 0 => (cell, "")
  | n + 1 => ((restSt cell n).1 / 7 + 31 * n, (restSt cell n).2 ++ letter (((restSt cell n).1 / 7 + 31 * n) % 26))
def restBy (cell : Int) : Str := (restSt cell (cell % 11).toNat).2
theorem restSt_len (cell : Int) : ∀ n, (restSt cell n).2.length = n
  | 0 => show (("" : Str)).length = 0 by decide +kernel
  | n + 1 => by
    show ((restSt cell n).2 ++ letter _).length = _
    rw [len_app, restSt_len cell n]
    rfl
theorem restBy_len (cell : Int) : (restBy cell).length = (cell % 11).toNat := restSt_len _ _
theorem restBy_le (cell : Int) : (restBy cell).length ≤ 10 := by rw [restBy_len]; omega
theorem sOk_rest (cell : Int) : ∀ n, sOk (restSt cell n).2
  | 0 => show sOk "" by decide +kernel
  | n + 1 => sOk_app (sOk_rest cell n) (sOk_letter (by omega))
def R__law_rest_by : List D → Sl → Prop := fun ds s => ∃ (c : Int), ds = [.int c, .int 11] ∧ s = .im (.str (restBy c))
def rd__law_rest_by (K : PySem.W.Frag) : TS :=
  (tSeq (tAsg (tC (.str "abcdefghijklmnopqrstuvwxyz")) (gName 2))
    (tSeq (tAsg (tC (.str "")) (gName 3))
    (tSeq (tFor (iRng1 (tCons (tOp rModX (tVar 0) (tVar 1)) tNil)) (gName 4) (tSeq (tAsg (tOp (rAddX K) (tOp rDivX (tVar 0) (tC (.int 7))) (tOp rMulX (tC (.int 31)) (tVar 4))) (gName 0))
    (tAsg (tOp (rAddX K) (tVar 3) (tOp (rIxX K) (tVar 2) (tOp rModX (tVar 0) (tC (.int 26))))) (gName 3))))
    (tRet (tVar 3)))))
theorem sv__law_rest_by {K : PySem.W.Frag} : Keeps K R__law_rest_by 5 2 (rd__law_rest_by K) := by
  rintro ds s ⟨c, rfl, rfl⟩
  refine ⟨rfl, ?_⟩
  show Sv K (rd__law_rest_by K) [.im (.int c), .im (.int 11), .un, .un, .un] _
  unfold rd__law_rest_by
  refine q_asg (s := .im (.str abc)) (by wtm_at "ev") ?_
  refine q_asg (s := .im (.str "")) (by wtm_at "ev") ?_
  have hn : ((c % 11).toNat : Int) = c % 11 := by omega
  refine sv_seq (sv_forR (n := (c % 11).toNat) (fun i Γ => ∃ x, Γ = [.im (.int (restSt c i).1), .im (.int 11), .im (.str abc), .im (.str (restSt c i).2), x]) (by rw [hn]; wtm_at "evav") (by omega) ⟨_, rfl⟩ (fun i Γ' hi hG => ?_) (fun Γ' hG => ?_))
  · obtain ⟨x, rfl⟩ := hG
    refine q_asg (s := .im (.int ((restSt c i).1 / 7 + 31 * i))) (by wtm_at "ev") ?_
    have h1 := restSt_len c i
    have h2 := sOk_rest c i
    have h3 := abc_at (i := ((restSt c i).1 / 7 + 31 * i) % 26) (by omega) (by omega)
    have h4 : abc.length = 26 := by decide +kernel
    have h5 := sOk_letter (i := ((restSt c i).1 / 7 + 31 * i) % 26) (by omega)
    have h6 : (letter (((restSt c i).1 / 7 + 31 * i) % 26)).length = 1 := rfl
    refine sv_asg (s := .im (.str ((restSt c i).2 ++ letter (((restSt c i).1 / 7 + 31 * i) % 26)))) ?_ ⟨_, rfl⟩
    refine EvV.fs ?_
    refine ev_cat ?_ ?_ (by omega)
    · wtm_at "evv"
    · refine ev_ixS (z := abc) ?_ ?_ ?_ h3
      · wtm_at "evv"
      · wtm_at "evv"
      · omega
  · obtain ⟨x, rfl⟩ := hG
    exact sv_ret (s := .im (.str (restBy c))) (by have := sOk_rest c (c % 11).toNat; wtm_at "ev") rfl
/-! ### _law_own_sign -/
local macro_rules | `(tactic| wtm_at "rr") => `(tactic| exact ⟨_, _, rfl, (by omega), rfl⟩)
local macro_rules | `(tactic| wtm_at "rr") => `(tactic| exact ⟨_, rfl, rfl⟩)
local macro_rules | `(tactic| wtm_at "ix") => `(tactic| exact abc_at (by omega) (by omega))
theorem letter_len (i : Int) : (letter i).length = 1 := rfl
theorem cutS_le (z : Str) (lo hi : Option Int) : (cutS z lo hi).length ≤ z.length := cutS_length z lo hi
theorem abc_len : abc.length = 26 := by decide +kernel
theorem abc_ok : sOk abc := by show PyData.strOk _ = true; decide +kernel
local macro_rules | `(tactic| wtm_at "sd") => `(tactic| first | exact abc_ok | exact sOk_rest _ _ | exact sOk_letter (by omega) | (rw [abc_len]; omega))
def signAt (h k : Int) (r : Str) : Int × Int := let at' := if (r.length : Int) < h / 2 % 11 then (r.length : Int) else h / 2 % 11; (at', if (r.length : Int) < at' + h / 22 % 11 then (r.length : Int) else at' + h / 22 % 11)
def signOf (h k : Int) (r : Str) : Str :=
  cutS r none (some (signAt h k r).1) ++ letter (k / 26) ++ cutS r (some (signAt h k r).1) (some (signAt h k r).2) ++ letter ((h / 242 + k) % 26) ++ cutS r (some (signAt h k r).2) none
def ownSign (ns : List Int) (k : Int) : Str := signOf (drawn ns 630) k (restBy (drawn ns (631 + k * (drawn ns 630 % 2))))
def R__law_own_sign : List D → Sl → Prop := fun ds s => ∃ (ns : List Int) (k : Int), ds = [.scr ns, .int k] ∧ (0 ≤ k ∧ k < 676) ∧ s = .im (.str (ownSign ns k))
def rd__law_own_sign (K : PySem.W.Frag) : TS :=
  (tSeq (tAsg (tC (.str "abcdefghijklmnopqrstuvwxyz")) (gName 2))
    (tSeq (tAsg (tCall (spF K R__law_drawn) [] E0 (tCons (tVar 0) (tCons (tC (.int 630)) tNil))) (gName 3))
    (tSeq (tAsg (tCall (spF K R__law_rest_by) [] E0 (tCons (tCall (spF K R__law_drawn) [] E0 (tCons (tVar 0) (tCons (tOp (rAddX K) (tC (.int 631)) (tOp rMulX (tVar 1) (tOp rModX (tVar 3) (tC (.int 2))))) tNil))) (tCons (tC (.int 11)) tNil))) (gName 4))
    (tSeq (tAsg (tCB rMinX (tCons (tOp rModX (tOp rDivX (tVar 3) (tC (.int 2))) (tC (.int 11))) (tCons (tCB (rLenX K) (tCons (tVar 4) tNil)) tNil))) (gName 5))
    (tSeq (tAsg (tCB rMinX (tCons (tOp (rAddX K) (tVar 5) (tOp rModX (tOp rDivX (tVar 3) (tC (.int 22))) (tC (.int 11)))) (tCons (tCB (rLenX K) (tCons (tVar 4) tNil)) tNil))) (gName 6))
    (tSeq (tAsg (tOp (rAddX K) (tOp (rAddX K) (tSl (rSlX K) (tVar 4) tNoPart (tPart (tVar 5))) (tOp (rIxX K) (tVar 2) (tOp rDivX (tVar 1) (tC (.int 26))))) (tSl (rSlX K) (tVar 4) (tPart (tVar 5)) (tPart (tVar 6)))) (gName 7))
    (tRet (tOp (rAddX K) (tOp (rAddX K) (tVar 7) (tOp (rIxX K) (tVar 2) (tOp rModX (tOp (rAddX K) (tOp rDivX (tVar 3) (tC (.int 242))) (tVar 1)) (tC (.int 26))))) (tSl (rSlX K) (tVar 4) (tPart (tVar 6)) tNoPart)))))))))
theorem sOk_restBy (c : Int) : sOk (restBy c) := sOk_rest _ _
theorem sv__law_own_sign {K : PySem.W.Frag} : Keeps K R__law_own_sign 8 2 (rd__law_own_sign K) := by
  rintro ds s ⟨ns, k, rfl, hk, rfl⟩
  refine ⟨rfl, ?_⟩
  show Sv K (rd__law_own_sign K) [.im (.scr ns), .im (.int k), .un, .un, .un, .un, .un, .un] _
  unfold rd__law_own_sign
  refine q_asg (s := .im (.str abc)) (by wtm_at "ev") ?_
  have hh := drawn_b ns 630
  have hd : 0 ≤ k * (drawn ns 630 % 2) ∧ k * (drawn ns 630 % 2) < 676 := by
    rcases Int.emod_two_eq (drawn ns 630) with e | e <;> rw [e] <;> omega
  refine q_asg (s := .im (.int (drawn ns 630))) (by wtm_at "ev") ?_
  refine q_asg (s := .im (.str (restBy (drawn ns (631 + k * (drawn ns 630 % 2)))))) (by wtm_at "ev") ?_
  have hr := restBy_le (drawn ns (631 + k * (drawn ns 630 % 2)))
  have ok := sOk_restBy (drawn ns (631 + k * (drawn ns 630 % 2)))
  unfold ownSign
  generalize restBy (drawn ns (631 + k * (drawn ns 630 % 2))) = r at hr ok
  generalize drawn ns 630 = h at hh hd
  refine q_asg (s := .im (.int (signAt h k r).1)) (by unfold signAt; wtm_at "ev") ?_
  refine q_asg (s := .im (.int (signAt h k r).2)) (by unfold signAt; wtm_at "ev") ?_
  have c1 := cutS_le r none (some (signAt h k r).1)
  have c2 := cutS_le r (some (signAt h k r).1) (some (signAt h k r).2)
  have c3 := cutS_le r (some (signAt h k r).2) none
  have l1 := letter_len (k / 26)
  have l2 := letter_len ((h / 242 + k) % 26)
  refine q_asg (s := .im (.str (cutS r none (some (signAt h k r).1) ++ letter (k / 26) ++ cutS r (some (signAt h k r).1) (some (signAt h k r).2)))) ?_ ?_
  · apply EvV.fs
    apply ev_cat
    · apply ev_cat
      · wtm_at "evv"
      · exact ev_ixS (z := abc) (by wtm_at "evv") (by wtm_at "evv") (by wtm_at "sd") (by wtm_at "ix")
      · omega
    · wtm_at "evv"
    · rw [len_app]; omega
  refine sv_ret ?_ rfl
  unfold signOf
  apply EvV.fs
  apply ev_cat
  · apply ev_cat
    · exact evv_str rfl
    · exact ev_ixS (z := abc) (by wtm_at "evv") (by wtm_at "evv") (by wtm_at "sd") (by wtm_at "ix")
    · rw [len_app, len_app]; omega
  · wtm_at "evv"
  · rw [len_app, len_app, len_app]; omega
end Sf

namespace Sf
open PySem PySem.Spec PyProof.Rows L2
/-! short words for evaluation: each closes its goal or fails -/
local macro_rules | `(tactic| wtm_at "sd") => `(tactic| first | assumption | exact trivial | omega | ((with_reducible show List.length _ ≤ _); simp only [List.length_cons, List.length_nil]; omega) | decide | rfl | ((with_reducible show sOk _); (show PyData.strOk _ = true); decide +kernel))
local macro_rules | `(tactic| wtm_at "ix") => `(tactic| first | assumption | exact rfl)
local macro_rules | `(tactic| wtm_at "rr") => `(tactic| assumption)
local macro_rules | `(tactic| wtm_at "evp") => `(tactic| first | exact ep_none | (apply ep_some; wtm_at "evv"))
local macro_rules | `(tactic| wtm_at "evav") => `(tactic| first | exact eav_nil | (apply eav_cons; wtm_at "evv"; wtm_at "evav"))
local macro_rules | `(tactic| wtm_at "eva") => `(tactic| first | exact ea_nil | (apply ea_cons; wtm_at "evf"; wtm_at "eva"))
local macro_rules | `(tactic| wtm_at "evaw") => `(tactic| first | exact eaw_nil | (apply eaw_cons; wtm_at "evw"; wtm_at "evaw"))
local macro_rules | `(tactic| wtm_at "evl") => `(tactic| first | exact evl_var rfl | (apply EvO.l; wtm_at "evf") | (apply EvO.ll; wtm_at "evo"))
local macro_rules | `(tactic| wtm_at "evk") => `(tactic| first | exact evk_var rfl | (apply EvO.k; wtm_at "evf"))
local macro_rules | `(tactic| wtm_at "evm") => `(tactic| first | exact evm_var rfl | (apply EvO.m; wtm_at "evf"))
local macro_rules | `(tactic| wtm_at "evw") => `(tactic| first
  | exact EvL.w (evl_var rfl) | exact EvK.w (evk_var rfl) | exact EvM.w (evm_var rfl)
  | (apply EvO.w; wtm_at "evf")
  | (apply EvL.w; wtm_at "evl"))
/-! what a slot may hold: fixed data -/
local macro_rules | `(tactic| wtm_at "evf") => `(tactic| first
  | exact evf_var rfl
  | (apply ev_ixT; wtm_at "evf"; wtm_at "evv"; wtm_at "ix")
  | (apply ev_ix; wtm_at "evl"; wtm_at "evv"; wtm_at "ix")
  | (apply ev_tup; wtm_at "eva"; wtm_at "sd")
  | (apply EvV.fi; wtm_at "evv")
  | (apply EvV.fs; wtm_at "evv")
  | (apply EvV.fb; wtm_at "evv")
  | (apply EvV.fn; wtm_at "evv")
  | (apply ev_call; wtm_at "eva"; wtm_at "rr")
  | (apply ev_callW; wtm_at "evaw"; wtm_at "rr"; wtm_at "sd")
  | (apply EvO.fixL; wtm_at "evo"))
/-! an owned list, a dict -/
local macro_rules | `(tactic| wtm_at "evo") => `(tactic| first
  | (apply ev_lst; wtm_at "eva"; wtm_at "sd")
  | exact ev_newK | exact ev_newT
  | (apply ev_listL; wtm_at "evl")
  | (apply ev_listT; wtm_at "evf")
  | (apply ev_dict; wtm_at "evk")
  | (apply ev_addL; wtm_at "evl"; wtm_at "evl"; wtm_at "sd")
  | (apply ev_slL; wtm_at "evl"; wtm_at "evp"; wtm_at "evp")
  | (apply ev_call; wtm_at "eva"; wtm_at "rr")
  | (apply ev_callW; wtm_at "evaw"; wtm_at "rr"; wtm_at "sd"))
local macro_rules | `(tactic| wtm_at "evv") => `(tactic| first
  | exact evv_c
  | exact evv_int rfl
  | exact evv_str rfl
  | exact evv_bl rfl
  | exact evv_non rfl
  | (apply ev_add; wtm_at "evv"; wtm_at "evv")
  | (apply ev_cat; wtm_at "evv"; wtm_at "evv"; wtm_at "sd")
  | (apply ev_sub; wtm_at "evv"; wtm_at "evv")
  | (apply ev_mul; wtm_at "evv"; wtm_at "evv"; wtm_at "mu")
  | (apply ev_div; wtm_at "evv"; wtm_at "evv"; wtm_at "sd")
  | (apply ev_mod; wtm_at "evv"; wtm_at "evv"; wtm_at "sd")
  | (apply ev_neg; wtm_at "evv")
  | (apply ev_lt; wtm_at "evv"; wtm_at "evv")
  | (apply ev_le; wtm_at "evv"; wtm_at "evv")
  | (apply ev_gt; wtm_at "evv"; wtm_at "evv")
  | (apply ev_ge; wtm_at "evv"; wtm_at "evv")
  | (apply ev_eqi; wtm_at "evv"; wtm_at "evv")
  | (apply ev_eqs; wtm_at "evv"; wtm_at "evv")
  | (apply ev_nei; wtm_at "evv"; wtm_at "evv")
  | (apply ev_nes; wtm_at "evv"; wtm_at "evv")
  | (apply ev_eqb; wtm_at "evv"; wtm_at "evv")
  | (apply ev_neb; wtm_at "evv"; wtm_at "evv")
  | (apply ev_min; wtm_at "evv"; wtm_at "evv")
  | (apply ev_max; wtm_at "evv"; wtm_at "evv")
  | (apply ev_intb; wtm_at "evv")
  | (apply ev_lens; wtm_at "evv"; wtm_at "sd")
  | (apply ev_lenR; wtm_at "evw")
  | (apply ev_lenW; wtm_at "evw")
  | (apply ev_lenT; wtm_at "evw")
  | (apply ev_ixR; wtm_at "evf"; wtm_at "evv"; wtm_at "ix")
  | (apply ev_ixS; wtm_at "evv"; wtm_at "evv"; wtm_at "sd"; wtm_at "ix")
  | (apply ev_slS; wtm_at "evv"; wtm_at "sd"; wtm_at "evp"; wtm_at "evp")
  | (apply ev_nis; wtm_at "evv"; wtm_at "evv")
  | (apply ev_ins; wtm_at "evv"; wtm_at "evv")
  | (apply ev_inK; wtm_at "evv"; wtm_at "evk")
  | (apply ev_niK; wtm_at "evv"; wtm_at "evk")
  | (apply ev_andV; wtm_at "evv"; (intro _; wtm_at "evv"))
  | (apply ev_orV; wtm_at "evv"; (intro _; wtm_at "evv"))
  | (apply ev_notV; wtm_at "evv")
  | (apply ev_isN; wtm_at "evw")
  | (apply ev_ntN; wtm_at "evw")
  | (apply ev_isi_lst true; wtm_at "evw"; decide +kernel)
  | (apply ev_isi_lst false; wtm_at "evw"; decide +kernel)
  | (apply ev_isi_tup true; wtm_at "evw"; decide +kernel)
  | (apply ev_isi_tup false; wtm_at "evw"; decide +kernel)
  | (apply ev_isi_str true; wtm_at "evw"; decide +kernel)
  | (apply ev_isi_str false; wtm_at "evw"; decide +kernel)
  | (apply ev_isi_int true; wtm_at "evw"; decide +kernel)
  | (apply ev_isi_int false; wtm_at "evw"; decide +kernel)
  | (apply ev_isi_bl true; wtm_at "evw"; decide +kernel)
  | (apply ev_isi_bl false; wtm_at "evw"; decide +kernel)
  | (apply ev_isi_non true; wtm_at "evw"; decide +kernel)
  | (apply ev_isi_non false; wtm_at "evw"; decide +kernel)
  | (apply ev_isi_dk true; wtm_at "evw"; decide +kernel)
  | (apply ev_isi_dk false; wtm_at "evw"; decide +kernel)
  | (apply EvO.sc; wtm_at "evf1"; exact rfl))
/-! data that is a scalar: what is not made of scalars -/
local macro_rules | `(tactic| wtm_at "evf1") => `(tactic| first
  | (apply ev_ixT; wtm_at "evf"; wtm_at "evv"; wtm_at "ix")
  | (apply ev_ix; wtm_at "evl"; wtm_at "evv"; wtm_at "ix")
  | (apply ev_ixKT; wtm_at "evf"; wtm_at "evv"; wtm_at "ix")
  | (apply ev_get; wtm_at "evk"; wtm_at "evv"; wtm_at "evf")
  | (apply ev_call; wtm_at "eva"; wtm_at "rr")
  | (apply ev_callW; wtm_at "evaw"; wtm_at "rr"; wtm_at "sd"))
local macro_rules | `(tactic| wtm_at "mu") => `(tactic| first
  | assumption
  | (apply mul_ok_l; omega)
  | (apply mul_ok_r; omega))
local macro_rules | `(tactic| wtm_at "evt") => `(tactic| first
  | exact et_yes
  | (apply et_v; wtm_at "evv")
  | (apply et_b; wtm_at "evv")
  | (apply et_and; wtm_at "evt"; (intro _; wtm_at "evt"))
  | (apply et_or; wtm_at "evt"; (intro _; wtm_at "evt"))
  | (apply et_not; wtm_at "evt"))
/-! a name gets a value, and what follows -/
local macro_rules | `(tactic| wtm_at "ev") => `(tactic| first | wtm_at "evf" | wtm_at "evo")
local macro_rules | `(tactic| wtm_at "rr") => `(tactic| exact ⟨_, _, rfl, (by omega), rfl⟩)
local macro_rules | `(tactic| wtm_at "rr") => `(tactic| exact ⟨_, rfl, rfl⟩)
local macro_rules | `(tactic| wtm_at "ix") => `(tactic| exact abc_at (by omega) (by omega))
/-! ### _law_names_by -/
def nameBy (ns : List Int) (many k : Int) : Str :=
  let h := drawn ns 600
  let r := restBy (drawn ns (601 + k * (h % 2)))
  let at' := if (r.length : Int) < h / 2 % 12 then (r.length : Int) else h / 2 % 12
  let z := cutS r none (some at') ++ letter ((h / 24 + k) % 26) ++ cutS r (some at') none
  if 26 < many then letter (k / 26) ++ z else z
def manyBy (ns : List Int) : Int := if drawn ns 4 % 8 = 1 then 1 + drawn ns 4 / 8 % 60 else 1 + drawn ns 0 / 43200 % 5
theorem manyBy_b (ns : List Int) : 1 ≤ manyBy ns ∧ manyBy ns ≤ 60 := by
  unfold manyBy
  split <;> omega
def namesBy (ns : List Int) : List Str := (List.range (manyBy ns).toNat).map fun (k : Nat) => nameBy ns (manyBy ns) k
theorem namesBy_len (ns : List Int) : ((namesBy ns).length : Int) = manyBy ns := by
  unfold namesBy
  rw [List.length_map, List.length_range]
  have := manyBy_b ns
  omega
theorem sOk_nameBy (ns : List Int) (many : Int) (k : Nat) (hk : k < 60) : sOk (nameBy ns many k) := by
  have h := sOk_restBy (drawn ns (601 + k * (drawn ns 600 % 2)))
  unfold nameBy
  dsimp only
  split
  · exact sOk_app (sOk_letter (by omega)) (sOk_app (sOk_app (sOk_cut h _ _) (sOk_letter (by omega))) (sOk_cut h _ _))
  · exact sOk_app (sOk_app (sOk_cut h _ _) (sOk_letter (by omega))) (sOk_cut h _ _)
def R__law_names_by : List D → Sl → Prop := fun ds s => ∃ ns : List Int, ds = [.scr ns] ∧ s = .ow ((namesBy ns).map D.str)
def rd__law_names_by (K : PySem.W.Frag) : TS :=
  (tSeq (tAsg (tC (.str "abcdefghijklmnopqrstuvwxyz")) (gName 1))
    (tSeq (tAsg (tOp (rAddX K) (tC (.int 1)) (tOp rModX (tOp rDivX (tCall (spF K R__law_drawn) [] E0 (tCons (tVar 0) (tCons (tC (.int 0)) tNil))) (tC (.int 43200))) (tC (.int 5)))) (gName 2))
    (tSeq (tIfS (tTest (tOp (rEqX K) (tOp rModX (tCall (spF K R__law_drawn) [] E0 (tCons (tVar 0) (tCons (tC (.int 4)) tNil))) (tC (.int 8))) (tC (.int 1)))) (tAsg (tOp (rAddX K) (tC (.int 1)) (tOp rModX (tOp rDivX (tCall (spF K R__law_drawn) [] E0 (tCons (tVar 0) (tCons (tC (.int 4)) tNil))) (tC (.int 8))) (tC (.int 60)))) (gName 2)) tNext)
    (tSeq (tAsg (tCall (spF K R__law_drawn) [] E0 (tCons (tVar 0) (tCons (tC (.int 600)) tNil))) (gName 3))
    (tSeq (tAsg (tLst tNil) (gName 4))
    (tSeq (tFor (iRng1 (tCons (tVar 2) tNil)) (gName 5) (tSeq (tAsg (tCall (spF K R__law_rest_by) [] E0 (tCons (tCall (spF K R__law_drawn) [] E0 (tCons (tVar 0) (tCons (tOp (rAddX K) (tC (.int 601)) (tOp rMulX (tVar 5) (tOp rModX (tVar 3) (tC (.int 2))))) tNil))) (tCons (tC (.int 11)) tNil))) (gName 6))
    (tSeq (tAsg (tCB rMinX (tCons (tOp rModX (tOp rDivX (tVar 3) (tC (.int 2))) (tC (.int 12))) (tCons (tCB (rLenX K) (tCons (tVar 6) tNil)) tNil))) (gName 7))
    (tSeq (tAsg (tOp (rAddX K) (tOp (rAddX K) (tSl (rSlX K) (tVar 6) tNoPart (tPart (tVar 7))) (tOp (rIxX K) (tVar 1) (tOp rModX (tOp (rAddX K) (tOp rDivX (tVar 3) (tC (.int 24))) (tVar 5)) (tC (.int 26))))) (tSl (rSlX K) (tVar 6) (tPart (tVar 7)) tNoPart)) (gName 8))
    (tSeq (tIfS (tTest (tOp rGtX (tVar 2) (tC (.int 26)))) (tAsg (tOp (rAddX K) (tOp (rIxX K) (tVar 1) (tOp rDivX (tVar 5) (tC (.int 26)))) (tVar 8)) (gName 8)) tNext)
    (tDrop (tBM K "list" rAppend (tVar 4) (tCons (tVar 8) tNil))))))))
    (tRet (tVar 4))))))))
theorem sv__law_names_by {K : PySem.W.Frag} : Keeps K R__law_names_by 9 1 (rd__law_names_by K) := by
  rintro ds s ⟨ns, rfl, rfl⟩
  refine ⟨rfl, ?_⟩
  show Sv K (rd__law_names_by K) [.im (.scr ns), .un, .un, .un, .un, .un, .un, .un, .un] _
  unfold rd__law_names_by
  refine q_asg (s := .im (.str abc)) (by wtm_at "ev") ?_
  refine q_asg (s := .im (.int (1 + drawn ns 0 / 43200 % 5))) (by wtm_at "ev") ?_
  refine sv_cut (fun Γ => Γ = [.im (.scr ns), .im (.str abc), .im (.int (manyBy ns)), .un, .un, .un, .un, .un, .un]) ?_ ?_
  · refine sv_if (b := decide (drawn ns 4 % 8 = 1)) (by wtm_at "evt") (fun h => ?_) (fun h => ?_)
    · have h := of_decide_eq_true h
      refine sv_asg (s := .im (.int (1 + drawn ns 4 / 8 % 60))) (by wtm_at "ev") ?_
      have e : manyBy ns = 1 + drawn ns 4 / 8 % 60 := if_pos h
      rw [e]
      rfl
    · have h := of_decide_eq_false h
      have e : manyBy ns = 1 + drawn ns 0 / 43200 % 5 := if_neg h
      refine sv_next ?_
      rw [e]
      rfl
  rintro Γ' rfl
  refine q_asg (s := .im (.int (drawn ns 600))) (by wtm_at "ev") ?_
  refine q_asg (s := .ow []) (by wtm_at "ev") ?_
  have hm := manyBy_b ns
  have hd := drawn_b ns 600
  have hn : ((manyBy ns).toNat : Int) = manyBy ns := by omega
  refine sv_seq (sv_forR (n := (manyBy ns).toNat) (fun i Γ => ∃ x1 x2 x3 x4, Γ = [.im (.scr ns), .im (.str abc), .im (.int (manyBy ns)), .im (.int (drawn ns 600)), .ow (((List.range i).map fun (k : Nat) => nameBy ns (manyBy ns) k).map D.str), x1, x2, x3, x4])
    (by rw [hn]; wtm_at "evav") (by omega) ⟨_, _, _, _, rfl⟩ (fun i Γ' hi hG => ?_) (fun Γ' hG => ?_))
  · obtain ⟨x1, x2, x3, x4, rfl⟩ := hG
    have hk : (i : Int) < 60 := by omega
    have hb : 0 ≤ (i : Int) * (drawn ns 600 % 2) ∧ (i : Int) * (drawn ns 600 % 2) < 60 := by
      rcases Int.emod_two_eq (drawn ns 600) with e | e <;> rw [e] <;> omega
    refine q_asg (s := .im (.str (restBy (drawn ns (601 + i * (drawn ns 600 % 2)))))) (by wtm_at "ev") ?_
    have hr := restBy_le (drawn ns (601 + i * (drawn ns 600 % 2)))
    have hw : nameBy ns (manyBy ns) i = nameBy ns (manyBy ns) i := rfl
    conv at hw => rhs; unfold nameBy
    dsimp only at hw
    generalize restBy (drawn ns (601 + i * (drawn ns 600 % 2))) = r at hr hw
    refine q_asg (s := .im (.int (if (r.length : Int) < drawn ns 600 / 2 % 12 then (r.length : Int) else drawn ns 600 / 2 % 12))) (by wtm_at "ev") ?_
    generalize (if (r.length : Int) < drawn ns 600 / 2 % 12 then (r.length : Int) else drawn ns 600 / 2 % 12) = at' at hw
    have c1 := cutS_le r none (some at')
    have c3 := cutS_le r (some at') none
    have l1 := letter_len ((drawn ns 600 / 24 + i) % 26)
    have l2 := letter_len ((i : Int) / 26)
    have hl : (cutS r none (some at') ++ letter ((drawn ns 600 / 24 + i) % 26) ++ cutS r (some at') none).length ≤ 21 := by rw [len_app, len_app]; omega
    refine q_asg (s := .im (.str (cutS r none (some at') ++ letter ((drawn ns 600 / 24 + i) % 26) ++ cutS r (some at') none))) ?_ ?_
    · apply EvV.fs
      apply ev_cat
      · apply ev_cat
        · wtm_at "evv"
        · exact ev_ixS (z := abc) (by wtm_at "evv") (by wtm_at "evv") (by rw [abc_len]; omega) (by wtm_at "ix")
        · omega
      · wtm_at "evv"
      · rw [len_app]; omega
    refine sv_cut (fun Γ => ∃ x1 x2, Γ = [.im (.scr ns), .im (.str abc), .im (.int (manyBy ns)), .im (.int (drawn ns 600)), .ow (((List.range i).map fun (k : Nat) => nameBy ns (manyBy ns) k).map D.str), .im (.int i), x1, x2, .im (.str (nameBy ns (manyBy ns) i))]) ?_ ?_
    · refine sv_if (b := decide (26 < manyBy ns)) (by wtm_at "evt") (fun h => ?_) (fun h => ?_)
      · rw [if_pos (of_decide_eq_true h)] at hw
        rw [hw]
        refine sv_asg (s := .im (.str _)) ?_ ⟨_, _, rfl⟩
        apply EvV.fs
        apply ev_cat
        · exact ev_ixS (z := abc) (by wtm_at "evv") (by wtm_at "evv") (by rw [abc_len]; omega) (by wtm_at "ix")
        · wtm_at "evv"
        · rw [l2]; omega
      · rw [if_neg (of_decide_eq_false h)] at hw
        rw [hw]
        exact sv_next ⟨_, _, rfl⟩
    rintro Γ' ⟨x1, x2, rfl⟩
    refine sv_app rfl (d := .str (nameBy ns (manyBy ns) i)) (by wtm_at "evf") (by simp; omega) ⟨.im (.int i), x1, x2, .im (.str (nameBy ns (manyBy ns) i)), ?_⟩
    rw [List.range_succ, List.map_append, List.map_append]
    rfl
  · obtain ⟨x1, x2, x3, x4, rfl⟩ := hG
    exact sv_retL rfl rfl
/-! ### _law_row_by -/
theorem at_str {ns : List Str} {i m : Int} (hm : (ns.length : Int) = m) (h0 : 0 < m) : atI (ns.map D.str) (i % m) = some (.str (ns.getD (i % m).toNat "")) := by
  have a := Int.emod_nonneg i (show m ≠ 0 by omega)
  have b := Int.emod_lt_of_pos i h0
  rw [atI_nn a (by rw [List.length_map]; omega), List.getD_eq_getElem?_getD, List.getElem?_eq_getElem (by omega), List.getElem_map]
  rfl
def pickS (names : List Str) (i : Int) : Str := names.getD (i % names.length).toNat ""
theorem pickS_mem {names : List Str} (h : names ≠ []) (i : Int) : pickS names i ∈ names := by
  have h0 : 0 < names.length := List.length_pos_iff.mpr h
  have a := Int.emod_nonneg i (show (names.length : Int) ≠ 0 by omega)
  have b := Int.emod_lt_of_pos i (show (0 : Int) < names.length by omega)
  unfold pickS
  rw [List.getD_eq_getElem?_getD, List.getElem?_eq_getElem (by omega)]
  exact List.getElem_mem _
theorem at_pick {ns : List Str} (h : ns ≠ []) (i : Int) : atI (ns.map D.str) (i % ((ns.map D.str).length : Int)) = some (.str (pickS ns i)) := by
  have h0 : 0 < ns.length := List.length_pos_iff.mpr h
  rw [List.length_map]
  exact at_str rfl (by omega)
def rowBy (c : Int) (names : List Str) (sg : Str) : Row :=
  if c % 3 = 0 then .tell (pickS names (c / 3)) else
    let d := c / 3 / names.length
    .make (pickS names (c / 3)) sg ([pickS names (d / 3), pickS names (d / 3 / names.length)].take (d % 3).toNat)
def R__law_row_by : List D → Sl → Prop := fun ds s => ∃ (c : Int) (names : List Str) (sg : Str), ds = [.int c, .lst (names.map D.str), .str sg] ∧ (names ≠ [] ∧ names.length ≤ 60) ∧ s = .im (en (rowBy c names sg))
def rd__law_row_by (K : PySem.W.Frag) : TS :=
  (tSeq (tAsg (tCB (rLenX K) (tCons (tVar 1) tNil)) (gName 3))
    (tSeq (tAsg (tOp (rIxX K) (tVar 1) (tOp rModX (tOp rDivX (tVar 0) (tC (.int 3))) (tVar 3))) (gName 4))
    (tSeq (tIfS (tTest (tOp (rEqX K) (tOp rModX (tVar 0) (tC (.int 3))) (tC (.int 0)))) (tRet (tTup (tCons (tC (.str "tell")) (tCons (tVar 4) tNil)))) tNext)
    (tSeq (tAsg (tOp rDivX (tOp rDivX (tVar 0) (tC (.int 3))) (tVar 3)) (gName 0))
    (tSeq (tAsg (tLst (tCons (tOp (rIxX K) (tVar 1) (tOp rModX (tOp rDivX (tVar 0) (tC (.int 3))) (tVar 3))) (tCons (tOp (rIxX K) (tVar 1) (tOp rModX (tOp rDivX (tOp rDivX (tVar 0) (tC (.int 3))) (tVar 3)) (tVar 3))) tNil))) (gName 5))
    (tRet (tTup (tCons (tC (.str "make")) (tCons (tVar 4) (tCons (tVar 2) (tCons (tCB (rTupX K) (tCons (tSl (rSlX K) (tVar 5) tNoPart (tPart (tOp rModX (tVar 0) (tC (.int 3))))) tNil)) tNil)))))))))))
theorem sv__law_row_by {K : PySem.W.Frag} : Keeps K R__law_row_by 6 3 (rd__law_row_by K) := by
  rintro ds s ⟨c, names, sg, rfl, hn, rfl⟩
  refine ⟨rfl, ?_⟩
  show Sv K (rd__law_row_by K) [.im (.int c), .im (.lst (names.map D.str)), .im (.str sg), .un, .un, .un] _
  unfold rd__law_row_by
  have h0 : 0 < names.length := List.length_pos_iff.mpr hn.1
  have h0' : (0 : Int) < names.length := by omega
  have h1 : (names.length : Int) ≤ 60 := by omega
  have hx : ∀ i : Int, atI (names.map D.str) (i % names.length) = some (.str (pickS names i)) := fun i => at_str rfl h0'
  refine q_asg (s := .im (.int names.length)) ((show EvO K _ _ (.im (.int (names.map D.str).length)) by wtm_at "ev").to (by rw [List.length_map])) ?_
  refine q_asg (s := .im (.str (pickS names (c / 3)))) (ev_ix (by wtm_at "evl") (by wtm_at "evv") (hx _)) ?_
  refine q_when (b := decide (c % 3 = 0)) (by wtm_at "evt") (fun h => ?_) (fun h => ?_)
  · refine sv_ret (s := .im (D.tup [.str "tell", .str (pickS names (c / 3))])) (by wtm_at "ev") ?_
    show _ = _
    unfold rowBy
    rw [if_pos (of_decide_eq_true h)]
    rfl
  · refine q_asg (s := .im (.int (c / 3 / names.length))) (by wtm_at "ev") ?_
    have e : rowBy c names sg = _ := if_neg (of_decide_eq_false h)
    rw [e]
    dsimp only
    generalize c / 3 / names.length = d
    refine q_asg (s := .ow [.str (pickS names (d / 3)), .str (pickS names (d / 3 / names.length))]) (ev_lst (ea_cons (ev_ix (by wtm_at "evl") (by wtm_at "evv") (hx _)) (ea_cons (ev_ix (by wtm_at "evl") (by wtm_at "evv") (hx _)) ea_nil)) (by wtm_at "sd")) ?_
    have hd : ∃ m : Nat, d % 3 = m := ⟨(d % 3).toNat, by omega⟩
    obtain ⟨m, hm⟩ := hd
    refine sv_ret (s := .im (D.tup [.str "make", .str (pickS names (c / 3)), .str sg, .tup (cutD [.str (pickS names (d / 3)), .str (pickS names (d / 3 / names.length))] none (some (d % 3)))])) ?_ ?_
    · refine ev_tup (ea_cons (by wtm_at "evf") (ea_cons (by wtm_at "evf") (ea_cons (by wtm_at "evf") (ea_cons (ev_tupL (EvO.ll (ev_slL (by wtm_at "evl") (by wtm_at "evp") (by wtm_at "evp")))) ea_nil)))) (by wtm_at "sd")
    · show Sl.im _ = Sl.im _
      congr 1
      show D.tup _ = D.tup _
      congr 4
      rw [hm]
      congr 2
      show ((_ : List D).drop (HT.sIx _ 0 none)).take _ = _
      rw [HT.sIx_none, HT.sIx_nat, List.map_take, show ((m : Nat) : Int).toNat = m by omega]
      simp
end Sf

namespace Sf
open PySem PySem.Spec PyProof.Rows L2
/-! short words for evaluation: each closes its goal or fails -/
local macro_rules | `(tactic| wtm_at "sd") => `(tactic| first | assumption | exact trivial | omega | ((with_reducible show List.length _ ≤ _); simp only [List.length_cons, List.length_nil]; omega) | decide | rfl | ((with_reducible show sOk _); (show PyData.strOk _ = true); decide +kernel))
local macro_rules | `(tactic| wtm_at "ix") => `(tactic| first | assumption | exact rfl)
local macro_rules | `(tactic| wtm_at "rr") => `(tactic| assumption)
local macro_rules | `(tactic| wtm_at "evp") => `(tactic| first | exact ep_none | (apply ep_some; wtm_at "evv"))
local macro_rules | `(tactic| wtm_at "evav") => `(tactic| first | exact eav_nil | (apply eav_cons; wtm_at "evv"; wtm_at "evav"))
local macro_rules | `(tactic| wtm_at "eva") => `(tactic| first | exact ea_nil | (apply ea_cons; wtm_at "evf"; wtm_at "eva"))
local macro_rules | `(tactic| wtm_at "evaw") => `(tactic| first | exact eaw_nil | (apply eaw_cons; wtm_at "evw"; wtm_at "evaw"))
local macro_rules | `(tactic| wtm_at "evl") => `(tactic| first | exact evl_var rfl | (apply EvO.l; wtm_at "evf") | (apply EvO.ll; wtm_at "evo"))
local macro_rules | `(tactic| wtm_at "evk") => `(tactic| first | exact evk_var rfl | (apply EvO.k; wtm_at "evf"))
local macro_rules | `(tactic| wtm_at "evm") => `(tactic| first | exact evm_var rfl | (apply EvO.m; wtm_at "evf"))
local macro_rules | `(tactic| wtm_at "evw") => `(tactic| first
  | exact EvL.w (evl_var rfl) | exact EvK.w (evk_var rfl) | exact EvM.w (evm_var rfl)
  | (apply EvO.w; wtm_at "evf")
  | (apply EvL.w; wtm_at "evl"))
/-! what a slot may hold: fixed data -/
local macro_rules | `(tactic| wtm_at "evf") => `(tactic| first
  | exact evf_var rfl
  | (apply ev_ixT; wtm_at "evf"; wtm_at "evv"; wtm_at "ix")
  | (apply ev_ix; wtm_at "evl"; wtm_at "evv"; wtm_at "ix")
  | (apply ev_tup; wtm_at "eva"; wtm_at "sd")
  | (apply EvV.fi; wtm_at "evv")
  | (apply EvV.fs; wtm_at "evv")
  | (apply EvV.fb; wtm_at "evv")
  | (apply EvV.fn; wtm_at "evv")
  | (apply ev_call; wtm_at "eva"; wtm_at "rr")
  | (apply ev_callW; wtm_at "evaw"; wtm_at "rr"; wtm_at "sd")
  | (apply EvO.fixL; wtm_at "evo"))
/-! an owned list, a dict -/
local macro_rules | `(tactic| wtm_at "evo") => `(tactic| first
  | (apply ev_lst; wtm_at "eva"; wtm_at "sd")
  | exact ev_newK | exact ev_newT
  | (apply ev_listL; wtm_at "evl")
  | (apply ev_listT; wtm_at "evf")
  | (apply ev_dict; wtm_at "evk")
  | (apply ev_addL; wtm_at "evl"; wtm_at "evl"; wtm_at "sd")
  | (apply ev_slL; wtm_at "evl"; wtm_at "evp"; wtm_at "evp")
  | (apply ev_call; wtm_at "eva"; wtm_at "rr")
  | (apply ev_callW; wtm_at "evaw"; wtm_at "rr"; wtm_at "sd"))
local macro_rules | `(tactic| wtm_at "evv") => `(tactic| first
  | exact evv_c
  | exact evv_int rfl
  | exact evv_str rfl
  | exact evv_bl rfl
  | exact evv_non rfl
  | (apply ev_add; wtm_at "evv"; wtm_at "evv")
  | (apply ev_cat; wtm_at "evv"; wtm_at "evv"; wtm_at "sd")
  | (apply ev_sub; wtm_at "evv"; wtm_at "evv")
  | (apply ev_mul; wtm_at "evv"; wtm_at "evv"; wtm_at "mu")
  | (apply ev_div; wtm_at "evv"; wtm_at "evv"; wtm_at "sd")
  | (apply ev_mod; wtm_at "evv"; wtm_at "evv"; wtm_at "sd")
  | (apply ev_neg; wtm_at "evv")
  | (apply ev_lt; wtm_at "evv"; wtm_at "evv")
  | (apply ev_le; wtm_at "evv"; wtm_at "evv")
  | (apply ev_gt; wtm_at "evv"; wtm_at "evv")
  | (apply ev_ge; wtm_at "evv"; wtm_at "evv")
  | (apply ev_eqi; wtm_at "evv"; wtm_at "evv")
  | (apply ev_eqs; wtm_at "evv"; wtm_at "evv")
  | (apply ev_nei; wtm_at "evv"; wtm_at "evv")
  | (apply ev_nes; wtm_at "evv"; wtm_at "evv")
  | (apply ev_eqb; wtm_at "evv"; wtm_at "evv")
  | (apply ev_neb; wtm_at "evv"; wtm_at "evv")
  | (apply ev_min; wtm_at "evv"; wtm_at "evv")
  | (apply ev_max; wtm_at "evv"; wtm_at "evv")
  | (apply ev_intb; wtm_at "evv")
  | (apply ev_lens; wtm_at "evv"; wtm_at "sd")
  | (apply ev_lenR; wtm_at "evw")
  | (apply ev_lenW; wtm_at "evw")
  | (apply ev_lenT; wtm_at "evw")
  | (apply ev_ixR; wtm_at "evf"; wtm_at "evv"; wtm_at "ix")
  | (apply ev_ixS; wtm_at "evv"; wtm_at "evv"; wtm_at "sd"; wtm_at "ix")
  | (apply ev_slS; wtm_at "evv"; wtm_at "sd"; wtm_at "evp"; wtm_at "evp")
  | (apply ev_nis; wtm_at "evv"; wtm_at "evv")
  | (apply ev_ins; wtm_at "evv"; wtm_at "evv")
  | (apply ev_inK; wtm_at "evv"; wtm_at "evk")
  | (apply ev_niK; wtm_at "evv"; wtm_at "evk")
  | (apply ev_andV; wtm_at "evv"; (intro _; wtm_at "evv"))
  | (apply ev_orV; wtm_at "evv"; (intro _; wtm_at "evv"))
  | (apply ev_notV; wtm_at "evv")
  | (apply ev_isN; wtm_at "evw")
  | (apply ev_ntN; wtm_at "evw")
  | (apply ev_isi_lst true; wtm_at "evw"; decide +kernel)
  | (apply ev_isi_lst false; wtm_at "evw"; decide +kernel)
  | (apply ev_isi_tup true; wtm_at "evw"; decide +kernel)
  | (apply ev_isi_tup false; wtm_at "evw"; decide +kernel)
  | (apply ev_isi_str true; wtm_at "evw"; decide +kernel)
  | (apply ev_isi_str false; wtm_at "evw"; decide +kernel)
  | (apply ev_isi_int true; wtm_at "evw"; decide +kernel)
  | (apply ev_isi_int false; wtm_at "evw"; decide +kernel)
  | (apply ev_isi_bl true; wtm_at "evw"; decide +kernel)
  | (apply ev_isi_bl false; wtm_at "evw"; decide +kernel)
  | (apply ev_isi_non true; wtm_at "evw"; decide +kernel)
  | (apply ev_isi_non false; wtm_at "evw"; decide +kernel)
  | (apply ev_isi_dk true; wtm_at "evw"; decide +kernel)
  | (apply ev_isi_dk false; wtm_at "evw"; decide +kernel)
  | (apply EvO.sc; wtm_at "evf1"; exact rfl))
/-! data that is a scalar: what is not made of scalars -/
local macro_rules | `(tactic| wtm_at "evf1") => `(tactic| first
  | (apply ev_ixT; wtm_at "evf"; wtm_at "evv"; wtm_at "ix")
  | (apply ev_ix; wtm_at "evl"; wtm_at "evv"; wtm_at "ix")
  | (apply ev_ixKT; wtm_at "evf"; wtm_at "evv"; wtm_at "ix")
  | (apply ev_get; wtm_at "evk"; wtm_at "evv"; wtm_at "evf")
  | (apply ev_call; wtm_at "eva"; wtm_at "rr")
  | (apply ev_callW; wtm_at "evaw"; wtm_at "rr"; wtm_at "sd"))
local macro_rules | `(tactic| wtm_at "mu") => `(tactic| first
  | assumption
  | (apply mul_ok_l; omega)
  | (apply mul_ok_r; omega))
local macro_rules | `(tactic| wtm_at "evt") => `(tactic| first
  | exact et_yes
  | (apply et_v; wtm_at "evv")
  | (apply et_b; wtm_at "evv")
  | (apply et_and; wtm_at "evt"; (intro _; wtm_at "evt"))
  | (apply et_or; wtm_at "evt"; (intro _; wtm_at "evt"))
  | (apply et_not; wtm_at "evt"))
/-! a name gets a value, and what follows -/
local macro_rules | `(tactic| wtm_at "ev") => `(tactic| first | wtm_at "evf" | wtm_at "evo")
/-! ### names held in a dict -/
def enH (hs : List Str) : List (Key × D) := hs.map fun s => ((.inr s : Key), D.bl true)
def addS (hs : List Str) (s : Str) : List Str := if s ∈ hs then hs else hs ++ [s]
theorem any_enH (hs : List Str) (s : Str) : ((enH hs).any fun kv => decide (kv.1 = (.inr s : Key))) = decide (s ∈ hs) := by
  induction hs with
  | nil => rfl
  | cons x r ih =>
    show (decide ((Sum.inr x : Key) = .inr s) || (enH r).any _) = _
    rw [ih]
    by_cases h : x = s
    · subst h; simp
    · have : ¬ s = x := fun z => h z.symm
      simp [h, this]
theorem putH (hs : List Str) (s : Str) : putD (enH hs) (.inr s) (.bl true) = enH (addS hs s) := by
  unfold putD addS
  rw [any_enH]
  by_cases h : s ∈ hs
  · rw [if_pos (by simpa using h), if_pos h]
    unfold enH
    rw [List.map_map]
    refine List.map_congr_left fun x _ => ?_
    show (if ((Sum.inr x : Key), D.bl true).1 = .inr s then _ else _) = _
    split <;> rfl
  · rw [if_neg (by simpa using h), if_neg h]
    unfold enH
    rw [List.map_append]
    rfl
theorem dropH (hs : List Str) (s : Str) : dropD (enH hs) (.inr s) = enH (hs.filter fun x => decide (x ≠ s)) := by
  unfold dropD enH
  rw [List.filter_map]
  congr 1
  refine List.filter_congr fun x _ => ?_
  show decide ((Sum.inr x : Key) ≠ .inr s) = _
  by_cases h : x = s <;> simp [h]
theorem inH (hs : List Str) (s : Str) : (vD (enH hs) (.inr s)).isSome = decide (s ∈ hs) := by rw [← any_enH, vD_any]
theorem vH {hs : List Str} {s : Str} (h : s ∈ hs) : vD (enH hs) (.inr s) = some (.bl true) := by
  induction hs with
  | nil => cases h
  | cons x r ih =>
    show vD ((.inr x, .bl true) :: enH r) _ = _
    rw [vD_cons]
    by_cases e : x = s
    · simp [e]
    · rw [if_neg (by simpa using e)]
      exact ih (List.mem_of_ne_of_mem (fun z => e z.symm) h)
/-! held names are of a pool, each once -/
structure Hin (pool hs : List Str) : Prop where
  nd : hs.Nodup
  mem : ∀ x ∈ hs, x ∈ pool
theorem nd_le {α : Type} [DecidableEq α] : ∀ {l m : List α}, l.Nodup → (∀ x ∈ l, x ∈ m) → l.length ≤ m.length
  | [], _, _, _ => Nat.zero_le _
  | x :: r, m, h, k => by
    have hx := k x List.mem_cons_self
    have h' := List.nodup_cons.mp h
    have ih := nd_le (l := r) (m := m.erase x) h'.2 fun y hy => (List.mem_erase_of_ne (fun e : y = x => h'.1 (by rw [← e]; exact hy))).mpr (k y (List.mem_cons_of_mem _ hy))
    rw [List.length_erase_of_mem hx] at ih
    have : 0 < m.length := List.length_pos_of_mem hx
    rw [List.length_cons]
    omega
theorem Hin.le {pool hs : List Str} (h : Hin pool hs) : hs.length ≤ pool.length := nd_le h.nd h.mem
theorem Hin.nil {pool : List Str} : Hin pool [] := ⟨.nil, fun _ h => nomatch h⟩
theorem Hin.add {pool hs : List Str} (h : Hin pool hs) {s : Str} (hs' : s ∈ pool) : Hin pool (addS hs s) := by
  unfold addS
  split
  · exact h
  · rename_i hn
    refine ⟨?_, fun x hx => ?_⟩
    · rw [List.nodup_append]
      exact ⟨h.nd, by simp, fun a ha b hb => by
        rw [List.mem_singleton.mp hb]
        rintro rfl
        exact hn ha⟩
    · rcases List.mem_append.mp hx with hx | hx
      · exact h.mem x hx
      · rw [List.mem_singleton.mp hx]; exact hs'
theorem Hin.adds {pool : List Str} : ∀ {ss hs : List Str}, Hin pool hs → (∀ x ∈ ss, x ∈ pool) → Hin pool (ss.foldl addS hs)
  | [], _, h, _ => h
  | s :: r, hs, h, k => Hin.adds (ss := r) (hs := addS hs s) (h.add (k s List.mem_cons_self)) fun x hx => k x (List.mem_cons_of_mem _ hx)
theorem Hin.drop {pool hs : List Str} (h : Hin pool hs) (s : Str) : Hin pool (hs.filter fun x => decide (x ≠ s)) := ⟨h.nd.filter _, fun x hx => h.mem x (List.mem_filter.mp hx).1⟩
theorem adds_take (ss hs : List Str) (k : Nat) {s : Str} (h : ss[k]? = some s) : (ss.take (k + 1)).foldl addS hs = addS ((ss.take k).foldl addS hs) s := by
  rw [List.take_add_one, h, List.foldl_append]
  rfl
section
variable {K : PySem.W.Frag} {Γ : List Sl} {D : EG}
theorem set3 {α : Type} (l : List α) {i j : Nat} (hne : i ≠ j) (x y z w : α) : (((l.set j x).set i y).set j z).set i w = (l.set j z).set i w := by
  rw [List.set_comm _ _ hne, List.set_set, List.set_set]
theorem set_at {α : Type} {l : List α} {i : Nat} {x : α} (h : l[i]? = some x) : l.set i x = l := by
  obtain ⟨hi, rfl⟩ := List.getElem?_eq_some_iff.mp h
  exact List.set_getElem_self hi
theorem get_set {α : Type} {l : List α} {i : Nat} {x y : α} (h : l[i]? = some x) : (l.set i y)[i]? = some y := by
  obtain ⟨hi, _⟩ := List.getElem?_eq_some_iff.mp h
  rw [List.getElem?_set_self hi]
theorem hold_body {i j : Nat} {hs : List Str} {s : Str} (hne : i ≠ j) {s0 x : Sl} (hi : Γ[i]? = some (.ok (enH hs))) {ks : List (Key × Sf.D)} (hj : Γ[j]? = some s0) (hz : hs.length < 100000) (k : D.nx ((Γ.set j (.im (.str s))).set i (.ok (enH (addS hs s))))) :
    Sv K (tAsg (tC (.bl true)) (gSub (tVar i) (tVar j) rSetX)) (((Γ.set j x).set i (.ok (enH hs))).set j (.im (.str s))) D := by
  refine sv_putK (i := i) (kk := .inr s) (kvs := enH hs) (d := .bl true) ?_ (by wtm_at "evf") (evv_str ?_) (by unfold enH; rw [List.length_map]; exact hz) ?_
  · rw [List.getElem?_set_ne (fun e => hne e.symm)]
    refine get_set (x := .ok (enH hs)) ?_
    rw [List.getElem?_set_ne (fun e => hne e.symm)]
    exact hi
  · refine get_set (x := x) ?_
    rw [List.getElem?_set_ne hne]
    exact get_set hj
  · rw [putH, set3 _ hne]
    exact k
theorem set_i {α : Type} {l : List α} {i j : Nat} (hne : i ≠ j) {y : α} (hi : l[i]? = some y) (x : α) (y' : α) : ((l.set j x).set i y')[i]? = some y' := get_set (x := y) (by rw [List.getElem?_set_ne (fun e => hne e.symm)]; exact hi)
theorem sv_holdL {i j : Nat} {hs ss : List Str} {tl : TE} {s0 : Sl} (hne : i ≠ j) (hi : Γ[i]? = some (.ok (enH hs))) (hj : Γ[j]? = some s0) (h : EvF K tl Γ (.lst (ss.map Sf.D.str))) (hz : ∀ k, ((ss.take k).foldl addS hs).length < 100000)
    (k : ∀ x, D.nx ((Γ.set j x).set i (.ok (enH (ss.foldl addS hs))))) : Sv K (tFor (iX K tl) (gName j) (tAsg (tC (.bl true)) (gSub (tVar i) (tVar j) rSetX))) Γ D := by
  refine sv_forL (ds := ss.map Sf.D.str) (fun n Γ' => ∃ x, Γ' = (Γ.set j x).set i (.ok (enH ((ss.take n).foldl addS hs)))) h ⟨s0, ?_⟩ (fun n d Γ' hd hG => ?_) (fun Γ' hG => ?_)
  · rw [set_at hj]
    exact (set_at hi).symm
  · obtain ⟨x, rfl⟩ := hG
    rw [List.getElem?_map] at hd
    obtain ⟨s, hs', rfl⟩ := Option.map_eq_some_iff.mp hd
    have e := set3 Γ hne x (.ok (enH ((ss.take n).foldl addS hs))) (.im (.str s))
    have b := hold_body (K := K) (Γ := Γ.set i (.ok (enH ((ss.take n).foldl addS hs)))) (i := i) (j := j) (s := s) (x := x) (D := ⟨fun Γ' => ∃ x, Γ' = (Γ.set j x).set i (.ok (enH ((ss.take (n + 1)).foldl addS hs))), D.nx, fun Γ' => ∃ x, Γ' = (Γ.set j x).set i (.ok (enH ((ss.take (n + 1)).foldl addS hs))), D.rt⟩) (ks := []) hne (get_set hi) (by rw [List.getElem?_set_ne hne]; exact hj) (hz n) ⟨.im (.str s), ?_⟩
    · rw [show ((Γ.set i (.ok (enH ((ss.take n).foldl addS hs)))).set j x).set i (.ok (enH ((ss.take n).foldl addS hs))) = (Γ.set j x).set i (.ok (enH ((ss.take n).foldl addS hs))) by rw [List.set_comm _ _ hne, List.set_set]] at b
      exact b
    · rw [adds_take ss hs n hs', List.set_comm _ _ hne, List.set_set]
  · obtain ⟨x, rfl⟩ := hG
    rw [List.length_map, List.take_length]
    exact k x
theorem sv_holdT {i j : Nat} {hs ss : List Str} {tl : TE} {s0 : Sl} (hne : i ≠ j) (hi : Γ[i]? = some (.ok (enH hs))) (hj : Γ[j]? = some s0) (h : EvF K tl Γ (.tup (ss.map Sf.D.str))) (hz : ∀ k, ((ss.take k).foldl addS hs).length < 100000)
    (k : ∀ x, D.nx ((Γ.set j x).set i (.ok (enH (ss.foldl addS hs))))) : Sv K (tFor (iX K tl) (gName j) (tAsg (tC (.bl true)) (gSub (tVar i) (tVar j) rSetX))) Γ D := by
  refine sv_forT (ds := ss.map Sf.D.str) (fun n Γ' => ∃ x, Γ' = (Γ.set j x).set i (.ok (enH ((ss.take n).foldl addS hs)))) h ⟨s0, ?_⟩ (fun n d Γ' hd hG => ?_) (fun Γ' hG => ?_)
  · rw [set_at hj]
    exact (set_at hi).symm
  · obtain ⟨x, rfl⟩ := hG
    rw [List.getElem?_map] at hd
    obtain ⟨s, hs', rfl⟩ := Option.map_eq_some_iff.mp hd
    have b := hold_body (K := K) (Γ := Γ.set i (.ok (enH ((ss.take n).foldl addS hs)))) (i := i) (j := j) (s := s) (x := x) (D := ⟨fun Γ' => ∃ x, Γ' = (Γ.set j x).set i (.ok (enH ((ss.take (n + 1)).foldl addS hs))), D.nx, fun Γ' => ∃ x, Γ' = (Γ.set j x).set i (.ok (enH ((ss.take (n + 1)).foldl addS hs))), D.rt⟩) (ks := []) hne (get_set hi) (by rw [List.getElem?_set_ne hne]; exact hj) (hz n) ⟨.im (.str s), ?_⟩
    · rw [show ((Γ.set i (.ok (enH ((ss.take n).foldl addS hs)))).set j x).set i (.ok (enH ((ss.take n).foldl addS hs))) = (Γ.set j x).set i (.ok (enH ((ss.take n).foldl addS hs))) by rw [List.set_comm _ _ hne, List.set_set]] at b
      exact b
    · rw [adds_take ss hs n hs', List.set_comm _ _ hne, List.set_set]
  · obtain ⟨x, rfl⟩ := hG
    rw [List.length_map, List.take_length]
    exact k x
end
/-! ### going back over rows -/
def stepB (hs : List Str) : Row → List Str
  | .tell s => addS hs s
  | .make s _ rs => if s ∈ hs then rs.foldl addS (hs.filter fun x => decide (x ≠ s)) else hs
theorem stepB_in {hs : List Str} {s g : Str} {rs : List Str} (h : s ∈ hs) : stepB hs (.make s g rs) = rs.foldl addS (hs.filter fun x => decide (x ≠ s)) := if_pos h
theorem stepB_out {hs : List Str} {s g : Str} {rs : List Str} (h : ¬ s ∈ hs) : stepB hs (.make s g rs) = hs := if_neg h
def rowIn (pool : List Str) : Row → Prop
  | .tell s => s ∈ pool
  | .make s _ rs => s ∈ pool ∧ ∀ x ∈ rs, x ∈ pool
theorem Hin.step {pool hs : List Str} (h : Hin pool hs) {r : Row} (hr : rowIn pool r) : Hin pool (stepB hs r) := by
  cases r with
  | tell s => exact h.add hr
  | make s g rs =>
    show Hin pool (if _ then _ else _)
    split
    · exact (h.drop s).adds hr.2
    · exact h
theorem Hin.steps {pool : List Str} : ∀ {rs : List Row} {hs : List Str}, Hin pool hs → (∀ r ∈ rs, rowIn pool r) → Hin pool (rs.foldl stepB hs)
  | [], _, h, _ => h
  | r :: t, hs, h, k => Hin.steps (rs := t) (hs := stepB hs r) (h.step (k r List.mem_cons_self)) fun x hx => k x (List.mem_cons_of_mem _ hx)
def heldS (behind : List Str) : List Str := behind.foldl addS []
def aheadH (rows : List Row) (behind : List Str) : List Str := rows.reverse.foldl stepB (heldS behind)
def aheadL (rows : List Row) (behind : List Str) : List Str := sortS (aheadH rows behind)
/-- rows and names of a small pool -/
structure Small (pool : List Str) (rows : List Row) (behind : List Str) : Prop where
  le : pool.length ≤ 63
  ok : ∀ x ∈ pool, sOk x
  rows : ∀ r ∈ rows, rowIn pool r
  behind : ∀ x ∈ behind, x ∈ pool
theorem Small.hin {pool : List Str} {rows : List Row} {behind : List Str} (h : Small pool rows behind) (i : Nat) : Hin pool ((rows.reverse.take i).foldl stepB (heldS behind)) :=
  (Hin.nil.adds h.behind).steps fun r hr => h.rows r (List.mem_reverse.mp (List.mem_of_mem_take hr))
theorem Small.le' {pool : List Str} {rows : List Row} {behind hs : List Str} (h : Small pool rows behind) (k : Hin pool hs) : hs.length ≤ 63 := Nat.le_trans k.le h.le
theorem steps_take (rows : List Row) (hs : List Str) (k : Nat) {r : Row} (h : rows[k]? = some r) : (rows.take (k + 1)).foldl stepB hs = stepB ((rows.take k).foldl stepB hs) r := by
  rw [List.take_add_one, h, List.foldl_append]
  rfl
section
variable {K : PySem.W.Frag} {Γ : List Sl} {te : TE}
theorem ev_heldlist {hs : List Str} (h : EvK K te Γ (enH hs)) (ok : ∀ x ∈ hs, sOk x) : EvO K (tCB (rListX K) (tCons te tNil)) Γ (.ow (hs.map Sf.D.str)) := (ev_listK h fun p hp => by
  obtain ⟨x, hx, rfl⟩ := List.mem_map.mp hp
  exact ok x hx).to (by unfold enH; rw [List.map_map]; rfl)
theorem ev_sorted {hs : List Str} (h : EvK K te Γ (enH hs)) (ok : ∀ x ∈ hs, sOk x) (h63 : hs.length ≤ 63) : EvO K (tCB (rSortX K) (tCons (tCB (rListX K) (tCons te tNil)) tNil)) Γ (.ow ((sortS hs).map Sf.D.str)) := ev_sortS (EvO.ll (ev_heldlist h ok)) (by omega)
theorem ev_inH {hs : List Str} {s : Str} {ta tb : TE} (ha : EvV K ta Γ (.str s)) (hb : EvK K tb Γ (enH hs)) : EvV K (tOp (rInX K) ta tb) Γ (.bl (decide (s ∈ hs))) := (ev_inK (k := .inr s) ha hb).to (by rw [inH])
theorem ev_niH {hs : List Str} {s : Str} {ta tb : TE} (ha : EvV K ta Γ (.str s)) (hb : EvK K tb Γ (enH hs)) : EvV K (tOp (rNiX K) ta tb) Γ (.bl (!decide (s ∈ hs))) := (ev_niK (k := .inr s) ha hb).to (by rw [inH])
end
theorem len_enH (hs : List Str) : (enH hs).length = hs.length := by unfold enH; rw [List.length_map]
theorem tell_t : decide (("tell" : Str) = "tell") = true := by decide +kernel
theorem tell_f : decide (("make" : Str) = "tell") = false := by decide +kernel
theorem make_t : decide (("make" : Str) = "make") = true := by decide +kernel
theorem make_f : decide (("tell" : Str) = "make") = false := by decide +kernel
def R_ahead : List D → Sl → Prop := fun ds s => ∃ (pool : List Str) (rows : List Row) (behind : List Str), ds = [.lst (rows.map en), .lst (behind.map D.str)] ∧ Small pool rows behind ∧ s = .ow ((aheadL rows behind).map D.str)
def rd_ahead (K : PySem.W.Frag) : TS :=
  (tSeq (tAsg tDNewK (gName 2))
    (tSeq (tFor (iX K (tVar 1)) (gName 3) (tAsg (tC (.bl true)) (gSub (tVar 2) (tVar 3) rSetX)))
    (tSeq (tFor (iRev K (tCons (tVar 0) tNil)) (gName 4) (tIfS (tTest (tOp (rEqX K) (tOp (rIxX K) (tVar 4) (tC (.int 0))) (tC (.str "tell")))) (tAsg (tC (.bl true)) (gSub (tVar 2) (tOp (rIxX K) (tVar 4) (tC (.int 1))) rSetX)) (tIfS (tTest (tOp (rInX K) (tOp (rIxX K) (tVar 4) (tC (.int 1))) (tVar 2))) (tSeq (tDrop (tDPop1 (tVar 2) (tOp (rIxX K) (tVar 4) (tC (.int 1)))))
    (tFor (iX K (tOp (rIxX K) (tVar 4) (tC (.int 3)))) (gName 3) (tAsg (tC (.bl true)) (gSub (tVar 2) (tVar 3) rSetX)))) tNext)))
    (tRet (tCB (rSortX K) (tCons (tCB (rListX K) (tCons (tVar 2) tNil)) tNil))))))
/-- a row's step, as ahead makes it -/
theorem sv_ahead {K : PySem.W.Frag} : Keeps K R_ahead 5 2 (rd_ahead K) := by
  rintro ds s ⟨pool, rows, behind, rfl, hS, rfl⟩
  refine ⟨rfl, ?_⟩
  show Sv K (rd_ahead K) [.im (.lst (rows.map en)), .im (.lst (behind.map D.str)), .un, .un, .un] _
  unfold rd_ahead
  refine q_asg (s := .ok (enH [])) ev_newK ?_
  have hp := hS.le
  refine sv_seq (sv_holdL (hs := []) (ss := behind) (by decide) rfl rfl (by wtm_at "evf") (fun k => ?_) (fun x => ?_))
  · have := (Hin.nil.adds (pool := pool) (ss := behind.take k) fun x hx => hS.behind x (List.mem_of_mem_take hx)).le
    omega
  refine sv_seq (sv_forV (ds := rows.map en) (fun i Γ => ∃ x y, Γ = [.im (.lst (rows.map en)), .im (.lst (behind.map D.str)), .ok (enH ((rows.reverse.take i).foldl stepB (heldS behind))), x, y]) (by wtm_at "eva") ⟨_, _, rfl⟩ (fun i d Γ' hd hG => ?_) (fun Γ' hG => ?_))
  · obtain ⟨x, y, rfl⟩ := hG
    rw [← List.map_reverse, List.getElem?_map] at hd
    obtain ⟨r, hr, rfl⟩ := Option.map_eq_some_iff.mp hd
    have hi := hS.hin i
    have hl := hS.le' hi
    have hri := hS.rows r (List.mem_reverse.mp (List.mem_of_getElem? hr))
    rw [steps_take _ _ _ hr]
    generalize (rows.reverse.take i).foldl stepB (heldS behind) = hs at hi hl
    cases r with
    | tell s =>
      show Sv K _ [.im (.lst (rows.map en)), .im (.lst (behind.map D.str)), .ok (enH hs), x, .im (.tup [.str "tell", .str s])] _
      refine sv_if (b := decide (("tell" : Str) = "tell")) (by wtm_at "evt") (fun _ => ?_) (fun h => by rw [tell_t] at h; cases h)
      refine sv_putK (i := 2) (kk := .inr s) rfl (d := .bl true) (by wtm_at "evf") (show EvV K _ _ (.str s) by wtm_at "evv") (by rw [len_enH]; omega) ?_
      rw [putH]
      exact ⟨x, _, rfl⟩
    | make s g rs =>
      show Sv K _ [.im (.lst (rows.map en)), .im (.lst (behind.map D.str)), .ok (enH hs), x, .im (.tup [.str "make", .str s, .str g, .tup (rs.map D.str)])] _
      refine sv_if (b := decide (("make" : Str) = "tell")) (by wtm_at "evt") (fun h => by rw [tell_f] at h; cases h) (fun _ => ?_)
      refine sv_if (b := decide (s ∈ hs)) (et_v (ev_inH (by wtm_at "evv") (by wtm_at "evk"))) (fun h => ?_) (fun h => ?_)
      · have h := of_decide_eq_true h
        rw [stepB_in h]
        refine sv_seq (sv_popK (i := 2) (kk := .inr s) rfl (show EvV K _ _ (.str s) by wtm_at "evv") (vH h) ?_)
        rw [dropH]
        refine sv_holdT (i := 2) (j := 3) (hs := hs.filter fun x => decide (x ≠ s)) (ss := rs) (by decide) rfl rfl (by wtm_at "evf") (fun k => ?_) (fun x => ?_)
        · have := ((hi.drop s).adds (ss := rs.take k) fun x hx => hri.2 x (List.mem_of_mem_take hx)).le
          omega
        · exact ⟨_, _, rfl⟩
      · rw [stepB_out (of_decide_eq_false h)]
        exact sv_next ⟨_, _, rfl⟩
  · obtain ⟨x, y, rfl⟩ := hG
    rw [List.length_map, show rows.length = rows.reverse.length by rw [List.length_reverse], List.take_length]
    have hi := hS.hin rows.reverse.length
    rw [List.take_length] at hi
    exact sv_ret (ev_sorted (by wtm_at "evk") (fun x hx => hS.ok x (hi.mem x hx)) (hS.le' hi)) rfl
end Sf

namespace Sf
open PySem PySem.Spec PyProof.Rows L2
/-! short words for evaluation: each closes its goal or fails -/
local macro_rules | `(tactic| wtm_at "sd") => `(tactic| first | assumption | exact trivial | omega | ((with_reducible show List.length _ ≤ _); simp only [List.length_cons, List.length_nil]; omega) | decide | rfl | ((with_reducible show sOk _); (show PyData.strOk _ = true); decide +kernel))
local macro_rules | `(tactic| wtm_at "ix") => `(tactic| first | assumption | exact rfl)
local macro_rules | `(tactic| wtm_at "rr") => `(tactic| assumption)
local macro_rules | `(tactic| wtm_at "evp") => `(tactic| first | exact ep_none | (apply ep_some; wtm_at "evv"))
local macro_rules | `(tactic| wtm_at "evav") => `(tactic| first | exact eav_nil | (apply eav_cons; wtm_at "evv"; wtm_at "evav"))
local macro_rules | `(tactic| wtm_at "eva") => `(tactic| first | exact ea_nil | (apply ea_cons; wtm_at "evf"; wtm_at "eva"))
local macro_rules | `(tactic| wtm_at "evaw") => `(tactic| first | exact eaw_nil | (apply eaw_cons; wtm_at "evw"; wtm_at "evaw"))
local macro_rules | `(tactic| wtm_at "evl") => `(tactic| first | exact evl_var rfl | (apply EvO.l; wtm_at "evf") | (apply EvO.ll; wtm_at "evo"))
local macro_rules | `(tactic| wtm_at "evk") => `(tactic| first | exact evk_var rfl | (apply EvO.k; wtm_at "evf"))
local macro_rules | `(tactic| wtm_at "evm") => `(tactic| first | exact evm_var rfl | (apply EvO.m; wtm_at "evf"))
local macro_rules | `(tactic| wtm_at "evw") => `(tactic| first
  | exact EvL.w (evl_var rfl) | exact EvK.w (evk_var rfl) | exact EvM.w (evm_var rfl)
  | (apply EvO.w; wtm_at "evf")
  | (apply EvL.w; wtm_at "evl"))
/-! what a slot may hold: fixed data -/
local macro_rules | `(tactic| wtm_at "evf") => `(tactic| first
  | exact evf_var rfl
  | (apply ev_ixT; wtm_at "evf"; wtm_at "evv"; wtm_at "ix")
  | (apply ev_ix; wtm_at "evl"; wtm_at "evv"; wtm_at "ix")
  | (apply ev_tup; wtm_at "eva"; wtm_at "sd")
  | (apply EvV.fi; wtm_at "evv")
  | (apply EvV.fs; wtm_at "evv")
  | (apply EvV.fb; wtm_at "evv")
  | (apply EvV.fn; wtm_at "evv")
  | (apply ev_call; wtm_at "eva"; wtm_at "rr")
  | (apply ev_callW; wtm_at "evaw"; wtm_at "rr"; wtm_at "sd")
  | (apply EvO.fixL; wtm_at "evo"))
/-! an owned list, a dict -/
local macro_rules | `(tactic| wtm_at "evo") => `(tactic| first
  | (apply ev_lst; wtm_at "eva"; wtm_at "sd")
  | exact ev_newK | exact ev_newT
  | (apply ev_listL; wtm_at "evl")
  | (apply ev_listT; wtm_at "evf")
  | (apply ev_dict; wtm_at "evk")
  | (apply ev_addL; wtm_at "evl"; wtm_at "evl"; wtm_at "sd")
  | (apply ev_slL; wtm_at "evl"; wtm_at "evp"; wtm_at "evp")
  | (apply ev_call; wtm_at "eva"; wtm_at "rr")
  | (apply ev_callW; wtm_at "evaw"; wtm_at "rr"; wtm_at "sd"))
local macro_rules | `(tactic| wtm_at "evv") => `(tactic| first
  | exact evv_c
  | exact evv_int rfl
  | exact evv_str rfl
  | exact evv_bl rfl
  | exact evv_non rfl
  | (apply ev_add; wtm_at "evv"; wtm_at "evv")
  | (apply ev_cat; wtm_at "evv"; wtm_at "evv"; wtm_at "sd")
  | (apply ev_sub; wtm_at "evv"; wtm_at "evv")
  | (apply ev_mul; wtm_at "evv"; wtm_at "evv"; wtm_at "mu")
  | (apply ev_div; wtm_at "evv"; wtm_at "evv"; wtm_at "sd")
  | (apply ev_mod; wtm_at "evv"; wtm_at "evv"; wtm_at "sd")
  | (apply ev_neg; wtm_at "evv")
  | (apply ev_lt; wtm_at "evv"; wtm_at "evv")
  | (apply ev_le; wtm_at "evv"; wtm_at "evv")
  | (apply ev_gt; wtm_at "evv"; wtm_at "evv")
  | (apply ev_ge; wtm_at "evv"; wtm_at "evv")
  | (apply ev_eqi; wtm_at "evv"; wtm_at "evv")
  | (apply ev_eqs; wtm_at "evv"; wtm_at "evv")
  | (apply ev_nei; wtm_at "evv"; wtm_at "evv")
  | (apply ev_nes; wtm_at "evv"; wtm_at "evv")
  | (apply ev_eqb; wtm_at "evv"; wtm_at "evv")
  | (apply ev_neb; wtm_at "evv"; wtm_at "evv")
  | (apply ev_min; wtm_at "evv"; wtm_at "evv")
  | (apply ev_max; wtm_at "evv"; wtm_at "evv")
  | (apply ev_intb; wtm_at "evv")
  | (apply ev_lens; wtm_at "evv"; wtm_at "sd")
  | (apply ev_lenR; wtm_at "evw")
  | (apply ev_lenW; wtm_at "evw")
  | (apply ev_lenT; wtm_at "evw")
  | (apply ev_ixR; wtm_at "evf"; wtm_at "evv"; wtm_at "ix")
  | (apply ev_ixS; wtm_at "evv"; wtm_at "evv"; wtm_at "sd"; wtm_at "ix")
  | (apply ev_slS; wtm_at "evv"; wtm_at "sd"; wtm_at "evp"; wtm_at "evp")
  | (apply ev_nis; wtm_at "evv"; wtm_at "evv")
  | (apply ev_ins; wtm_at "evv"; wtm_at "evv")
  | (apply ev_inK; wtm_at "evv"; wtm_at "evk")
  | (apply ev_niK; wtm_at "evv"; wtm_at "evk")
  | (apply ev_andV; wtm_at "evv"; (intro _; wtm_at "evv"))
  | (apply ev_orV; wtm_at "evv"; (intro _; wtm_at "evv"))
  | (apply ev_notV; wtm_at "evv")
  | (apply ev_isN; wtm_at "evw")
  | (apply ev_ntN; wtm_at "evw")
  | (apply ev_isi_lst true; wtm_at "evw"; decide +kernel)
  | (apply ev_isi_lst false; wtm_at "evw"; decide +kernel)
  | (apply ev_isi_tup true; wtm_at "evw"; decide +kernel)
  | (apply ev_isi_tup false; wtm_at "evw"; decide +kernel)
  | (apply ev_isi_str true; wtm_at "evw"; decide +kernel)
  | (apply ev_isi_str false; wtm_at "evw"; decide +kernel)
  | (apply ev_isi_int true; wtm_at "evw"; decide +kernel)
  | (apply ev_isi_int false; wtm_at "evw"; decide +kernel)
  | (apply ev_isi_bl true; wtm_at "evw"; decide +kernel)
  | (apply ev_isi_bl false; wtm_at "evw"; decide +kernel)
  | (apply ev_isi_non true; wtm_at "evw"; decide +kernel)
  | (apply ev_isi_non false; wtm_at "evw"; decide +kernel)
  | (apply ev_isi_dk true; wtm_at "evw"; decide +kernel)
  | (apply ev_isi_dk false; wtm_at "evw"; decide +kernel)
  | (apply EvO.sc; wtm_at "evf1"; exact rfl))
/-! data that is a scalar: what is not made of scalars -/
local macro_rules | `(tactic| wtm_at "evf1") => `(tactic| first
  | (apply ev_ixT; wtm_at "evf"; wtm_at "evv"; wtm_at "ix")
  | (apply ev_ix; wtm_at "evl"; wtm_at "evv"; wtm_at "ix")
  | (apply ev_ixKT; wtm_at "evf"; wtm_at "evv"; wtm_at "ix")
  | (apply ev_get; wtm_at "evk"; wtm_at "evv"; wtm_at "evf")
  | (apply ev_call; wtm_at "eva"; wtm_at "rr")
  | (apply ev_callW; wtm_at "evaw"; wtm_at "rr"; wtm_at "sd"))
local macro_rules | `(tactic| wtm_at "mu") => `(tactic| first
  | assumption
  | (apply mul_ok_l; omega)
  | (apply mul_ok_r; omega))
local macro_rules | `(tactic| wtm_at "evt") => `(tactic| first
  | exact et_yes
  | (apply et_v; wtm_at "evv")
  | (apply et_b; wtm_at "evv")
  | (apply et_and; wtm_at "evt"; (intro _; wtm_at "evt"))
  | (apply et_or; wtm_at "evt"; (intro _; wtm_at "evt"))
  | (apply et_not; wtm_at "evt"))
/-! a name gets a value, and what follows -/
local macro_rules | `(tactic| wtm_at "ev") => `(tactic| first | wtm_at "evf" | wtm_at "evo")
/-! ### _law_ahead_by -/
theorem at_rev {α : Type} {xs : List α} {k : Nat} {r : α} (h : xs.reverse[k]? = some r) : atI xs ((xs.length : Int) - 1 - k) = some r := by
  have hk : k < xs.length := by
    have := (List.getElem?_eq_some_iff.mp h).1
    simpa using this
  rw [List.getElem?_reverse hk] at h
  have e : ((xs.length : Int) - 1 - k) = ((xs.length - 1 - k : Nat) : Int) := by omega
  rw [e]
  exact atI_nat h
theorem rev_some {α : Type} {xs : List α} {k : Nat} (h : k < xs.length) : ∃ r, xs.reverse[k]? = some r ∧ r ∈ xs := by
  have hk : k < xs.reverse.length := by rw [List.length_reverse]; exact h
  exact ⟨_, List.getElem?_eq_getElem hk, List.mem_reverse.mp (List.getElem_mem hk)⟩
def R__law_ahead_by : List D → Sl → Prop := fun ds s => ∃ (pool : List Str) (rows : List Row) (behind : List Str), ds = [.lst (rows.map en), .lst (behind.map D.str)] ∧ (Small pool rows behind ∧ rows.length ≤ 100000) ∧ s = .ow ((aheadL rows behind).map D.str)
def rd__law_ahead_by (K : PySem.W.Frag) : TS :=
  (tSeq (tAsg tDNewK (gName 2))
    (tSeq (tFor (iX K (tVar 1)) (gName 3) (tAsg (tC (.bl true)) (gSub (tVar 2) (tVar 3) rSetX)))
    (tSeq (tFor (iRng1 (tCons (tCB (rLenX K) (tCons (tVar 0) tNil)) tNil)) (gName 4) (tSeq (tAsg (tOp (rIxX K) (tVar 0) (tOp rSubX (tOp rSubX (tCB (rLenX K) (tCons (tVar 0) tNil)) (tC (.int 1))) (tVar 4))) (gName 5))
    (tSeq (tIfS (tTest (tOp (rEqX K) (tOp (rIxX K) (tVar 5) (tC (.int 0))) (tC (.str "tell")))) (tAsg (tC (.bl true)) (gSub (tVar 2) (tOp (rIxX K) (tVar 5) (tC (.int 1))) rSetX)) tNext)
    (tIfS (tAnd (tTest (tOp (rEqX K) (tOp (rIxX K) (tVar 5) (tC (.int 0))) (tC (.str "make")))) (tTest (tOp (rInX K) (tOp (rIxX K) (tVar 5) (tC (.int 1))) (tVar 2)))) (tSeq (tDrop (tDPop1 (tVar 2) (tOp (rIxX K) (tVar 5) (tC (.int 1)))))
    (tFor (iX K (tOp (rIxX K) (tVar 5) (tC (.int 3)))) (gName 3) (tAsg (tC (.bl true)) (gSub (tVar 2) (tVar 3) rSetX)))) tNext))))
    (tRet (tCB (rSortX K) (tCons (tCB (rListX K) (tCons (tVar 2) tNil)) tNil))))))
theorem sv__law_ahead_by {K : PySem.W.Frag} : Keeps K R__law_ahead_by 6 2 (rd__law_ahead_by K) := by
  rintro ds s ⟨pool, rows, behind, rfl, ⟨hS, hn⟩, rfl⟩
  refine ⟨rfl, ?_⟩
  show Sv K (rd__law_ahead_by K) [.im (.lst (rows.map en)), .im (.lst (behind.map D.str)), .un, .un, .un, .un] _
  unfold rd__law_ahead_by
  refine q_asg (s := .ok (enH [])) ev_newK ?_
  have hp := hS.le
  refine sv_seq (sv_holdL (hs := []) (ss := behind) (by decide) rfl rfl (by wtm_at "evf") (fun k => ?_) (fun x => ?_))
  · have := (Hin.nil.adds (pool := pool) (ss := behind.take k) fun x hx => hS.behind x (List.mem_of_mem_take hx)).le
    omega
  refine sv_seq (sv_forR (n := rows.length) (fun i Γ => ∃ x y z, Γ = [.im (.lst (rows.map en)), .im (.lst (behind.map D.str)), .ok (enH ((rows.reverse.take i).foldl stepB (heldS behind))), x, y, z])
    (eav_cons ((ev_lenW (ds := rows.map en) (by wtm_at "evw")).to (by rw [List.length_map])) eav_nil) hn ⟨_, _, _, rfl⟩ (fun i Γ' hlt hG => ?_) (fun Γ' hG => ?_))
  · obtain ⟨x, y, z, rfl⟩ := hG
    obtain ⟨r, hr, hm⟩ := rev_some hlt
    have hi := hS.hin i
    have hl := hS.le' hi
    have hri := hS.rows r hm
    rw [steps_take _ _ _ hr]
    generalize (rows.reverse.take i).foldl stepB (heldS behind) = hs at hi hl
    have hx : atI (rows.map en) (((rows.map en).length : Int) - 1 - i) = some (en r) := at_rev (by rw [← List.map_reverse, List.getElem?_map, hr]; rfl)
    refine q_asg (s := .im (en r)) (by wtm_at "ev") ?_
    cases r with
    | tell s =>
      show Sv K _ [.im (.lst (rows.map en)), .im (.lst (behind.map D.str)), .ok (enH hs), x, .im (.int i), .im (.tup [.str "tell", .str s])] _
      refine sv_cut (fun Γ => ∃ x y, Γ = [.im (.lst (rows.map en)), .im (.lst (behind.map D.str)), .ok (enH (addS hs s)), x, y, .im (.tup [.str "tell", .str s])]) ?_ ?_
      · refine sv_if (b := decide (("tell" : Str) = "tell")) (by wtm_at "evt") (fun _ => ?_) (fun h => by rw [tell_t] at h; cases h)
        refine sv_putK (i := 2) (kk := .inr s) rfl (d := .bl true) (by wtm_at "evf") (show EvV K _ _ (.str s) by wtm_at "evv") (by rw [len_enH]; omega) ?_
        rw [putH]
        exact ⟨x, _, rfl⟩
      · rintro Γ' ⟨x, y, rfl⟩
        refine sv_if (b := decide (("tell" : Str) = "make") && decide (s ∈ addS hs s)) (et_and (by wtm_at "evt") fun _ => et_v (ev_inH (by wtm_at "evv") (by wtm_at "evk"))) (fun h => by rw [make_f] at h; cases h) (fun _ => ?_)
        exact sv_next ⟨_, _, _, rfl⟩
    | make s g rs =>
      show Sv K _ [.im (.lst (rows.map en)), .im (.lst (behind.map D.str)), .ok (enH hs), x, .im (.int i), .im (.tup [.str "make", .str s, .str g, .tup (rs.map D.str)])] _
      refine q_when (b := decide (("make" : Str) = "tell")) (by wtm_at "evt") (fun h => by rw [tell_f] at h; cases h) (fun _ => ?_)
      refine sv_if (b := decide (("make" : Str) = "make") && decide (s ∈ hs)) (et_and (by wtm_at "evt") fun _ => et_v (ev_inH (by wtm_at "evv") (by wtm_at "evk"))) (fun h => ?_) (fun h => ?_)
      · rw [make_t, Bool.true_and] at h
        have h := of_decide_eq_true h
        rw [stepB_in h]
        refine sv_seq (sv_popK (i := 2) (kk := .inr s) rfl (show EvV K _ _ (.str s) by wtm_at "evv") (vH h) ?_)
        rw [dropH]
        refine sv_holdT (i := 2) (j := 3) (hs := hs.filter fun x => decide (x ≠ s)) (ss := rs) (by decide) rfl rfl (by wtm_at "evf") (fun k => ?_) (fun x => ?_)
        · have := ((hi.drop s).adds (ss := rs.take k) fun x hx => hri.2 x (List.mem_of_mem_take hx)).le
          omega
        · exact ⟨_, _, _, rfl⟩
      · rw [make_t, Bool.true_and] at h
        rw [stepB_out (of_decide_eq_false h)]
        exact sv_next ⟨_, _, _, rfl⟩
  · obtain ⟨x, y, z, rfl⟩ := hG
    rw [show rows.length = rows.reverse.length by rw [List.length_reverse], List.take_length]
    have hi := hS.hin rows.reverse.length
    rw [List.take_length] at hi
    exact sv_ret (ev_sorted (by wtm_at "evk") (fun x hx => hS.ok x (hi.mem x hx)) (hS.le' hi)) rfl
theorem row_in {c : Int} {names pool : List Str} {sg : Str} (hn : names ≠ []) (h : ∀ x ∈ names, x ∈ pool) : rowIn pool (rowBy c names sg) := by
  unfold rowBy
  split
  · exact h _ (pickS_mem hn _)
  · refine ⟨h _ (pickS_mem hn _), fun x hx => ?_⟩
    have hx := List.mem_of_mem_take hx
    simp only [List.mem_cons, List.not_mem_nil, or_false] at hx
    rcases hx with rfl | rfl <;> exact h _ (pickS_mem hn _)
theorem namesBy_ne (ns : List Int) : namesBy ns ≠ [] := fun e => by
  have := namesBy_len ns
  have := manyBy_b ns
  rw [e] at *
  simp at *
  omega
theorem namesBy_le (ns : List Int) : (namesBy ns).length ≤ 60 := by
  have := namesBy_len ns
  have := manyBy_b ns
  omega
theorem namesBy_ok (ns : List Int) : ∀ x ∈ namesBy ns, sOk x := fun x hx => by
  obtain ⟨k, hk, rfl⟩ := List.mem_map.mp hx
  have := manyBy_b ns
  have := List.mem_range.mp hk
  exact sOk_nameBy ns _ k (by omega)
end Sf

namespace Sf
open PySem PySem.Spec PyProof.Rows L2
/-! short words for evaluation: each closes its goal or fails -/
local macro_rules | `(tactic| wtm_at "sd") => `(tactic| first | assumption | exact trivial | omega | ((with_reducible show List.length _ ≤ _); simp only [List.length_cons, List.length_nil]; omega) | decide | rfl | ((with_reducible show sOk _); (show PyData.strOk _ = true); decide +kernel))
local macro_rules | `(tactic| wtm_at "ix") => `(tactic| first | assumption | exact rfl)
local macro_rules | `(tactic| wtm_at "rr") => `(tactic| assumption)
local macro_rules | `(tactic| wtm_at "evp") => `(tactic| first | exact ep_none | (apply ep_some; wtm_at "evv"))
local macro_rules | `(tactic| wtm_at "evav") => `(tactic| first | exact eav_nil | (apply eav_cons; wtm_at "evv"; wtm_at "evav"))
local macro_rules | `(tactic| wtm_at "eva") => `(tactic| first | exact ea_nil | (apply ea_cons; wtm_at "evf"; wtm_at "eva"))
local macro_rules | `(tactic| wtm_at "evaw") => `(tactic| first | exact eaw_nil | (apply eaw_cons; wtm_at "evw"; wtm_at "evaw"))
local macro_rules | `(tactic| wtm_at "evl") => `(tactic| first | exact evl_var rfl | (apply EvO.l; wtm_at "evf") | (apply EvO.ll; wtm_at "evo"))
local macro_rules | `(tactic| wtm_at "evk") => `(tactic| first | exact evk_var rfl | (apply EvO.k; wtm_at "evf"))
local macro_rules | `(tactic| wtm_at "evm") => `(tactic| first | exact evm_var rfl | (apply EvO.m; wtm_at "evf"))
local macro_rules | `(tactic| wtm_at "evw") => `(tactic| first
  | exact EvL.w (evl_var rfl) | exact EvK.w (evk_var rfl) | exact EvM.w (evm_var rfl)
  | (apply EvO.w; wtm_at "evf")
  | (apply EvL.w; wtm_at "evl"))
/-! what a slot may hold: fixed data -/
local macro_rules | `(tactic| wtm_at "evf") => `(tactic| first
  | exact evf_var rfl
  | (apply ev_ixT; wtm_at "evf"; wtm_at "evv"; wtm_at "ix")
  | (apply ev_ix; wtm_at "evl"; wtm_at "evv"; wtm_at "ix")
  | (apply ev_tup; wtm_at "eva"; wtm_at "sd")
  | (apply EvV.fi; wtm_at "evv")
  | (apply EvV.fs; wtm_at "evv")
  | (apply EvV.fb; wtm_at "evv")
  | (apply EvV.fn; wtm_at "evv")
  | (apply ev_call; wtm_at "eva"; wtm_at "rr")
  | (apply ev_callW; wtm_at "evaw"; wtm_at "rr"; wtm_at "sd")
  | (apply EvO.fixL; wtm_at "evo"))
/-! an owned list, a dict -/
local macro_rules | `(tactic| wtm_at "evo") => `(tactic| first
  | (apply ev_lst; wtm_at "eva"; wtm_at "sd")
  | exact ev_newK | exact ev_newT
  | (apply ev_listL; wtm_at "evl")
  | (apply ev_listT; wtm_at "evf")
  | (apply ev_dict; wtm_at "evk")
  | (apply ev_addL; wtm_at "evl"; wtm_at "evl"; wtm_at "sd")
  | (apply ev_slL; wtm_at "evl"; wtm_at "evp"; wtm_at "evp")
  | (apply ev_call; wtm_at "eva"; wtm_at "rr")
  | (apply ev_callW; wtm_at "evaw"; wtm_at "rr"; wtm_at "sd"))
local macro_rules | `(tactic| wtm_at "evv") => `(tactic| first
  | exact evv_c
  | exact evv_int rfl
  | exact evv_str rfl
  | exact evv_bl rfl
  | exact evv_non rfl
  | (apply ev_add; wtm_at "evv"; wtm_at "evv")
  | (apply ev_cat; wtm_at "evv"; wtm_at "evv"; wtm_at "sd")
  | (apply ev_sub; wtm_at "evv"; wtm_at "evv")
  | (apply ev_mul; wtm_at "evv"; wtm_at "evv"; wtm_at "mu")
  | (apply ev_div; wtm_at "evv"; wtm_at "evv"; wtm_at "sd")
  | (apply ev_mod; wtm_at "evv"; wtm_at "evv"; wtm_at "sd")
  | (apply ev_neg; wtm_at "evv")
  | (apply ev_lt; wtm_at "evv"; wtm_at "evv")
  | (apply ev_le; wtm_at "evv"; wtm_at "evv")
  | (apply ev_gt; wtm_at "evv"; wtm_at "evv")
  | (apply ev_ge; wtm_at "evv"; wtm_at "evv")
  | (apply ev_eqi; wtm_at "evv"; wtm_at "evv")
  | (apply ev_eqs; wtm_at "evv"; wtm_at "evv")
  | (apply ev_nei; wtm_at "evv"; wtm_at "evv")
  | (apply ev_nes; wtm_at "evv"; wtm_at "evv")
  | (apply ev_eqb; wtm_at "evv"; wtm_at "evv")
  | (apply ev_neb; wtm_at "evv"; wtm_at "evv")
  | (apply ev_min; wtm_at "evv"; wtm_at "evv")
  | (apply ev_max; wtm_at "evv"; wtm_at "evv")
  | (apply ev_intb; wtm_at "evv")
  | (apply ev_lens; wtm_at "evv"; wtm_at "sd")
  | (apply ev_lenR; wtm_at "evw")
  | (apply ev_lenW; wtm_at "evw")
  | (apply ev_lenT; wtm_at "evw")
  | (apply ev_ixR; wtm_at "evf"; wtm_at "evv"; wtm_at "ix")
  | (apply ev_ixS; wtm_at "evv"; wtm_at "evv"; wtm_at "sd"; wtm_at "ix")
  | (apply ev_slS; wtm_at "evv"; wtm_at "sd"; wtm_at "evp"; wtm_at "evp")
  | (apply ev_nis; wtm_at "evv"; wtm_at "evv")
  | (apply ev_ins; wtm_at "evv"; wtm_at "evv")
  | (apply ev_inK; wtm_at "evv"; wtm_at "evk")
  | (apply ev_niK; wtm_at "evv"; wtm_at "evk")
  | (apply ev_andV; wtm_at "evv"; (intro _; wtm_at "evv"))
  | (apply ev_orV; wtm_at "evv"; (intro _; wtm_at "evv"))
  | (apply ev_notV; wtm_at "evv")
  | (apply ev_isN; wtm_at "evw")
  | (apply ev_ntN; wtm_at "evw")
  | (apply ev_isi_lst true; wtm_at "evw"; decide +kernel)
  | (apply ev_isi_lst false; wtm_at "evw"; decide +kernel)
  | (apply ev_isi_tup true; wtm_at "evw"; decide +kernel)
  | (apply ev_isi_tup false; wtm_at "evw"; decide +kernel)
  | (apply ev_isi_str true; wtm_at "evw"; decide +kernel)
  | (apply ev_isi_str false; wtm_at "evw"; decide +kernel)
  | (apply ev_isi_int true; wtm_at "evw"; decide +kernel)
  | (apply ev_isi_int false; wtm_at "evw"; decide +kernel)
  | (apply ev_isi_bl true; wtm_at "evw"; decide +kernel)
  | (apply ev_isi_bl false; wtm_at "evw"; decide +kernel)
  | (apply ev_isi_non true; wtm_at "evw"; decide +kernel)
  | (apply ev_isi_non false; wtm_at "evw"; decide +kernel)
  | (apply ev_isi_dk true; wtm_at "evw"; decide +kernel)
  | (apply ev_isi_dk false; wtm_at "evw"; decide +kernel)
  | (apply EvO.sc; wtm_at "evf1"; exact rfl))
/-! data that is a scalar: what is not made of scalars -/
local macro_rules | `(tactic| wtm_at "evf1") => `(tactic| first
  | (apply ev_ixT; wtm_at "evf"; wtm_at "evv"; wtm_at "ix")
  | (apply ev_ix; wtm_at "evl"; wtm_at "evv"; wtm_at "ix")
  | (apply ev_ixKT; wtm_at "evf"; wtm_at "evv"; wtm_at "ix")
  | (apply ev_get; wtm_at "evk"; wtm_at "evv"; wtm_at "evf")
  | (apply ev_call; wtm_at "eva"; wtm_at "rr")
  | (apply ev_callW; wtm_at "evaw"; wtm_at "rr"; wtm_at "sd"))
local macro_rules | `(tactic| wtm_at "mu") => `(tactic| first
  | assumption
  | (apply mul_ok_l; omega)
  | (apply mul_ok_r; omega))
local macro_rules | `(tactic| wtm_at "evt") => `(tactic| first
  | exact et_yes
  | (apply et_v; wtm_at "evv")
  | (apply et_b; wtm_at "evv")
  | (apply et_and; wtm_at "evt"; (intro _; wtm_at "evt"))
  | (apply et_or; wtm_at "evt"; (intro _; wtm_at "evt"))
  | (apply et_not; wtm_at "evt"))
/-! a name gets a value, and what follows -/
local macro_rules | `(tactic| wtm_at "ev") => `(tactic| first | wtm_at "evf" | wtm_at "evo")
/-! ### _law_whole -/
def R__law_whole : List D → Sl → Prop := fun ds s => ∃ n : Int, ds = [.int n] ∧ s = .im (.bl true)
def rd__law_whole (K : PySem.W.Frag) : TS :=
  (tRet (tAndV (tCB (rIsi K) (tCons (tVar 0) (tCons (tC (.ty "int")) tNil))) (tNotV (tCB (rIsi K) (tCons (tVar 0) (tCons (tC (.ty "bool")) tNil))))))
theorem sv__law_whole {K : PySem.W.Frag} : Keeps K R__law_whole 1 1 (rd__law_whole K) := by
  rintro ds s ⟨n, rfl, rfl⟩
  refine ⟨rfl, ?_⟩
  show Sv K (rd__law_whole K) [.im (.int n)] _
  unfold rd__law_whole
  exact sv_ret (s := .im (.bl (true && !false))) (by wtm_at "ev") rfl
end Sf

namespace Sf
open PySem PySem.Spec PyProof.Rows L2
/-! short words for evaluation: each closes its goal or fails -/
local macro_rules | `(tactic| wtm_at "sd") => `(tactic| first | assumption | exact trivial | omega | ((with_reducible show List.length _ ≤ _); simp only [List.length_cons, List.length_nil]; omega) | decide | rfl | ((with_reducible show sOk _); (show PyData.strOk _ = true); decide +kernel))
local macro_rules | `(tactic| wtm_at "ix") => `(tactic| first | assumption | exact rfl)
local macro_rules | `(tactic| wtm_at "rr") => `(tactic| assumption)
local macro_rules | `(tactic| wtm_at "evp") => `(tactic| first | exact ep_none | (apply ep_some; wtm_at "evv"))
local macro_rules | `(tactic| wtm_at "evav") => `(tactic| first | exact eav_nil | (apply eav_cons; wtm_at "evv"; wtm_at "evav"))
local macro_rules | `(tactic| wtm_at "eva") => `(tactic| first | exact ea_nil | (apply ea_cons; wtm_at "evf"; wtm_at "eva"))
local macro_rules | `(tactic| wtm_at "evaw") => `(tactic| first | exact eaw_nil | (apply eaw_cons; wtm_at "evw"; wtm_at "evaw"))
local macro_rules | `(tactic| wtm_at "evl") => `(tactic| first | exact evl_var rfl | (apply EvO.l; wtm_at "evf") | (apply EvO.ll; wtm_at "evo"))
local macro_rules | `(tactic| wtm_at "evk") => `(tactic| first | exact evk_var rfl | (apply EvO.k; wtm_at "evf"))
local macro_rules | `(tactic| wtm_at "evm") => `(tactic| first | exact evm_var rfl | (apply EvO.m; wtm_at "evf"))
local macro_rules | `(tactic| wtm_at "evw") => `(tactic| first
  | exact EvL.w (evl_var rfl) | exact EvK.w (evk_var rfl) | exact EvM.w (evm_var rfl)
  | (apply EvO.w; wtm_at "evf")
  | (apply EvL.w; wtm_at "evl"))
/-! what a slot may hold: fixed data -/
local macro_rules | `(tactic| wtm_at "evf") => `(tactic| first
  | exact evf_var rfl
  | (apply ev_ixT; wtm_at "evf"; wtm_at "evv"; wtm_at "ix")
  | (apply ev_ix; wtm_at "evl"; wtm_at "evv"; wtm_at "ix")
  | (apply ev_tup; wtm_at "eva"; wtm_at "sd")
  | (apply EvV.fi; wtm_at "evv")
  | (apply EvV.fs; wtm_at "evv")
  | (apply EvV.fb; wtm_at "evv")
  | (apply EvV.fn; wtm_at "evv")
  | (apply ev_call; wtm_at "eva"; wtm_at "rr")
  | (apply ev_callW; wtm_at "evaw"; wtm_at "rr"; wtm_at "sd")
  | (apply EvO.fixL; wtm_at "evo"))
/-! an owned list, a dict -/
local macro_rules | `(tactic| wtm_at "evo") => `(tactic| first
  | (apply ev_lst; wtm_at "eva"; wtm_at "sd")
  | exact ev_newK | exact ev_newT
  | (apply ev_listL; wtm_at "evl")
  | (apply ev_listT; wtm_at "evf")
  | (apply ev_dict; wtm_at "evk")
  | (apply ev_addL; wtm_at "evl"; wtm_at "evl"; wtm_at "sd")
  | (apply ev_slL; wtm_at "evl"; wtm_at "evp"; wtm_at "evp")
  | (apply ev_call; wtm_at "eva"; wtm_at "rr")
  | (apply ev_callW; wtm_at "evaw"; wtm_at "rr"; wtm_at "sd"))
local macro_rules | `(tactic| wtm_at "evv") => `(tactic| first
  | exact evv_c
  | exact evv_int rfl
  | exact evv_str rfl
  | exact evv_bl rfl
  | exact evv_non rfl
  | (apply ev_add; wtm_at "evv"; wtm_at "evv")
  | (apply ev_cat; wtm_at "evv"; wtm_at "evv"; wtm_at "sd")
  | (apply ev_sub; wtm_at "evv"; wtm_at "evv")
  | (apply ev_mul; wtm_at "evv"; wtm_at "evv"; wtm_at "mu")
  | (apply ev_div; wtm_at "evv"; wtm_at "evv"; wtm_at "sd")
  | (apply ev_mod; wtm_at "evv"; wtm_at "evv"; wtm_at "sd")
  | (apply ev_neg; wtm_at "evv")
  | (apply ev_lt; wtm_at "evv"; wtm_at "evv")
  | (apply ev_le; wtm_at "evv"; wtm_at "evv")
  | (apply ev_gt; wtm_at "evv"; wtm_at "evv")
  | (apply ev_ge; wtm_at "evv"; wtm_at "evv")
  | (apply ev_eqi; wtm_at "evv"; wtm_at "evv")
  | (apply ev_eqs; wtm_at "evv"; wtm_at "evv")
  | (apply ev_nei; wtm_at "evv"; wtm_at "evv")
  | (apply ev_nes; wtm_at "evv"; wtm_at "evv")
  | (apply ev_eqb; wtm_at "evv"; wtm_at "evv")
  | (apply ev_neb; wtm_at "evv"; wtm_at "evv")
  | (apply ev_min; wtm_at "evv"; wtm_at "evv")
  | (apply ev_max; wtm_at "evv"; wtm_at "evv")
  | (apply ev_intb; wtm_at "evv")
  | (apply ev_lens; wtm_at "evv"; wtm_at "sd")
  | (apply ev_lenR; wtm_at "evw")
  | (apply ev_lenW; wtm_at "evw")
  | (apply ev_lenT; wtm_at "evw")
  | (apply ev_ixR; wtm_at "evf"; wtm_at "evv"; wtm_at "ix")
  | (apply ev_ixS; wtm_at "evv"; wtm_at "evv"; wtm_at "sd"; wtm_at "ix")
  | (apply ev_slS; wtm_at "evv"; wtm_at "sd"; wtm_at "evp"; wtm_at "evp")
  | (apply ev_nis; wtm_at "evv"; wtm_at "evv")
  | (apply ev_ins; wtm_at "evv"; wtm_at "evv")
  | (apply ev_inK; wtm_at "evv"; wtm_at "evk")
  | (apply ev_niK; wtm_at "evv"; wtm_at "evk")
  | (apply ev_andV; wtm_at "evv"; (intro _; wtm_at "evv"))
  | (apply ev_orV; wtm_at "evv"; (intro _; wtm_at "evv"))
  | (apply ev_notV; wtm_at "evv")
  | (apply ev_isN; wtm_at "evw")
  | (apply ev_ntN; wtm_at "evw")
  | (apply ev_isi_lst true; wtm_at "evw"; decide +kernel)
  | (apply ev_isi_lst false; wtm_at "evw"; decide +kernel)
  | (apply ev_isi_tup true; wtm_at "evw"; decide +kernel)
  | (apply ev_isi_tup false; wtm_at "evw"; decide +kernel)
  | (apply ev_isi_str true; wtm_at "evw"; decide +kernel)
  | (apply ev_isi_str false; wtm_at "evw"; decide +kernel)
  | (apply ev_isi_int true; wtm_at "evw"; decide +kernel)
  | (apply ev_isi_int false; wtm_at "evw"; decide +kernel)
  | (apply ev_isi_bl true; wtm_at "evw"; decide +kernel)
  | (apply ev_isi_bl false; wtm_at "evw"; decide +kernel)
  | (apply ev_isi_non true; wtm_at "evw"; decide +kernel)
  | (apply ev_isi_non false; wtm_at "evw"; decide +kernel)
  | (apply ev_isi_dk true; wtm_at "evw"; decide +kernel)
  | (apply ev_isi_dk false; wtm_at "evw"; decide +kernel)
  | (apply EvO.sc; wtm_at "evf1"; exact rfl))
/-! data that is a scalar: what is not made of scalars -/
local macro_rules | `(tactic| wtm_at "evf1") => `(tactic| first
  | (apply ev_ixT; wtm_at "evf"; wtm_at "evv"; wtm_at "ix")
  | (apply ev_ix; wtm_at "evl"; wtm_at "evv"; wtm_at "ix")
  | (apply ev_ixKT; wtm_at "evf"; wtm_at "evv"; wtm_at "ix")
  | (apply ev_get; wtm_at "evk"; wtm_at "evv"; wtm_at "evf")
  | (apply ev_call; wtm_at "eva"; wtm_at "rr")
  | (apply ev_callW; wtm_at "evaw"; wtm_at "rr"; wtm_at "sd"))
local macro_rules | `(tactic| wtm_at "mu") => `(tactic| first
  | assumption
  | (apply mul_ok_l; omega)
  | (apply mul_ok_r; omega))
local macro_rules | `(tactic| wtm_at "evt") => `(tactic| first
  | exact et_yes
  | (apply et_v; wtm_at "evv")
  | (apply et_b; wtm_at "evv")
  | (apply et_and; wtm_at "evt"; (intro _; wtm_at "evt"))
  | (apply et_or; wtm_at "evt"; (intro _; wtm_at "evt"))
  | (apply et_not; wtm_at "evt"))
/-! a name gets a value, and what follows -/
local macro_rules | `(tactic| wtm_at "ev") => `(tactic| first | wtm_at "evf" | wtm_at "evo")
/-! ### dicts by names -/
section
variable {α : Type}
def enM (f : α → D) (m : List (Str × α)) : List (Key × D) := m.map fun p => ((.inr p.1 : Key), f p.2)
def getM (m : List (Str × α)) (s : Str) : Option α := (m.find? fun p => decide (p.1 = s)).map (·.2)
def putM (m : List (Str × α)) (s : Str) (a : α) : List (Str × α) := if (m.any fun p => decide (p.1 = s)) = true then m.map (fun p => if p.1 = s then (p.1, a) else p) else m ++ [(s, a)]
def keysM (m : List (Str × α)) : List Str := m.map (·.1)
theorem getM_cons {s t : Str} {a : α} {r : List (Str × α)} : getM ((s, a) :: r) t = if s = t then some a else getM r t := by
  unfold getM
  rw [List.find?_cons]
  by_cases h : s = t <;> simp [h]
theorem vM (f : α → D) (s : Str) : ∀ m : List (Str × α), vD (enM f m) (.inr s) = (getM m s).map f
  | [] => rfl
  | (t, a) :: r => by
    show vD ((.inr t, f a) :: enM f r) _ = _
    rw [vD_cons, getM_cons, vM f s r]
    by_cases h : t = s <;> simp [h]
theorem any_enM (f : α → D) (m : List (Str × α)) (s : Str) : ((enM f m).any fun kv => decide (kv.1 = (.inr s : Key))) = m.any fun p => decide (p.1 = s) := by
  induction m with
  | nil => rfl
  | cons x r ih =>
    show (decide ((Sum.inr x.1 : Key) = .inr s) || (enM f r).any _) = _
    rw [ih, List.any_cons]
    by_cases h : x.1 = s <;> simp [h]
theorem putM_en (f : α → D) (m : List (Str × α)) (s : Str) (a : α) : putD (enM f m) (.inr s) (f a) = enM f (putM m s a) := by
  unfold putD putM
  rw [any_enM]
  split
  · unfold enM
    rw [List.map_map, List.map_map]
    refine List.map_congr_left fun x _ => ?_
    show (if ((Sum.inr x.1 : Key), f x.2).1 = .inr s then _ else _) = _
    by_cases h : x.1 = s
    · simp [h]
    · simp [h]
  · unfold enM
    rw [List.map_append]
    rfl
theorem any_keys (m : List (Str × α)) (s : Str) : ((m.any fun p => decide (p.1 = s)) = true) ↔ s ∈ keysM m := by
  unfold keysM
  rw [List.any_eq_true, List.mem_map]
  constructor
  · rintro ⟨p, hp, h⟩
    exact ⟨p, hp, of_decide_eq_true h⟩
  · rintro ⟨p, hp, h⟩
    exact ⟨p, hp, decide_eq_true h⟩
theorem keys_put (m : List (Str × α)) (s : Str) (a : α) : keysM (putM m s a) = addS (keysM m) s := by
  unfold putM addS
  by_cases h : s ∈ keysM m
  · rw [if_pos ((any_keys m s).mpr h), if_pos h]
    unfold keysM
    rw [List.map_map]
    refine List.map_congr_left fun x _ => ?_
    show (if x.1 = s then (x.1, a) else x).1 = x.1
    split <;> rfl
  · rw [if_neg fun z => h ((any_keys m s).mp z), if_neg h]
    unfold keysM
    rw [List.map_append]
    rfl
theorem getM_put (m : List (Str × α)) (s t : Str) (a : α) : getM (putM m s a) t = if t = s then some a else getM m t := by
  have h := vD_put (enM (fun _ : α => D.non) m) (.inr s) (.inr t) .non
  clear h
  unfold putM
  split
  · rename_i hm
    induction m with
    | nil => simp at hm
    | cons p r ih =>
      obtain ⟨k, v⟩ := p
      rw [List.map_cons]
      by_cases hk : k = s
      · subst hk
        rw [if_pos rfl, getM_cons, getM_cons]
        by_cases ht : t = k
        · subst ht; simp
        · rw [if_neg (fun z => ht z.symm), if_neg ht, if_neg (fun z => ht z.symm)]
          by_cases hr : (r.any fun p => decide (p.1 = k)) = true
          · rw [ih hr, if_neg ht]
          · congr 1
            conv => rhs; rw [← List.map_id r]
            refine List.map_congr_left fun x hx => ?_
            rw [if_neg fun z => hr (List.any_eq_true.mpr ⟨x, hx, decide_eq_true z⟩)]
            rfl
      · rw [if_neg hk, getM_cons, getM_cons]
        have hr : (r.any fun p => decide (p.1 = s)) = true := by simpa [hk] using hm
        rw [ih hr]
        by_cases ht : t = s
        · subst ht; simp [hk]
        · simp [ht]
  · rename_i hm
    induction m with
    | nil =>
      show getM [(s, a)] t = _
      rw [getM_cons]
      by_cases h : s = t
      · rw [if_pos h, if_pos h.symm]
      · rw [if_neg h, if_neg fun z => h z.symm]
    | cons p r ih =>
      obtain ⟨k, v⟩ := p
      have h1 : ¬ k = s := fun z => hm (by simp [z])
      have h2 : ¬ (r.any fun p => decide (p.1 = s)) = true := fun z => hm (by rw [List.any_cons, z]; simp)
      rw [List.cons_append, getM_cons, getM_cons, ih h2]
      by_cases ht : t = s
      · subst ht; simp [h1]
      · simp [ht]
theorem getM_mem {m : List (Str × α)} {s : Str} {a : α} (h : getM m s = some a) : (s, a) ∈ m := by
  unfold getM at h
  obtain ⟨p, hp, rfl⟩ := Option.map_eq_some_iff.mp h
  have h1 := List.mem_of_find?_eq_some hp
  have h2 := List.find?_some hp
  have : p.1 = s := of_decide_eq_true h2
  rw [← this]
  exact h1
theorem mem_put {m : List (Str × α)} {s : Str} {a : α} {p : Str × α} (h : p ∈ putM m s a) : p ∈ m ∨ p = (s, a) := by
  unfold putM at h
  split at h
  · obtain ⟨q, hq, rfl⟩ := List.mem_map.mp h
    split
    · rename_i e; right; rw [e]
    · exact .inl hq
  · rcases List.mem_append.mp h with h | h
    · exact .inl h
    · exact .inr (List.mem_singleton.mp h)
theorem len_enM (f : α → D) (m : List (Str × α)) : (enM f m).length = m.length := by unfold enM; rw [List.length_map]
theorem len_put (m : List (Str × α)) (s : Str) (a : α) : (putM m s a).length ≤ m.length + 1 := by
  unfold putM
  split <;> simp
/-- a dict by names: each once, all of them texts -/
structure Dok (m : List (Str × α)) : Prop where
  nd : (keysM m).Nodup
  ok : ∀ x ∈ keysM m, sOk x
theorem nd_addS {l : List Str} (h : l.Nodup) (s : Str) : (addS l s).Nodup := by
  unfold addS
  split
  · exact h
  · rename_i hn
    rw [List.nodup_append]
    exact ⟨h, by simp, fun a ha b hb => by
      rw [List.mem_singleton.mp hb]
      rintro rfl
      exact hn ha⟩
theorem mem_addS {l : List Str} {s x : Str} : x ∈ addS l s ↔ x ∈ l ∨ x = s := by
  unfold addS
  split
  · rename_i h
    exact ⟨.inl, fun z => z.elim id fun e => e ▸ h⟩
  · simp
theorem Dok.put {m : List (Str × α)} (h : Dok m) {s : Str} (hs : sOk s) (a : α) : Dok (putM m s a) := by
  refine ⟨?_, fun x hx => ?_⟩
  · rw [keys_put]; exact nd_addS h.nd s
  · rw [keys_put, mem_addS] at hx
    rcases hx with hx | rfl
    · exact h.ok x hx
    · exact hs
theorem Dok.nil : Dok ([] : List (Str × α)) := ⟨.nil, fun _ h => nomatch h⟩
theorem nd_enM (f : α → D) {m : List (Str × α)} (h : Dok m) : ((enM f m).map (·.1)).Nodup := by
  have e : (enM f m).map (·.1) = (keysM m).map (fun s => (.inr s : Key)) := by
    unfold enM keysM
    rw [List.map_map, List.map_map]
    rfl
  rw [e]
  exact List.Pairwise.map _ (fun a b hab z => hab (Sum.inr.inj z)) h.nd
end
abbrev Nums := List (Str × Int)
abbrev enN (m : Nums) : List (Key × D) := enM D.int m
abbrev W3 := Int × Int × Int
def enW (w : W3) : D := .tup [.int w.1, .int w.2.1, .int w.2.2]
abbrev Works := List (Str × W3)
def getN (m : Nums) (s : Str) : Int := (getM m s).getD 0
theorem pl_int (n : Int) : Pl (.int n) := ⟨rfl, by show (py (D.int n)).depth ≤ 50; rw [py]; simp [PyData.depth]⟩
theorem pl_W (w : W3) : Pl (enW w) := ⟨by unfold enW; simp [plain, plainA], by unfold enW; simp [py, pyA, PyData.depth, PyData.depthAll]⟩
section
variable {K : PySem.W.Frag} {Γ : List Sl} {ta tb tc : TE}
theorem ev_getN {m : Nums} {s : Str} (ha : EvK K ta Γ (enN m)) (hb : EvV K tb Γ (.str s)) : EvV K (tDGet2 ta tb (tC (.int 0))) Γ (.int (getN m s)) :=
  EvO.sc (d := .int (getN m s)) ((ev_get (k := .inr s) (e := .int 0) ha hb (EvV.fi evv_c)).to (by rw [vM]; unfold getN; cases getM m s <;> rfl)) rfl
theorem ev_ktup {a : Addr} {ds : List D} {vs : List V} (t : ∀ H, SqT K H a vs) (r : ∀ H, RpA K H vs ds) : EvF K (tC (.ref a)) Γ (.ktup ds) := ⟨fun W A B σ E Q q => q (.ref a) A B [] (.refl E.ex) ⟨rfl, _, rfl, .ktup (t _) (r _)⟩ fun _ z => nomatch z⟩
/-- a work, or the plain one -/
def wD : Option W3 → D
  | some w => enW w
  | none => .ktup [.int 1, .int 1, .int 0]
def wK (o : Option W3) : W3 := o.getD (1, 1, 0)
theorem ev_w {o : Option W3} {te : TE} (h : EvF K te Γ (wD o)) : EvV K (tOp (rIxX K) te (tC (.int 0))) Γ (.int (wK o).1) ∧ EvV K (tOp (rIxX K) te (tC (.int 1))) Γ (.int (wK o).2.1) ∧ EvV K (tOp (rIxX K) te (tC (.int 2))) Γ (.int (wK o).2.2) := by
  cases o with
  | some w => exact ⟨EvO.sc (ev_ixT h evv_c rfl) rfl, EvO.sc (ev_ixT h evv_c rfl) rfl, EvO.sc (ev_ixT h evv_c rfl) rfl⟩
  | none => exact ⟨EvO.sc (ev_ixKT h evv_c rfl) rfl, EvO.sc (ev_ixKT h evv_c rfl) rfl, EvO.sc (ev_ixKT h evv_c rfl) rfl⟩
end
/-! ### how large numbers are -/
def Bd (B : Nat) (n : Int) : Prop := n.natAbs < 2 ^ B
theorem Bd.mono {B C : Nat} {n : Int} (h : Bd B n) (k : B ≤ C) : Bd C n := Nat.lt_of_lt_of_le h (Nat.pow_le_pow_right (by decide) k)
theorem Bd.bits {B : Nat} {n : Int} (h : Bd B n) : PySem.Builtin.Int.intBits n ≤ B := by
  by_cases z : n.natAbs = 0
  · have : n = 0 := Int.natAbs_eq_zero.mp z
    subst this
    show PySem.Builtin.Int.intBits 0 ≤ B
    unfold PySem.Builtin.Int.intBits
    simp
  · have h1 : n.natAbs.log2 < B := (Nat.log2_lt z).mpr h
    unfold PySem.Builtin.Int.intBits
    split <;> omega
theorem mul_ok_b {B C : Nat} {m n : Int} (hm : Bd B m) (hn : Bd C n) (h : B + C ≤ 134217728) : IntMulOk m n := CMulX.ok (by
  show (PySem.Builtin.Int.intBits m : Int) + (PySem.Builtin.Int.intBits n : Int) ≤ 134217728
  have := hm.bits
  have := hn.bits
  omega)
theorem Bd.mul {B C : Nat} {m n : Int} (hm : Bd B m) (hn : Bd C n) : Bd (B + C) (m * n) := by
  unfold Bd at *
  rw [Int.natAbs_mul, Nat.pow_add]
  exact Nat.mul_lt_mul'' hm hn
theorem Bd.add {B : Nat} {m n : Int} (hm : Bd B m) (hn : Bd B n) : Bd (B + 1) (m + n) := by
  unfold Bd at *
  have := Int.natAbs_add_le m n
  rw [Nat.pow_succ]
  omega
/-! ### a row done -/
def numOf (slots : Nums) (w : W3) : List Str → Int
  | [] => w.2.2
  | [x] => w.2.2 + w.1 * getN slots x
  | x :: y :: _ => w.2.2 + w.1 * getN slots x + w.2.1 * getN slots y
def BdN (B : Nat) (m : Nums) : Prop := ∀ p ∈ m, Bd B p.2
def BdW (m : Works) : Prop := ∀ p ∈ m, Bd 100 p.2.1 ∧ Bd 100 p.2.2.1 ∧ Bd 100 p.2.2.2
theorem BdN.get {B : Nat} {m : Nums} (h : BdN B m) (s : Str) : Bd B (getN m s) := by
  unfold getN
  cases e : getM m s with
  | none => show Bd B 0; exact Nat.two_pow_pos B
  | some n => exact h _ (getM_mem e)
theorem BdW.get {m : Works} (h : BdW m) (s : Str) : Bd 100 (wK (getM m s)).1 ∧ Bd 100 (wK (getM m s)).2.1 ∧ Bd 100 (wK (getM m s)).2.2 := by
  unfold wK
  cases e : getM m s with
  | none => exact ⟨by unfold Bd; decide, by unfold Bd; decide, by unfold Bd; decide⟩
  | some n => exact h _ (getM_mem e)
theorem numOf_b {B : Nat} {slots : Nums} {w : W3} (hs : BdN B slots) (hw : Bd 100 w.1 ∧ Bd 100 w.2.1 ∧ Bd 100 w.2.2) (rs : List Str) : Bd (B + 102) (numOf slots w rs) := by
  have h0 : Bd (B + 100) w.2.2 := hw.2.2.mono (by omega)
  have m1 : ∀ x, Bd (B + 100) (w.1 * getN slots x) := fun x => by rw [Nat.add_comm]; exact hw.1.mul (hs.get x)
  have m2 : ∀ x, Bd (B + 100) (w.2.1 * getN slots x) := fun x => by rw [Nat.add_comm]; exact hw.2.1.mul (hs.get x)
  match rs with
  | [] => exact h0.mono (by omega)
  | [x] => exact ((h0.add (m1 x)).mono (by omega) : Bd (B + 102) _)
  | x :: y :: _ => exact (((h0.add (m1 x)).add ((m2 y).mono (by omega))).mono (by omega) : Bd (B + 102) _)
/-- what number_made and done are given -/
structure DoneIn (B : Nat) (slots : Nums) (works : Works) : Prop where
  b : B + 100 ≤ 134217728
  s : BdN B slots
  w : BdW works
  l : slots.length < 100000
def readsOf : Row → List Str
  | .tell _ => []
  | .make _ _ rs => rs
def R_number_made : List D → Sl → Prop := fun ds r => ∃ (B : Nat) (slots : Nums) (works : Works) (s g : Str) (rs : List Str), ds = [.dk (enN slots), .dk (enM enW works), en (Row.make s g rs)] ∧ (DoneIn B slots works ∧ rs.length ≤ 2) ∧ r = .im (.int (numOf slots (wK (getM works g)) rs))
def rd_number_made (K : PySem.W.Frag) (a_PLAIN : Addr) : TS :=
  (tSeq (tAsg (tDGet2 (tVar 1) (tOp (rIxX K) (tVar 2) (tC (.int 2))) (tC (.ref a_PLAIN))) (gName 3))
    (tSeq (tAsg (tOp (rIxX K) (tVar 3) (tC (.int 2))) (gName 4))
    (tSeq (tFor (iRng1 (tCons (tCB (rLenX K) (tCons (tOp (rIxX K) (tVar 2) (tC (.int 3))) tNil)) tNil)) (gName 5) (tAsg (tOp (rAddX K) (tVar 4) (tOp rMulX (tOp (rIxX K) (tVar 3) (tVar 5)) (tDGet2 (tVar 0) (tOp (rIxX K) (tOp (rIxX K) (tVar 2) (tC (.int 3))) (tVar 5)) (tC (.int 0))))) (gName 4)))
    (tRet (tVar 4)))))
theorem sv_number_made {K : PySem.W.Frag} {a : Addr} (t : ∀ H, SqT K H a [.int 1, .int 1, .int 0]) : Keeps K R_number_made 6 3 (rd_number_made K a) := by
  rintro ds r ⟨B, slots, works, s, g, rs, rfl, ⟨hD, hr⟩, rfl⟩
  refine ⟨rfl, ?_⟩
  show Sv K (rd_number_made K a) [.im (.dk (enN slots)), .im (.dk (enM enW works)), .im (.tup [.str "make", .str s, .str g, .tup (rs.map D.str)]), .un, .un, .un] _
  unfold rd_number_made
  refine q_asg (s := .im (wD (getM works g))) ((ev_get (k := .inr g) (EvO.k (evf_var rfl)) (show EvV K _ _ (.str g) by wtm_at "evv") (ev_ktup t fun H => .cons (.int 1) (.cons (.int 1) (.cons (.int 0) .nil)))).to (by rw [vM]; cases getM works g <;> rfl)) ?_
  have hw := hD.w.get g
  generalize getM works g = o at hw
  refine q_asg (s := .im (.int (wK o).2.2)) (EvV.fi (ev_w (evf_var rfl)).2.2) ?_
  refine sv_seq (sv_forR (n := rs.length) (fun i Γ => ∃ x, Γ = [.im (.dk (enN slots)), .im (.dk (enM enW works)), .im (.tup [.str "make", .str s, .str g, .tup (rs.map D.str)]), .im (wD o), .im (.int (numOf slots (wK o) (rs.take i))), x])
    (eav_cons ((ev_lenT (ds := rs.map D.str) (EvO.w (by wtm_at "evf"))).to (by rw [List.length_map])) eav_nil) (by omega) ⟨_, rfl⟩ (fun i Γ' hi hG => ?_) (fun Γ' hG => ?_))
  · obtain ⟨x, rfl⟩ := hG
    have hg := fun y => hD.s.get y
    have hb := hD.b
    obtain ⟨y, hy⟩ : ∃ y, rs[i]? = some y := ⟨_, List.getElem?_eq_getElem hi⟩
    have hx : atI (rs.map D.str) (i : Int) = some (.str y) := atI_nat (by rw [List.getElem?_map, hy]; rfl)
    have hz : ∀ Γ, Γ[0]? = some (Sl.im (.dk (enN slots))) → Γ[2]? = some (Sl.im (.tup [.str "make", .str s, .str g, .tup (rs.map D.str)])) → Γ[5]? = some (Sl.im (.int (i : Int))) → EvV K (tDGet2 (tVar 0) (tOp (rIxX K) (tOp (rIxX K) (tVar 2) (tC (.int 3))) (tVar 5)) (tC (.int 0))) Γ (.int (getN slots y)) := fun Γ h0 h2 h5 =>
      ev_getN (EvO.k (evf_var h0)) (EvO.sc (ev_ixT (ev_ixT (evf_var h2) evv_c rfl) (evv_int h5) hx) rfl)
    have hw' : ∃ k : Int, EvV K (tOp (rIxX K) (tVar 3) (tVar 5)) [.im (.dk (enN slots)), .im (.dk (enM enW works)), .im (.tup [.str "make", .str s, .str g, .tup (rs.map D.str)]), .im (wD o), .im (.int (numOf slots (wK o) (rs.take i))), .im (.int (i : Int))] (.int k) ∧ Bd 100 k ∧ numOf slots (wK o) (rs.take i) + k * getN slots y = numOf slots (wK o) (rs.take (i + 1)) := by
      have h2 : i = 0 ∨ i = 1 := by omega
      have hv : ∀ k : Int, atI [D.int (wK o).1, .int (wK o).2.1, .int (wK o).2.2] (i : Int) = some (.int k) → EvV K (tOp (rIxX K) (tVar 3) (tVar 5)) [.im (.dk (enN slots)), .im (.dk (enM enW works)), .im (.tup [.str "make", .str s, .str g, .tup (rs.map D.str)]), .im (wD o), .im (.int (numOf slots (wK o) (rs.take i))), .im (.int (i : Int))] (.int k) := fun k hk => by
        cases o with
        | some w => exact EvO.sc (ev_ixT (evf_var rfl) (evv_int rfl) hk) rfl
        | none => exact EvO.sc (ev_ixKT (evf_var rfl) (evv_int rfl) hk) rfl
      match rs, i, hi, hy with
      | [p], 0, _, hy => exact ⟨(wK o).1, hv _ rfl, hw.1, by cases hy; rfl⟩
      | [p, q], 0, _, hy => exact ⟨(wK o).1, hv _ rfl, hw.1, by cases hy; rfl⟩
      | [p, q], 1, _, hy => exact ⟨(wK o).2.1, hv _ rfl, hw.2.1, by cases hy; rfl⟩
      | p :: q :: z :: u, _, _, _ => exact absurd hr (by simp)
      | [p], i + 1, hi, _ => exact absurd hi (by simp)
      | [p, q], i + 2, hi, _ => exact absurd hi (by simp)
    obtain ⟨k, hk, hkb, he⟩ := hw'
    refine sv_asg (s := .im (.int (numOf slots (wK o) (rs.take i) + k * getN slots y))) (EvV.fi (ev_add (evv_int rfl) (ev_mul hk (hz _ rfl rfl rfl) (mul_ok_b hkb (hg y) (by omega))))) ?_
    rw [he]
    exact ⟨_, rfl⟩
  · obtain ⟨x, rfl⟩ := hG
    rw [List.take_length]
    exact sv_ret (by wtm_at "ev") rfl
def doneN (slots : Nums) (works : Works) : Row → Nums
  | .tell _ => slots
  | .make s g rs => putM slots s (numOf slots (wK (getM works g)) rs)
def R_done : List D → Sl → Prop := fun ds s => ∃ (B : Nat) (slots : Nums) (works : Works) (r : Row), ds = [.dk (enN slots), .dk (enM enW works), en r] ∧ (DoneIn B slots works ∧ (readsOf r).length ≤ 2) ∧ s = .ok (enN (doneN slots works r))
def rd_done (K : PySem.W.Frag) : TS :=
  (tSeq (tAsg (tCB rDicX (tCons (tVar 0) tNil)) (gName 3))
    (tSeq (tIfS (tTest (tOp (rEqX K) (tOp (rIxX K) (tVar 2) (tC (.int 0))) (tC (.str "make")))) (tAsg (tCall (spF K R_number_made) [] E0 (tCons (tVar 0) (tCons (tVar 1) (tCons (tVar 2) tNil)))) (gSub (tVar 3) (tOp (rIxX K) (tVar 2) (tC (.int 1))) rSetX)) tNext)
    (tRet (tVar 3))))
theorem sv_done {K : PySem.W.Frag} : Keeps K R_done 4 3 (rd_done K) := by
  rintro ds s ⟨B, slots, works, r, rfl, ⟨hD, hr⟩, rfl⟩
  refine ⟨rfl, ?_⟩
  have hl := hD.l
  cases r with
  | tell s =>
    show Sv K (rd_done K) [.im (.dk (enN slots)), .im (.dk (enM enW works)), .im (.tup [.str "tell", .str s]), .un] _
    unfold rd_done
    refine q_asg (s := .ok (enN slots)) (ev_dict (by wtm_at "evk")) ?_
    refine q_when (b := decide (("tell" : Str) = "make")) (by wtm_at "evt") (fun h => by rw [make_f] at h; cases h) (fun _ => ?_)
    exact sv_retK rfl rfl
  | make s g rs =>
    show Sv K (rd_done K) [.im (.dk (enN slots)), .im (.dk (enM enW works)), .im (.tup [.str "make", .str s, .str g, .tup (rs.map D.str)]), .un] _
    unfold rd_done
    refine q_asg (s := .ok (enN slots)) (ev_dict (by wtm_at "evk")) ?_
    refine q_when (b := decide (("make" : Str) = "make")) (by wtm_at "evt") (fun _ => ?_) (fun h => by rw [make_t] at h; cases h)
    refine sv_putK (i := 3) (kk := .inr s) rfl (d := .int (numOf slots (wK (getM works g)) rs)) (ev_call (by wtm_at "eva") ⟨B, slots, works, s, g, rs, rfl, ⟨hD, hr⟩, rfl⟩) (show EvV K _ _ (.str s) by wtm_at "evv") (by rw [len_enM]; exact hl) ?_
    rw [putM_en]
    exact sv_retK rfl rfl
end Sf

namespace Sf
open PySem PySem.Spec PyProof.Rows L2
/-! short words for evaluation: each closes its goal or fails -/
local macro_rules | `(tactic| wtm_at "sd") => `(tactic| first | assumption | exact trivial | omega | ((with_reducible show List.length _ ≤ _); simp only [List.length_cons, List.length_nil]; omega) | decide | rfl | ((with_reducible show sOk _); (show PyData.strOk _ = true); decide +kernel))
local macro_rules | `(tactic| wtm_at "ix") => `(tactic| first | assumption | exact rfl)
local macro_rules | `(tactic| wtm_at "rr") => `(tactic| assumption)
local macro_rules | `(tactic| wtm_at "evp") => `(tactic| first | exact ep_none | (apply ep_some; wtm_at "evv"))
local macro_rules | `(tactic| wtm_at "evav") => `(tactic| first | exact eav_nil | (apply eav_cons; wtm_at "evv"; wtm_at "evav"))
local macro_rules | `(tactic| wtm_at "eva") => `(tactic| first | exact ea_nil | (apply ea_cons; wtm_at "evf"; wtm_at "eva"))
local macro_rules | `(tactic| wtm_at "evaw") => `(tactic| first | exact eaw_nil | (apply eaw_cons; wtm_at "evw"; wtm_at "evaw"))
local macro_rules | `(tactic| wtm_at "evl") => `(tactic| first | exact evl_var rfl | (apply EvO.l; wtm_at "evf") | (apply EvO.ll; wtm_at "evo"))
local macro_rules | `(tactic| wtm_at "evk") => `(tactic| first | exact evk_var rfl | (apply EvO.k; wtm_at "evf"))
local macro_rules | `(tactic| wtm_at "evm") => `(tactic| first | exact evm_var rfl | (apply EvO.m; wtm_at "evf"))
local macro_rules | `(tactic| wtm_at "evw") => `(tactic| first
  | exact EvL.w (evl_var rfl) | exact EvK.w (evk_var rfl) | exact EvM.w (evm_var rfl)
  | (apply EvO.w; wtm_at "evf")
  | (apply EvL.w; wtm_at "evl"))
/-! what a slot may hold: fixed data -/
local macro_rules | `(tactic| wtm_at "evf") => `(tactic| first
  | exact evf_var rfl
  | (apply ev_ixT; wtm_at "evf"; wtm_at "evv"; wtm_at "ix")
  | (apply ev_ix; wtm_at "evl"; wtm_at "evv"; wtm_at "ix")
  | (apply ev_tup; wtm_at "eva"; wtm_at "sd")
  | (apply EvV.fi; wtm_at "evv")
  | (apply EvV.fs; wtm_at "evv")
  | (apply EvV.fb; wtm_at "evv")
  | (apply EvV.fn; wtm_at "evv")
  | (apply ev_call; wtm_at "eva"; wtm_at "rr")
  | (apply ev_callW; wtm_at "evaw"; wtm_at "rr"; wtm_at "sd")
  | (apply EvO.fixL; wtm_at "evo"))
/-! an owned list, a dict -/
local macro_rules | `(tactic| wtm_at "evo") => `(tactic| first
  | (apply ev_lst; wtm_at "eva"; wtm_at "sd")
  | exact ev_newK | exact ev_newT
  | (apply ev_listL; wtm_at "evl")
  | (apply ev_listT; wtm_at "evf")
  | (apply ev_dict; wtm_at "evk")
  | (apply ev_addL; wtm_at "evl"; wtm_at "evl"; wtm_at "sd")
  | (apply ev_slL; wtm_at "evl"; wtm_at "evp"; wtm_at "evp")
  | (apply ev_call; wtm_at "eva"; wtm_at "rr")
  | (apply ev_callW; wtm_at "evaw"; wtm_at "rr"; wtm_at "sd"))
local macro_rules | `(tactic| wtm_at "evv") => `(tactic| first
  | exact evv_c
  | exact evv_int rfl
  | exact evv_str rfl
  | exact evv_bl rfl
  | exact evv_non rfl
  | (apply ev_add; wtm_at "evv"; wtm_at "evv")
  | (apply ev_cat; wtm_at "evv"; wtm_at "evv"; wtm_at "sd")
  | (apply ev_sub; wtm_at "evv"; wtm_at "evv")
  | (apply ev_mul; wtm_at "evv"; wtm_at "evv"; wtm_at "mu")
  | (apply ev_div; wtm_at "evv"; wtm_at "evv"; wtm_at "sd")
  | (apply ev_mod; wtm_at "evv"; wtm_at "evv"; wtm_at "sd")
  | (apply ev_neg; wtm_at "evv")
  | (apply ev_lt; wtm_at "evv"; wtm_at "evv")
  | (apply ev_le; wtm_at "evv"; wtm_at "evv")
  | (apply ev_gt; wtm_at "evv"; wtm_at "evv")
  | (apply ev_ge; wtm_at "evv"; wtm_at "evv")
  | (apply ev_eqi; wtm_at "evv"; wtm_at "evv")
  | (apply ev_eqs; wtm_at "evv"; wtm_at "evv")
  | (apply ev_nei; wtm_at "evv"; wtm_at "evv")
  | (apply ev_nes; wtm_at "evv"; wtm_at "evv")
  | (apply ev_eqb; wtm_at "evv"; wtm_at "evv")
  | (apply ev_neb; wtm_at "evv"; wtm_at "evv")
  | (apply ev_min; wtm_at "evv"; wtm_at "evv")
  | (apply ev_max; wtm_at "evv"; wtm_at "evv")
  | (apply ev_intb; wtm_at "evv")
  | (apply ev_lens; wtm_at "evv"; wtm_at "sd")
  | (apply ev_lenR; wtm_at "evw")
  | (apply ev_lenW; wtm_at "evw")
  | (apply ev_lenT; wtm_at "evw")
  | (apply ev_ixR; wtm_at "evf"; wtm_at "evv"; wtm_at "ix")
  | (apply ev_ixS; wtm_at "evv"; wtm_at "evv"; wtm_at "sd"; wtm_at "ix")
  | (apply ev_slS; wtm_at "evv"; wtm_at "sd"; wtm_at "evp"; wtm_at "evp")
  | (apply ev_nis; wtm_at "evv"; wtm_at "evv")
  | (apply ev_ins; wtm_at "evv"; wtm_at "evv")
  | (apply ev_inK; wtm_at "evv"; wtm_at "evk")
  | (apply ev_niK; wtm_at "evv"; wtm_at "evk")
  | (apply ev_andV; wtm_at "evv"; (intro _; wtm_at "evv"))
  | (apply ev_orV; wtm_at "evv"; (intro _; wtm_at "evv"))
  | (apply ev_notV; wtm_at "evv")
  | (apply ev_isN; wtm_at "evw")
  | (apply ev_ntN; wtm_at "evw")
  | (apply ev_isi_lst true; wtm_at "evw"; decide +kernel)
  | (apply ev_isi_lst false; wtm_at "evw"; decide +kernel)
  | (apply ev_isi_tup true; wtm_at "evw"; decide +kernel)
  | (apply ev_isi_tup false; wtm_at "evw"; decide +kernel)
  | (apply ev_isi_str true; wtm_at "evw"; decide +kernel)
  | (apply ev_isi_str false; wtm_at "evw"; decide +kernel)
  | (apply ev_isi_int true; wtm_at "evw"; decide +kernel)
  | (apply ev_isi_int false; wtm_at "evw"; decide +kernel)
  | (apply ev_isi_bl true; wtm_at "evw"; decide +kernel)
  | (apply ev_isi_bl false; wtm_at "evw"; decide +kernel)
  | (apply ev_isi_non true; wtm_at "evw"; decide +kernel)
  | (apply ev_isi_non false; wtm_at "evw"; decide +kernel)
  | (apply ev_isi_dk true; wtm_at "evw"; decide +kernel)
  | (apply ev_isi_dk false; wtm_at "evw"; decide +kernel)
  | (apply EvO.sc; wtm_at "evf1"; exact rfl))
/-! data that is a scalar: what is not made of scalars -/
local macro_rules | `(tactic| wtm_at "evf1") => `(tactic| first
  | (apply ev_ixT; wtm_at "evf"; wtm_at "evv"; wtm_at "ix")
  | (apply ev_ix; wtm_at "evl"; wtm_at "evv"; wtm_at "ix")
  | (apply ev_ixKT; wtm_at "evf"; wtm_at "evv"; wtm_at "ix")
  | (apply ev_get; wtm_at "evk"; wtm_at "evv"; wtm_at "evf")
  | (apply ev_call; wtm_at "eva"; wtm_at "rr")
  | (apply ev_callW; wtm_at "evaw"; wtm_at "rr"; wtm_at "sd"))
local macro_rules | `(tactic| wtm_at "mu") => `(tactic| first
  | assumption
  | (apply mul_ok_l; omega)
  | (apply mul_ok_r; omega))
local macro_rules | `(tactic| wtm_at "evt") => `(tactic| first
  | exact et_yes
  | (apply et_v; wtm_at "evv")
  | (apply et_b; wtm_at "evv")
  | (apply et_and; wtm_at "evt"; (intro _; wtm_at "evt"))
  | (apply et_or; wtm_at "evt"; (intro _; wtm_at "evt"))
  | (apply et_not; wtm_at "evt"))
/-! a name gets a value, and what follows -/
local macro_rules | `(tactic| wtm_at "ev") => `(tactic| first | wtm_at "evf" | wtm_at "evo")
local macro_rules | `(tactic| wtm_at "rr") => `(tactic| exact ⟨_, _, rfl, (by omega), rfl⟩)
local macro_rules | `(tactic| wtm_at "rr") => `(tactic| exact ⟨_, rfl, rfl⟩)
/-! ### _law_number_by, _law_start_by -/
def numberBy (c : Int) : Int := if c % 4 = 1 then c / 4 % (2 * 10 ^ 30 - 1) - 10 ^ 30 + 1 else c / 4 % 19 - 9
theorem numberBy_b (c : Int) : Bd 100 (numberBy c) := by
  unfold Bd numberBy
  have e : (2 : Nat) ^ 100 = 1267650600228229401496703205376 := by decide
  rw [e]
  have e2 : (10 : Int) ^ 30 = 1000000000000000000000000000000 := by decide
  rw [e2]
  split <;> omega
def R__law_number_by : List D → Sl → Prop := fun ds s => ∃ c : Int, ds = [.int c] ∧ s = .im (.int (numberBy c))
def rd__law_number_by (K : PySem.W.Frag) : TS :=
  (tSeq (tIfS (tTest (tOp (rEqX K) (tOp rModX (tVar 0) (tC (.int 4))) (tC (.int 1)))) (tRet (tOp (rAddX K) (tOp rSubX (tOp rModX (tOp rDivX (tVar 0) (tC (.int 4))) (tOp rSubX (tOp rMulX (tC (.int 2)) (tOp rPowX (tC (.int 10)) (tC (.int 30)))) (tC (.int 1)))) (tOp rPowX (tC (.int 10)) (tC (.int 30)))) (tC (.int 1)))) tNext)
    (tRet (tOp rSubX (tOp rModX (tOp rDivX (tVar 0) (tC (.int 4))) (tC (.int 19))) (tC (.int 9)))))
theorem sv__law_number_by {K : PySem.W.Frag} : Keeps K R__law_number_by 1 1 (rd__law_number_by K) := by
  rintro ds s ⟨c, rfl, rfl⟩
  refine ⟨rfl, ?_⟩
  show Sv K (rd__law_number_by K) [.im (.int c)] _
  unfold rd__law_number_by
  have p10 : CPow 10 30 := ⟨by decide, by decide, by decide⟩
  have ep : (10 : Int) ^ (30 : Int).toNat = 10 ^ 30 := rfl
  refine q_when (b := decide (c % 4 = 1)) (by wtm_at "evt") (fun h => ?_) (fun h => ?_)
  · rw [show numberBy c = _ from if_pos (of_decide_eq_true h)]
    refine sv_ret (EvV.fi (ev_add (ev_sub (ev_mod (by wtm_at "evv") (ev_sub (ev_mul (by wtm_at "evv") (ev_pow (by wtm_at "evv") (by wtm_at "evv") p10) (mul_ok_l (by decide))) (by wtm_at "evv")) (by decide)) (ev_pow (by wtm_at "evv") (by wtm_at "evv") p10)) (by wtm_at "evv"))) ?_
    rfl
  · rw [show numberBy c = _ from if_neg (of_decide_eq_false h)]
    exact sv_ret (s := .im (.int (c / 4 % 19 - 9))) (by wtm_at "ev") rfl
local macro_rules | `(tactic| wtm_at "rr") => `(tactic| exact ⟨_, rfl, rfl⟩)
def startStep (ns : List Int) (names : List Str) (m : Nums) (k : Nat) : Nums := if 0 < drawn ns (560 + k) % 3 then putM m (names.getD k "") (numberBy (cellAt ns (500 + k))) else m
def startOf (ns : List Int) (names : List Str) (k : Nat) : Nums := (List.range k).foldl (startStep ns names) []
def startBy (ns : List Int) (names : List Str) : Nums := startOf ns names names.length
theorem startOf_succ (ns : List Int) (names : List Str) (k : Nat) : startOf ns names (k + 1) = startStep ns names (startOf ns names k) k := by
  unfold startOf
  rw [List.range_succ, List.foldl_append]
  rfl
theorem startOf_len (ns : List Int) (names : List Str) : ∀ k, (startOf ns names k).length ≤ k
  | 0 => Nat.le_refl _
  | k + 1 => by
    rw [startOf_succ]
    unfold startStep
    have := startOf_len ns names k
    split
    · have := len_put (startOf ns names k) (names.getD k "") (numberBy (cellAt ns (500 + k)))
      omega
    · omega
theorem startOf_b (ns : List Int) (names : List Str) : ∀ k, BdN 100 (startOf ns names k)
  | 0 => fun _ h => nomatch h
  | k + 1 => by
    rw [startOf_succ]
    unfold startStep
    split
    · intro p hp
      rcases mem_put hp with hp | rfl
      · exact startOf_b ns names k p hp
      · exact numberBy_b _
    · exact startOf_b ns names k
theorem getD_mem {names : List Str} {k : Nat} (h : k < names.length) : names.getD k "" ∈ names := by
  rw [List.getD_eq_getElem?_getD, List.getElem?_eq_getElem h]
  exact List.getElem_mem h
theorem startOf_ok (ns : List Int) (names : List Str) (hn : ∀ x ∈ names, sOk x) : ∀ k, k ≤ names.length → Dok (startOf ns names k)
  | 0, _ => .nil
  | k + 1, h => by
    rw [startOf_succ]
    unfold startStep
    have ih := startOf_ok ns names hn k (by omega)
    split
    · exact ih.put (hn _ (getD_mem (by omega))) _
    · exact ih
def R__law_start_by : List D → Sl → Prop := fun ds s => ∃ (ns : List Int) (names : List Str), ds = [.scr ns, .lst (names.map D.str)] ∧ names.length ≤ 60 ∧ s = .ok (enN (startBy ns names))
def rd__law_start_by (K : PySem.W.Frag) : TS :=
  (tSeq (tAsg tDNewK (gName 2))
    (tSeq (tFor (iRng1 (tCons (tCB (rLenX K) (tCons (tVar 1) tNil)) tNil)) (gName 3) (tIfS (tTest (tOp rGtX (tOp rModX (tCall (spF K R__law_drawn) [] E0 (tCons (tVar 0) (tCons (tOp (rAddX K) (tC (.int 560)) (tVar 3)) tNil))) (tC (.int 3))) (tC (.int 0)))) (tAsg (tCall (spF K R__law_number_by) [] E0 (tCons (tCall (spF K R__law_cell_at) [] E0 (tCons (tVar 0) (tCons (tOp (rAddX K) (tC (.int 500)) (tVar 3)) tNil))) tNil)) (gSub (tVar 2) (tOp (rIxX K) (tVar 1) (tVar 3)) rSetX)) tNext))
    (tRet (tVar 2))))
theorem sv__law_start_by {K : PySem.W.Frag} : Keeps K R__law_start_by 4 2 (rd__law_start_by K) := by
  rintro ds s ⟨ns, names, rfl, hn, rfl⟩
  refine ⟨rfl, ?_⟩
  show Sv K (rd__law_start_by K) [.im (.scr ns), .im (.lst (names.map D.str)), .un, .un] _
  unfold rd__law_start_by
  refine q_asg (s := .ok (enN [])) ev_newK ?_
  refine sv_seq (sv_forR (n := names.length) (fun i Γ => ∃ x, Γ = [.im (.scr ns), .im (.lst (names.map D.str)), .ok (enN (startOf ns names i)), x])
    (eav_cons ((ev_lenW (ds := names.map D.str) (by wtm_at "evw")).to (by rw [List.length_map])) eav_nil) (by omega) ⟨_, rfl⟩ (fun i Γ' hi hG => ?_) (fun Γ' hG => ?_))
  · obtain ⟨x, rfl⟩ := hG
    have hx : atI (names.map D.str) (i : Int) = some (.str (names.getD i "")) := atI_nat (by rw [List.getElem?_map, List.getD_eq_getElem?_getD, List.getElem?_eq_getElem hi]; rfl)
    have hl := startOf_len ns names i
    rw [startOf_succ]
    refine sv_if (b := decide (0 < drawn ns (560 + i) % 3)) (by wtm_at "evt") (fun h => ?_) (fun h => ?_)
    · rw [show startStep ns names (startOf ns names i) i = _ from if_pos (of_decide_eq_true h)]
      refine sv_putK (i := 2) (kk := .inr (names.getD i "")) rfl (d := .int (numberBy (cellAt ns (500 + i)))) (by wtm_at "evf") (EvO.sc (ev_ix (by wtm_at "evl") (by wtm_at "evv") hx) rfl) (by rw [len_enM]; omega) ?_
      rw [putM_en]
      exact ⟨_, rfl⟩
    · rw [show startStep ns names (startOf ns names i) i = _ from if_neg (of_decide_eq_false h)]
      exact sv_next ⟨_, rfl⟩
  · obtain ⟨x, rfl⟩ := hG
    exact sv_retK rfl rfl
/-! ### _law_slots_same -/
def R__law_slots_same : List D → Sl → Prop := fun ds s => ∃ m : Nums, ds = [.dk (enN m), .dk (enN m)] ∧ (Dok m ∧ m.length ≤ 10000) ∧ s = .im (.bl true)
def rd__law_slots_same (K : PySem.W.Frag) : TS :=
  (tSeq (tIfS (tOr (tNot (tB (tCB (rIsi K) (tCons (tVar 0) (tCons (tC (.ty "dict")) tNil))))) (tTest (tOp (rNeX K) (tVar 0) (tVar 1)))) (tRet (tC (.bl false))) tNext)
    (tSeq (tIfS (tNot (tB (tCB (rAll K) (tCons (tLc (iX K (tCB (rListX K) (tCons (tVar 0) tNil))) (gName 2) tYes (tCB (rIsi K) (tCons (tVar 2) (tCons (tC (.ty "str")) tNil))) [2]) tNil)))) (tRet (tC (.bl false))) tNext)
    (tRet (tCB (rAll K) (tCons (tLc (iX K (tCB (rListX K) (tCons (tVar 0) tNil))) (gName 2) tYes (tCall (spF K R__law_whole) [] E0 (tCons (tOp (rIxX K) (tVar 0) (tVar 2)) tNil)) [2]) tNil)))))
theorem vM_int {m : Nums} (hm : Dok m) {p : Str × Int} (h : p ∈ m) : vD (enN m) (.inr p.1) = some (.int p.2) :=
  vD_nd (nd_enM D.int hm) (List.mem_map.mpr ⟨p, h, rfl⟩)
theorem sv__law_slots_same {K : PySem.W.Frag} : Keeps K R__law_slots_same 3 2 (rd__law_slots_same K) := by
  rintro ds s ⟨m, rfl, ⟨hm, hl⟩, rfl⟩
  refine ⟨rfl, ?_⟩
  show Sv K (rd__law_slots_same K) [.im (.dk (enN m)), .im (.dk (enN m)), .un] _
  unfold rd__law_slots_same
  refine q_when (b := !true || false) (et_or (by wtm_at "evt") fun _ => et_v (ev_nek (kvs := enN m) (by wtm_at "evw") (by wtm_at "evw") (nd_enM _ hm) fun p hp => ?_)) (fun h => by cases h) (fun _ => ?_)
  · obtain ⟨q, _, rfl⟩ := List.mem_map.mp hp
    exact pl_int _
  have hk : ∀ Γ : List Sl, Γ[0]? = some (.im (.dk (enN m))) → EvL K (tCB (rListX K) (tCons (tVar 0) tNil)) Γ (m.map fun p => D.str p.1) := fun Γ h => EvO.ll ((ev_listK (kvs := enN m) (EvO.k (evf_var h)) fun p hp => by
    obtain ⟨q, hq, rfl⟩ := List.mem_map.mp hp
    exact hm.ok _ (List.mem_map.mpr ⟨q, hq, rfl⟩)).to (by rw [show enN m = m.map (fun p => ((.inr p.1 : Key), D.int p.2)) from rfl, List.map_map]; rfl))
  have ha : ∀ l : Nums, ((l.map fun _ => true).all id) = true := fun l => by simp
  refine q_when (b := !((m.map fun _ => true).all id)) (et_not (et_b (ev_all ?_))) (fun h => by rw [ha] at h; cases h) (fun _ => ?_)
  · refine EvO.ll ((ev_lcL (ds := m.map fun p => D.str p.1) (fun _ => true) (fun _ => .bl true) (hk _ rfl) (by rw [List.length_map]; omega) (fun _ _ => et_yes) (fun d hd _ => ?_)).to (by rw [filt_true, List.map_map, List.map_map]; rfl))
    obtain ⟨p, hp, rfl⟩ := List.mem_map.mp hd
    apply EvV.fb
    wtm_at "evv"
  refine sv_ret (s := .im (.bl ((m.map fun _ => true).all id))) (EvV.fb (ev_all ?_)) (by rw [ha])
  refine EvO.ll ((ev_lcL (ds := m.map fun p => D.str p.1) (fun _ => true) (fun _ => .bl true) (hk _ rfl) (by rw [List.length_map]; omega) (fun _ _ => et_yes) (fun d hd _ => ?_)).to (by rw [filt_true, List.map_map, List.map_map]; rfl))
  obtain ⟨p, hp, rfl⟩ := List.mem_map.mp hd
  refine ev_call (ea_cons (ev_ixK (kvs := enN m) (k := .inr p.1) (EvO.k (evf_var rfl)) (show EvV K _ _ (.str p.1) from evv_str rfl) (vM_int hm hp)) ea_nil) ⟨p.2, rfl, rfl⟩
end Sf

namespace Sf
open PySem PySem.Spec PyProof.Rows L2
/-! short words for evaluation: each closes its goal or fails -/
local macro_rules | `(tactic| wtm_at "sd") => `(tactic| first | assumption | exact trivial | omega | ((with_reducible show List.length _ ≤ _); simp only [List.length_cons, List.length_nil]; omega) | decide | rfl | ((with_reducible show sOk _); (show PyData.strOk _ = true); decide +kernel))
local macro_rules | `(tactic| wtm_at "ix") => `(tactic| first | assumption | exact rfl)
local macro_rules | `(tactic| wtm_at "rr") => `(tactic| assumption)
local macro_rules | `(tactic| wtm_at "evp") => `(tactic| first | exact ep_none | (apply ep_some; wtm_at "evv"))
local macro_rules | `(tactic| wtm_at "evav") => `(tactic| first | exact eav_nil | (apply eav_cons; wtm_at "evv"; wtm_at "evav"))
local macro_rules | `(tactic| wtm_at "eva") => `(tactic| first | exact ea_nil | (apply ea_cons; wtm_at "evf"; wtm_at "eva"))
local macro_rules | `(tactic| wtm_at "evaw") => `(tactic| first | exact eaw_nil | (apply eaw_cons; wtm_at "evw"; wtm_at "evaw"))
local macro_rules | `(tactic| wtm_at "evl") => `(tactic| first | exact evl_var rfl | (apply EvO.l; wtm_at "evf") | (apply EvO.ll; wtm_at "evo"))
local macro_rules | `(tactic| wtm_at "evk") => `(tactic| first | exact evk_var rfl | (apply EvO.k; wtm_at "evf"))
local macro_rules | `(tactic| wtm_at "evm") => `(tactic| first | exact evm_var rfl | (apply EvO.m; wtm_at "evf"))
local macro_rules | `(tactic| wtm_at "evw") => `(tactic| first
  | exact EvL.w (evl_var rfl) | exact EvK.w (evk_var rfl) | exact EvM.w (evm_var rfl)
  | (apply EvO.w; wtm_at "evf")
  | (apply EvL.w; wtm_at "evl"))
/-! what a slot may hold: fixed data -/
local macro_rules | `(tactic| wtm_at "evf") => `(tactic| first
  | exact evf_var rfl
  | (apply ev_ixT; wtm_at "evf"; wtm_at "evv"; wtm_at "ix")
  | (apply ev_ix; wtm_at "evl"; wtm_at "evv"; wtm_at "ix")
  | (apply ev_tup; wtm_at "eva"; wtm_at "sd")
  | (apply EvV.fi; wtm_at "evv")
  | (apply EvV.fs; wtm_at "evv")
  | (apply EvV.fb; wtm_at "evv")
  | (apply EvV.fn; wtm_at "evv")
  | (apply ev_call; wtm_at "eva"; wtm_at "rr")
  | (apply ev_callW; wtm_at "evaw"; wtm_at "rr"; wtm_at "sd")
  | (apply EvO.fixL; wtm_at "evo"))
/-! an owned list, a dict -/
local macro_rules | `(tactic| wtm_at "evo") => `(tactic| first
  | (apply ev_lst; wtm_at "eva"; wtm_at "sd")
  | exact ev_newK | exact ev_newT
  | (apply ev_listL; wtm_at "evl")
  | (apply ev_listT; wtm_at "evf")
  | (apply ev_dict; wtm_at "evk")
  | (apply ev_addL; wtm_at "evl"; wtm_at "evl"; wtm_at "sd")
  | (apply ev_slL; wtm_at "evl"; wtm_at "evp"; wtm_at "evp")
  | (apply ev_call; wtm_at "eva"; wtm_at "rr")
  | (apply ev_callW; wtm_at "evaw"; wtm_at "rr"; wtm_at "sd"))
local macro_rules | `(tactic| wtm_at "evv") => `(tactic| first
  | exact evv_c
  | exact evv_int rfl
  | exact evv_str rfl
  | exact evv_bl rfl
  | exact evv_non rfl
  | (apply ev_add; wtm_at "evv"; wtm_at "evv")
  | (apply ev_cat; wtm_at "evv"; wtm_at "evv"; wtm_at "sd")
  | (apply ev_sub; wtm_at "evv"; wtm_at "evv")
  | (apply ev_mul; wtm_at "evv"; wtm_at "evv"; wtm_at "mu")
  | (apply ev_div; wtm_at "evv"; wtm_at "evv"; wtm_at "sd")
  | (apply ev_mod; wtm_at "evv"; wtm_at "evv"; wtm_at "sd")
  | (apply ev_neg; wtm_at "evv")
  | (apply ev_lt; wtm_at "evv"; wtm_at "evv")
  | (apply ev_le; wtm_at "evv"; wtm_at "evv")
  | (apply ev_gt; wtm_at "evv"; wtm_at "evv")
  | (apply ev_ge; wtm_at "evv"; wtm_at "evv")
  | (apply ev_eqi; wtm_at "evv"; wtm_at "evv")
  | (apply ev_eqs; wtm_at "evv"; wtm_at "evv")
  | (apply ev_nei; wtm_at "evv"; wtm_at "evv")
  | (apply ev_nes; wtm_at "evv"; wtm_at "evv")
  | (apply ev_eqb; wtm_at "evv"; wtm_at "evv")
  | (apply ev_neb; wtm_at "evv"; wtm_at "evv")
  | (apply ev_min; wtm_at "evv"; wtm_at "evv")
  | (apply ev_max; wtm_at "evv"; wtm_at "evv")
  | (apply ev_intb; wtm_at "evv")
  | (apply ev_lens; wtm_at "evv"; wtm_at "sd")
  | (apply ev_lenR; wtm_at "evw")
  | (apply ev_lenW; wtm_at "evw")
  | (apply ev_lenT; wtm_at "evw")
  | (apply ev_ixR; wtm_at "evf"; wtm_at "evv"; wtm_at "ix")
  | (apply ev_ixS; wtm_at "evv"; wtm_at "evv"; wtm_at "sd"; wtm_at "ix")
  | (apply ev_slS; wtm_at "evv"; wtm_at "sd"; wtm_at "evp"; wtm_at "evp")
  | (apply ev_nis; wtm_at "evv"; wtm_at "evv")
  | (apply ev_ins; wtm_at "evv"; wtm_at "evv")
  | (apply ev_inK; wtm_at "evv"; wtm_at "evk")
  | (apply ev_niK; wtm_at "evv"; wtm_at "evk")
  | (apply ev_andV; wtm_at "evv"; (intro _; wtm_at "evv"))
  | (apply ev_orV; wtm_at "evv"; (intro _; wtm_at "evv"))
  | (apply ev_notV; wtm_at "evv")
  | (apply ev_isN; wtm_at "evw")
  | (apply ev_ntN; wtm_at "evw")
  | (apply ev_isi_lst true; wtm_at "evw"; decide +kernel)
  | (apply ev_isi_lst false; wtm_at "evw"; decide +kernel)
  | (apply ev_isi_tup true; wtm_at "evw"; decide +kernel)
  | (apply ev_isi_tup false; wtm_at "evw"; decide +kernel)
  | (apply ev_isi_str true; wtm_at "evw"; decide +kernel)
  | (apply ev_isi_str false; wtm_at "evw"; decide +kernel)
  | (apply ev_isi_int true; wtm_at "evw"; decide +kernel)
  | (apply ev_isi_int false; wtm_at "evw"; decide +kernel)
  | (apply ev_isi_bl true; wtm_at "evw"; decide +kernel)
  | (apply ev_isi_bl false; wtm_at "evw"; decide +kernel)
  | (apply ev_isi_non true; wtm_at "evw"; decide +kernel)
  | (apply ev_isi_non false; wtm_at "evw"; decide +kernel)
  | (apply ev_isi_dk true; wtm_at "evw"; decide +kernel)
  | (apply ev_isi_dk false; wtm_at "evw"; decide +kernel)
  | (apply EvO.sc; wtm_at "evf1"; exact rfl))
/-! data that is a scalar: what is not made of scalars -/
local macro_rules | `(tactic| wtm_at "evf1") => `(tactic| first
  | (apply ev_ixT; wtm_at "evf"; wtm_at "evv"; wtm_at "ix")
  | (apply ev_ix; wtm_at "evl"; wtm_at "evv"; wtm_at "ix")
  | (apply ev_ixKT; wtm_at "evf"; wtm_at "evv"; wtm_at "ix")
  | (apply ev_get; wtm_at "evk"; wtm_at "evv"; wtm_at "evf")
  | (apply ev_call; wtm_at "eva"; wtm_at "rr")
  | (apply ev_callW; wtm_at "evaw"; wtm_at "rr"; wtm_at "sd"))
local macro_rules | `(tactic| wtm_at "mu") => `(tactic| first
  | assumption
  | (apply mul_ok_l; omega)
  | (apply mul_ok_r; omega))
local macro_rules | `(tactic| wtm_at "evt") => `(tactic| first
  | exact et_yes
  | (apply et_v; wtm_at "evv")
  | (apply et_b; wtm_at "evv")
  | (apply et_and; wtm_at "evt"; (intro _; wtm_at "evt"))
  | (apply et_or; wtm_at "evt"; (intro _; wtm_at "evt"))
  | (apply et_not; wtm_at "evt"))
/-! a name gets a value, and what follows -/
local macro_rules | `(tactic| wtm_at "ev") => `(tactic| first | wtm_at "evf" | wtm_at "evo")
local macro_rules | `(tactic| wtm_at "rr") => `(tactic| exact ⟨_, _, rfl, (by omega), rfl⟩)
local macro_rules | `(tactic| wtm_at "rr") => `(tactic| exact ⟨_, rfl, rfl⟩)
/-! ### _law_ways_by -/
def wayMany (ns : List Int) (k : Int) : Int :=
  let c := drawn ns (6 + k)
  let m := if c / 4 % 4 = 1 then c / 16 % 10 else c % 4
  if (if decide (k % 100 = 0) = true then (1 : Int) else 0) > m then (if decide (k % 100 = 0) = true then (1 : Int) else 0) else m
def waySt (ns : List Int) (k size : Int) : Nat → Int × List Int
  | 0 => (drawn ns (6 + k) / 160, [])
  | n + 1 => ((waySt ns k size n).1 / size + 7919 * n, (waySt ns k size n).2 ++ [(waySt ns k size n).1 % size])
def waysBy (ns : List Int) (k size : Int) : List Int :=
  let w := (waySt ns k size (wayMany ns k).toNat).2
  if drawn ns 5 % 3 = 1 ∧ wayMany ns k < 9 ∧ size < 21 then (k % 100 - 1) % size :: w else w
theorem wayMany_b (ns : List Int) (k : Int) : 0 ≤ wayMany ns k ∧ wayMany ns k ≤ 9 := by
  unfold wayMany
  have := drawn_b ns (6 + k)
  dsimp only
  split <;> split <;> split <;> omega
theorem waySt_len (ns : List Int) (k size : Int) : ∀ n, (waySt ns k size n).2.length = n
  | 0 => rfl
  | n + 1 => by
    show ((waySt ns k size n).2 ++ [_]).length = _
    rw [List.length_append, waySt_len ns k size n]
    rfl
theorem waySt_in (ns : List Int) (k : Int) {size : Int} (hs : 0 < size) : ∀ n, ∀ w ∈ (waySt ns k size n).2, 0 ≤ w ∧ w < size
  | 0, _, h => nomatch h
  | n + 1, w, h => by
    rcases List.mem_append.mp (show w ∈ (waySt ns k size n).2 ++ [_] from h) with h | h
    · exact waySt_in ns k hs n w h
    · rw [List.mem_singleton.mp h]
      exact ⟨Int.emod_nonneg _ (by omega), Int.emod_lt_of_pos _ hs⟩
theorem waysBy_in (ns : List Int) (k : Int) {size : Int} (hs : 0 < size) : ∀ w ∈ waysBy ns k size, 0 ≤ w ∧ w < size := by
  unfold waysBy
  dsimp only
  split
  · intro w h
    rcases List.mem_cons.mp h with rfl | h
    · exact ⟨Int.emod_nonneg _ (by omega), Int.emod_lt_of_pos _ hs⟩
    · exact waySt_in ns k hs _ w h
  · exact waySt_in ns k hs _
theorem waysBy_len (ns : List Int) (k size : Int) : (waysBy ns k size).length ≤ 9 := by
  have := wayMany_b ns k
  unfold waysBy
  dsimp only
  split
  · rename_i h
    rw [List.length_cons, waySt_len]
    omega
  · rw [waySt_len]
    omega
def R__law_ways_by : List D → Sl → Prop := fun ds s => ∃ (ns : List Int) (k size : Int), ds = [.scr ns, .int k, .int size] ∧ (0 ≤ k ∧ k ≤ 1000 ∧ 0 < size ∧ size ≤ 60) ∧ s = .ow ((waysBy ns k size).map D.int)
def rd__law_ways_by (K : PySem.W.Frag) : TS :=
  (tSeq (tAsg (tCall (spF K R__law_drawn) [] E0 (tCons (tVar 0) (tCons (tOp (rAddX K) (tC (.int 6)) (tVar 1)) tNil))) (gName 3))
    (tSeq (tAsg (tOp rModX (tVar 3) (tC (.int 4))) (gName 4))
    (tSeq (tIfS (tTest (tOp (rEqX K) (tOp rModX (tOp rDivX (tVar 3) (tC (.int 4))) (tC (.int 4))) (tC (.int 1)))) (tAsg (tOp rModX (tOp rDivX (tVar 3) (tC (.int 16))) (tC (.int 10))) (gName 4)) tNext)
    (tSeq (tAsg (tCB rMaxX (tCons (tVar 4) (tCons (tCB rIntX (tCons (tOp (rEqX K) (tOp rModX (tVar 1) (tC (.int 100))) (tC (.int 0))) tNil)) tNil))) (gName 4))
    (tSeq (tAsg (tOp rDivX (tVar 3) (tC (.int 160))) (gName 5))
    (tSeq (tAsg (tLst tNil) (gName 6))
    (tSeq (tFor (iRng1 (tCons (tVar 4) tNil)) (gName 7) (tSeq (tDrop (tBM K "list" rAppend (tVar 6) (tCons (tOp rModX (tVar 5) (tVar 2)) tNil)))
    (tAsg (tOp (rAddX K) (tOp rDivX (tVar 5) (tVar 2)) (tOp rMulX (tC (.int 7919)) (tVar 7))) (gName 5))))
    (tSeq (tIfS (tAnd (tTest (tOp (rEqX K) (tOp rModX (tCall (spF K R__law_drawn) [] E0 (tCons (tVar 0) (tCons (tC (.int 5)) tNil))) (tC (.int 3))) (tC (.int 1)))) (tAnd (tTest (tOp rLtX (tVar 4) (tC (.int 9)))) (tTest (tOp rLtX (tVar 2) (tC (.int 21)))))) (tDrop (tBM K "list" rInsert (tVar 6) (tCons (tC (.int 0)) (tCons (tOp rModX (tOp rSubX (tOp rModX (tVar 1) (tC (.int 100))) (tC (.int 1))) (tVar 2)) tNil)))) tNext)
    (tRet (tVar 6))))))))))
theorem sv__law_ways_by {K : PySem.W.Frag} : Keeps K R__law_ways_by 8 3 (rd__law_ways_by K) := by
  rintro ds s ⟨ns, k, size, rfl, hk, rfl⟩
  refine ⟨rfl, ?_⟩
  show Sv K (rd__law_ways_by K) [.im (.scr ns), .im (.int k), .im (.int size), .un, .un, .un, .un, .un] _
  unfold rd__law_ways_by
  have hw : ∀ n, (((waySt ns k size n).2.map D.int).length : Int) = n := fun n => by rw [List.length_map, waySt_len]
  refine q_asg (s := .im (.int (drawn ns (6 + k)))) (by wtm_at "ev") ?_
  refine q_asg (s := .im (.int (drawn ns (6 + k) % 4))) (by wtm_at "ev") ?_
  have hb := drawn_b ns (6 + k)
  refine sv_cut (fun Γ => Γ = [.im (.scr ns), .im (.int k), .im (.int size), .im (.int (drawn ns (6 + k))), .im (.int (if drawn ns (6 + k) / 4 % 4 = 1 then drawn ns (6 + k) / 16 % 10 else drawn ns (6 + k) % 4)), .un, .un, .un]) ?_ ?_
  · refine sv_if (b := decide (drawn ns (6 + k) / 4 % 4 = 1)) (by wtm_at "evt") (fun h => ?_) (fun h => ?_)
    · rw [if_pos (of_decide_eq_true h)]
      exact sv_asg (s := .im (.int (drawn ns (6 + k) / 16 % 10))) (by wtm_at "ev") rfl
    · rw [if_neg (of_decide_eq_false h)]
      exact sv_next rfl
  rintro Γ' rfl
  refine q_asg (s := .im (.int (wayMany ns k))) (by unfold wayMany; wtm_at "ev") ?_
  have hm := wayMany_b ns k
  have hmn : ((wayMany ns k).toNat : Int) = wayMany ns k := by omega
  refine q_asg (s := .im (.int (drawn ns (6 + k) / 160))) (by wtm_at "ev") ?_
  refine q_asg (s := .ow []) (by wtm_at "ev") ?_
  refine sv_seq (sv_forR (n := (wayMany ns k).toNat) (fun i Γ => ∃ x, Γ = [.im (.scr ns), .im (.int k), .im (.int size), .im (.int (drawn ns (6 + k))), .im (.int (wayMany ns k)), .im (.int (waySt ns k size i).1), .ow ((waySt ns k size i).2.map D.int), x])
    (by rw [hmn]; wtm_at "evav") (by omega) ⟨_, rfl⟩ (fun i Γ' hi hG => ?_) (fun Γ' hG => ?_))
  · obtain ⟨x, rfl⟩ := hG
    have hwi := hw i
    refine sv_seq (sv_app (i := 6) rfl (d := .int ((waySt ns k size i).1 % size)) (by wtm_at "evf") (by omega) ?_)
    refine sv_asg (s := .im (.int ((waySt ns k size i).1 / size + 7919 * i))) (by wtm_at "ev") ⟨.im (.int i), ?_⟩
    show _ = [_, _, _, _, _, _, Sl.ow (((waySt ns k size i).2 ++ [_]).map D.int), _]
    rw [List.map_append]
    rfl
  · obtain ⟨x, rfl⟩ := hG
    have hl := hw (wayMany ns k).toNat
    refine sv_cut (fun Γ => Γ = [.im (.scr ns), .im (.int k), .im (.int size), .im (.int (drawn ns (6 + k))), .im (.int (wayMany ns k)), .im (.int (waySt ns k size (wayMany ns k).toNat).1), .ow ((waysBy ns k size).map D.int), x]) ?_ ?_
    · refine sv_if (b := decide (drawn ns 5 % 3 = 1) && (decide (wayMany ns k < 9) && decide (size < 21))) (by wtm_at "evt") (fun h => ?_) (fun h => ?_)
      · simp only [Bool.and_eq_true, decide_eq_true_eq] at h
        rw [show waysBy ns k size = _ from if_pos h]
        refine sv_ins (i := 6) (n := 0) rfl (by wtm_at "evv") (Nat.zero_le _) (d := .int ((k % 100 - 1) % size)) (by wtm_at "evf") (by omega) ?_
        rfl
      · rw [show waysBy ns k size = _ from if_neg (by
          rintro ⟨a, b, c⟩
          rw [decide_eq_true a, decide_eq_true b, decide_eq_true c] at h
          cases h)]
        exact sv_next rfl
    rintro Γ' rfl
    exact sv_retL rfl rfl
/-! ### _law_program_by -/
def bkOf (b : Block) : Bk := (b.1.map en, b.2.map D.int)
theorem dP_en (p : Prog) : dP (p.map bkOf) = en p := by
  unfold dP
  rw [List.map_map]
  rfl
def rowsIn (p : Prog) (k : Nat) : List Row := ((p[k]?).map (·.1)).getD []
def waysIn (p : Prog) (k : Nat) : List Int := ((p[k]?).map (·.2)).getD []
def addRow (p : Prog) (k : Nat) (r : Row) : Prog := p.set k (rowsIn p k ++ [r], waysIn p k)
def sizeBy (ns : List Int) (names : List Str) : Int := if drawn ns 0 / 102 % 8 = 1 then 1 + drawn ns 0 / 816 % (if (5 : Int) < names.length then 12 else 60) else 1 + drawn ns 0 % 6
def rowMany (ns : List Int) (names : List Str) : Int := if drawn ns 0 / 102 % 8 = 1 then drawn ns 0 / 6 % 17 + sizeBy ns names else drawn ns 0 / 6 % 17
theorem sizeBy_b (ns : List Int) (names : List Str) : 1 ≤ sizeBy ns names ∧ sizeBy ns names ≤ 60 := by
  unfold sizeBy
  split
  · split <;> omega
  · omega
theorem rowMany_b (ns : List Int) (names : List Str) : 0 ≤ rowMany ns names ∧ rowMany ns names ≤ 76 := by
  have := sizeBy_b ns names
  unfold rowMany
  split <;> omega
def prog0 (ns : List Int) (size : Nat) : Prog := (List.range size).map fun (k : Nat) => ([], waysBy ns (400 + k) size)
def scan (p : Prog) (size at0 : Nat) : Nat → Nat
  | 0 => at0
  | n + 1 => if 39 < (rowsIn p (scan p size at0 n)).length then (scan p size at0 n + 1) % size else scan p size at0 n
def at0By (ns : List Int) (size k : Nat) : Nat := (if drawn ns 3 % 8 = 1 then drawn ns 0 % size else drawn ns (6 + k) / 1009 % size).toNat
def progStep (ns : List Int) (names : List Str) (size : Nat) (p : Prog) (k : Nat) : Prog :=
  addRow p (scan p size (at0By ns size k) size) (rowBy (drawn ns (6 + k) * 69621 % 2147483647) names (ownSign ns k))
def progOf (ns : List Int) (names : List Str) (size : Nat) : Nat → Prog
  | 0 => prog0 ns size
  | n + 1 => progStep ns names size (progOf ns names size n) n
def programBy (ns : List Int) (names : List Str) : Prog := progOf ns names (sizeBy ns names).toNat (rowMany ns names).toNat
theorem addRow_len (p : Prog) (k : Nat) (r : Row) : (addRow p k r).length = p.length := by unfold addRow; rw [List.length_set]
theorem progOf_len (ns : List Int) (names : List Str) (size : Nat) : ∀ n, (progOf ns names size n).length = size
  | 0 => by show (prog0 ns size).length = _; unfold prog0; rw [List.length_map, List.length_range]
  | n + 1 => by
    show (addRow _ _ _).length = _
    rw [addRow_len, progOf_len ns names size n]
theorem scan_lt {p : Prog} {size at0 : Nat} (h : at0 < size) : ∀ n, scan p size at0 n < size
  | 0 => h
  | n + 1 => by
    unfold scan
    split
    · exact Nat.mod_lt _ (by omega)
    · exact scan_lt h n
theorem at0By_lt (ns : List Int) {size k : Nat} (h : 0 < size) : at0By ns size k < size := by
  unfold at0By
  have h1 := Int.emod_nonneg (drawn ns 0) (show (size : Int) ≠ 0 by omega)
  have h2 := Int.emod_lt_of_pos (drawn ns 0) (show (0 : Int) < size by omega)
  have h3 := Int.emod_nonneg (drawn ns (6 + k) / 1009) (show (size : Int) ≠ 0 by omega)
  have h4 := Int.emod_lt_of_pos (drawn ns (6 + k) / 1009) (show (0 : Int) < size by omega)
  split <;> omega
theorem rowsIn_some {p : Prog} {k : Nat} (h : k < p.length) : p[k]? = some (rowsIn p k, waysIn p k) := by
  unfold rowsIn waysIn
  rw [List.getElem?_eq_getElem h]
  rfl
theorem bk_at {p : Prog} {k : Nat} (h : k < p.length) : (p.map bkOf)[k]? = some ((rowsIn p k).map en, (waysIn p k).map D.int) := by
  rw [List.getElem?_map, rowsIn_some h]
  rfl
theorem bk_set (p : Prog) (k : Nat) (rows : List Row) (ways : List Int) : (p.map bkOf).set k (rows.map en, ways.map D.int) = (p.set k (rows, ways)).map bkOf := by
  rw [List.map_set]
  rfl
def R__law_program_by : List D → Sl → Prop := fun ds s => ∃ (ns : List Int) (names : List Str), ds = [.scr ns, .lst (names.map D.str)] ∧ (ns.length ≤ 63 ∧ names ≠ [] ∧ names.length ≤ 60) ∧ s = .pg ((programBy ns names).map bkOf)
section
variable {K : PySem.W.Frag} {Γ : List Sl} {te ta tb : TE} {p : Prog} {i k : Nat}
theorem ev_pgen (h : Γ[i]? = some (.pg (p.map bkOf))) : EvW K (tVar i) Γ (en p) := by
  have := ev_pgw (K := K) h
  rw [dP_en] at this
  exact this
/-- p[k][0], p[k][1], as they stand -/
theorem ev_rowsW {n : Int} (h : EvW K te Γ (en p)) (ha : EvV K ta Γ (.int n)) (hn : n = (k : Int)) (hk : k < p.length) : EvW K (tOp (rIxX K) (tOp (rIxX K) te ta) (tC (.int 0))) Γ (en (rowsIn p k)) := by
  subst hn
  refine ev_ixTW (ds := [en (rowsIn p k), en (waysIn p k)]) (ev_ixW (ds := p.map en) h ha (atI_nat ?_)) evv_c rfl
  rw [List.getElem?_map, rowsIn_some hk]
  rfl
theorem ev_waysW {n : Int} (h : EvW K te Γ (en p)) (ha : EvV K ta Γ (.int n)) (hn : n = (k : Int)) (hk : k < p.length) : EvW K (tOp (rIxX K) (tOp (rIxX K) te ta) (tC (.int 1))) Γ (en (waysIn p k)) := by
  subst hn
  refine ev_ixTW (ds := [en (rowsIn p k), en (waysIn p k)]) (ev_ixW (ds := p.map en) h ha (atI_nat ?_)) evv_c rfl
  rw [List.getElem?_map, rowsIn_some hk]
  rfl
theorem ev_rows {n : Int} (h : EvF K te Γ (en p)) (ha : EvV K ta Γ (.int n)) (hn : n = (k : Int)) (hk : k < p.length) : EvF K (tOp (rIxX K) (tOp (rIxX K) te ta) (tC (.int 0))) Γ (en (rowsIn p k)) := by
  subst hn
  refine ev_ixT (ds := [en (rowsIn p k), en (waysIn p k)]) (ev_ix (ds := p.map en) (EvO.l h) ha (atI_nat ?_)) evv_c rfl
  rw [List.getElem?_map, rowsIn_some hk]
  rfl
theorem ev_ways {n : Int} (h : EvF K te Γ (en p)) (ha : EvV K ta Γ (.int n)) (hn : n = (k : Int)) (hk : k < p.length) : EvF K (tOp (rIxX K) (tOp (rIxX K) te ta) (tC (.int 1))) Γ (en (waysIn p k)) := by
  subst hn
  refine ev_ixT (ds := [en (rowsIn p k), en (waysIn p k)]) (ev_ix (ds := p.map en) (EvO.l h) ha (atI_nat ?_)) evv_c rfl
  rw [List.getElem?_map, rowsIn_some hk]
  rfl
theorem ev_lenE {α : Type} [En α] {l : List α} (h : EvW K te Γ (en l)) : EvV K (tCB (rLenX K) (tCons te tNil)) Γ (.int l.length) := (ev_lenW (ds := l.map en) h).to (by rw [List.length_map])
end
def rd__law_program_by (K : PySem.W.Frag) : TS :=
  (tSeq (tAsg (tCall (spF K R__law_drawn) [] E0 (tCons (tVar 0) (tCons (tC (.int 0)) tNil))) (gName 2))
    (tSeq (tAsg (tOp (rAddX K) (tC (.int 1)) (tOp rModX (tVar 2) (tC (.int 6)))) (gName 3))
    (tSeq (tAsg (tOp rModX (tOp rDivX (tVar 2) (tC (.int 6))) (tC (.int 17))) (gName 4))
    (tSeq (tIfS (tTest (tOp (rEqX K) (tOp rModX (tOp rDivX (tVar 2) (tC (.int 102))) (tC (.int 8))) (tC (.int 1)))) (tSeq (tAsg (tOp (rAddX K) (tC (.int 1)) (tOp rModX (tOp rDivX (tVar 2) (tC (.int 816))) (tOp (rIxX K) (tLst (tCons (tC (.int 60)) (tCons (tC (.int 12)) tNil))) (tCB rIntX (tCons (tOp rGtX (tCB (rLenX K) (tCons (tVar 1) tNil)) (tC (.int 5))) tNil))))) (gName 3))
    (tAsg (tOp (rAddX K) (tVar 4) (tVar 3)) (gName 4))) tNext)
    (tSeq (tIfS (tAnd (tTest (tOp rGtX (tCB (rLenX K) (tCons (tVar 0) tNil)) (tC (.int 63)))) (tTest (tOp (rEqX K) (tOp rModX (tOp rDivX (tVar 2) (tC (.int 102))) (tC (.int 8))) (tC (.int 2))))) (tAsg (tOp rMulX (tC (.int 39)) (tVar 3)) (gName 4)) tNext)
    (tSeq (tAsg (tLc (iRng1 (tCons (tVar 3) tNil)) (gName 5) tYes (tTup (tCons (tLst tNil) (tCons (tCall (spF K R__law_ways_by) [] E0 (tCons (tVar 0) (tCons (tOp (rAddX K) (tC (.int 400)) (tVar 5)) (tCons (tVar 3) tNil)))) tNil))) [5]) (gName 6))
    (tSeq (tFor (iRng1 (tCons (tVar 4) tNil)) (gName 5) (tSeq (tAsg (tCall (spF K R__law_drawn) [] E0 (tCons (tVar 0) (tCons (tOp (rAddX K) (tC (.int 6)) (tVar 5)) tNil))) (gName 7))
    (tSeq (tAsg (tOp rModX (tOp rDivX (tVar 7) (tC (.int 1009))) (tVar 3)) (gName 8))
    (tSeq (tIfS (tTest (tOp (rEqX K) (tOp rModX (tCall (spF K R__law_drawn) [] E0 (tCons (tVar 0) (tCons (tC (.int 3)) tNil))) (tC (.int 8))) (tC (.int 1)))) (tAsg (tOp rModX (tVar 2) (tVar 3)) (gName 8)) tNext)
    (tSeq (tFor (iRng1 (tCons (tVar 3) tNil)) (gName 9) (tIfS (tTest (tOp rGtX (tCB (rLenX K) (tCons (tOp (rIxX K) (tOp (rIxX K) (tVar 6) (tVar 8)) (tC (.int 0))) tNil)) (tC (.int 39)))) (tAsg (tOp rModX (tOp (rAddX K) (tVar 8) (tC (.int 1))) (tVar 3)) (gName 8)) tNext))
    (tSeq (tAsg (tCall (spF K R__law_own_sign) [] E0 (tCons (tVar 0) (tCons (tVar 5) tNil))) (gName 10))
    (tDrop (tBM K "list" rAppend (tOp (rIxX K) (tOp (rIxX K) (tVar 6) (tVar 8)) (tC (.int 0))) (tCons (tCall (spF K R__law_row_by) [] E0 (tCons (tOp rModX (tOp rMulX (tVar 7) (tC (.int 69621))) (tC (.int 2147483647))) (tCons (tVar 1) (tCons (tVar 10) tNil)))) tNil)))))))))
    (tRet (tVar 6)))))))))
theorem rowsIn_len {p : Prog} {n : Nat} (h : ∀ b ∈ p, b.1.length ≤ n) (k : Nat) : (rowsIn p k).length ≤ n := by
  unfold rowsIn
  cases e : p[k]? with
  | none => exact Nat.zero_le _
  | some b => exact h b (List.mem_of_getElem? e)
theorem addRow_le {p : Prog} {n k : Nat} {r : Row} (h : ∀ b ∈ p, b.1.length ≤ n) : ∀ b ∈ addRow p k r, b.1.length ≤ n + 1 := by
  intro b hb
  rcases List.mem_or_eq_of_mem_set hb with hb | rfl
  · exact Nat.le_succ_of_le (h b hb)
  · show (rowsIn p k ++ [r]).length ≤ n + 1
    rw [List.length_append]
    exact Nat.succ_le_succ (rowsIn_len h k)
theorem progOf_le (ns : List Int) (names : List Str) (size : Nat) : ∀ n, ∀ b ∈ progOf ns names size n, b.1.length ≤ n
  | 0, b, hb => by
    obtain ⟨k, _, rfl⟩ := List.mem_map.mp (show b ∈ (List.range size).map _ from hb)
    exact Nat.le_refl _
  | n + 1, b, hb => addRow_le (progOf_le ns names size n) b hb
theorem sv__law_program_by {K : PySem.W.Frag} : Keeps K R__law_program_by 11 2 (rd__law_program_by K) := by
  rintro ds s ⟨ns, names, rfl, ⟨hns, hn⟩, rfl⟩
  refine ⟨rfl, ?_⟩
  show Sv K (rd__law_program_by K) [.im (.scr ns), .im (.lst (names.map D.str)), .un, .un, .un, .un, .un, .un, .un, .un, .un] _
  unfold rd__law_program_by
  have hd := drawn_b ns 0
  have hsz := sizeBy_b ns names
  have hmy := rowMany_b ns names
  refine q_asg (s := .im (.int (drawn ns 0))) (by wtm_at "ev") ?_
  refine q_asg (s := .im (.int (1 + drawn ns 0 % 6))) (by wtm_at "ev") ?_
  refine q_asg (s := .im (.int (drawn ns 0 / 6 % 17))) (by wtm_at "ev") ?_
  have hlen : ∀ Γ : List Sl, Γ[1]? = some (.im (.lst (names.map D.str))) → EvV K (tCB (rLenX K) (tCons (tVar 1) tNil)) Γ (.int names.length) := fun Γ h => (ev_lenW (ds := names.map D.str) (EvO.w (evf_var h))).to (by rw [List.length_map])
  refine sv_cut (fun Γ => Γ = [.im (.scr ns), .im (.lst (names.map D.str)), .im (.int (drawn ns 0)), .im (.int (sizeBy ns names)), .im (.int (rowMany ns names)), .un, .un, .un, .un, .un, .un]) ?_ ?_
  · refine sv_if (b := decide (drawn ns 0 / 102 % 8 = 1)) (by wtm_at "evt") (fun h => ?_) (fun h => ?_)
    · have h := of_decide_eq_true h
      refine q_asg (s := .im (.int (sizeBy ns names))) ?_ ?_
      · rw [show sizeBy ns names = _ from if_pos h]
        refine EvV.fi (ev_add (by wtm_at "evv") (ev_mod (by wtm_at "evv") (EvO.sc (d := .int (if (5 : Int) < names.length then 12 else 60)) (ev_ix (ds := [.int 60, .int 12]) (EvO.ll (by wtm_at "evo")) (ev_intb (ev_gt (hlen _ rfl) (by wtm_at "evv"))) ?_) rfl) (by split <;> omega)))
        by_cases h5 : (5 : Int) < names.length
        · rw [decide_eq_true h5, if_pos h5]
          rfl
        · rw [decide_eq_false h5, if_neg h5]
          rfl
      · refine sv_asg (s := .im (.int (rowMany ns names))) ?_ rfl
        rw [show rowMany ns names = _ from if_pos h]
        wtm_at "ev"
    · have h := of_decide_eq_false h
      rw [show sizeBy ns names = _ from if_neg h, show rowMany ns names = _ from if_neg h]
      exact sv_next rfl
  rintro Γ' rfl
  refine q_when (b := decide (63 < (ns.length : Int)) && decide (drawn ns 0 / 102 % 8 = 2)) (by wtm_at "evt") (fun h => ?_) (fun _ => ?_)
  · simp only [Bool.and_eq_true, decide_eq_true_eq] at h
    omega
  show Sv K _ _ ⟨_, _, _, fun s' => s' = .pg ((progOf ns names (sizeBy ns names).toNat (rowMany ns names).toNat).map bkOf)⟩
  obtain ⟨size, hsize⟩ : ∃ size : Nat, sizeBy ns names = size := ⟨(sizeBy ns names).toNat, by omega⟩
  obtain ⟨many, hmany⟩ : ∃ many : Nat, rowMany ns names = many := ⟨(rowMany ns names).toNat, by omega⟩
  rw [hsize] at hsz ⊢
  rw [hmany] at hmy ⊢
  rw [show ((size : Int)).toNat = size by omega, show ((many : Int)).toNat = many by omega]
  have hs0 : 0 < size := by omega
  have hs1 : (0 : Int) < size := by omega
  refine q_asg (s := .pg ((prog0 ns size).map bkOf)) ?_ ?_
  · refine (ev_pgR (n := size) (fun k => bkOf ([], waysBy ns (400 + k) size)) (by wtm_at "evav") (by omega) (fun k hk => ?_)).to ?_
    · exact ev_pair (ds := []) (es := (waysBy ns (400 + k) size).map D.int) (show EvO K _ _ (.ow []) by wtm_at "evo") (ev_call (by wtm_at "eva") ⟨ns, 400 + k, size, rfl, (by omega), rfl⟩)
    · unfold prog0
      rw [List.map_map]
      rfl
  refine sv_seq (sv_forR (n := many) (fun i Γ => ∃ x0 x1 x2 x3 x4, Γ = [.im (.scr ns), .im (.lst (names.map D.str)), .im (.int (drawn ns 0)), .im (.int size), .im (.int many), x0, .pg ((progOf ns names size i).map bkOf), x1, x2, x3, x4])
    (by wtm_at "evav") (by omega) ⟨_, _, _, _, _, rfl⟩ (fun i Γ' hi hG => ?_) (fun Γ' hG => ?_))
  · obtain ⟨x0, x1, x2, x3, x4, rfl⟩ := hG
    have hpl := progOf_len ns names size i
    have hpe := progOf_le ns names size i
    show Sv K _ _ ⟨fun Γ => ∃ x0 x1 x2 x3 x4, Γ = [.im (.scr ns), .im (.lst (names.map D.str)), .im (.int (drawn ns 0)), .im (.int size), .im (.int many), x0, .pg ((progStep ns names size (progOf ns names size i) i).map bkOf), x1, x2, x3, x4], _, fun Γ => ∃ x0 x1 x2 x3 x4, Γ = [.im (.scr ns), .im (.lst (names.map D.str)), .im (.int (drawn ns 0)), .im (.int size), .im (.int many), x0, .pg ((progStep ns names size (progOf ns names size i) i).map bkOf), x1, x2, x3, x4], _⟩
    unfold progStep
    generalize progOf ns names size i = p at hpl hpe
    have ha0 := at0By_lt ns (k := i) hs0
    have hb := drawn_b ns (6 + i)
    refine q_asg (s := .im (.int (drawn ns (6 + i)))) (by wtm_at "ev") ?_
    refine q_asg (s := .im (.int (drawn ns (6 + i) / 1009 % size))) (by wtm_at "ev") ?_
    refine sv_cut (fun Γ => Γ = [.im (.scr ns), .im (.lst (names.map D.str)), .im (.int (drawn ns 0)), .im (.int size), .im (.int many), .im (.int i), .pg (p.map bkOf), .im (.int (drawn ns (6 + i))), .im (.int (at0By ns size i)), x3, x4]) ?_ ?_
    · have e : (at0By ns size i : Int) = if drawn ns 3 % 8 = 1 then drawn ns 0 % size else drawn ns (6 + i) / 1009 % size := by
        unfold at0By
        have h1 := Int.emod_nonneg (drawn ns 0) (show (size : Int) ≠ 0 by omega)
        have h3 := Int.emod_nonneg (drawn ns (6 + i) / 1009) (show (size : Int) ≠ 0 by omega)
        split <;> omega
      rw [e]
      refine sv_if (b := decide (drawn ns 3 % 8 = 1)) (by wtm_at "evt") (fun h => ?_) (fun h => ?_)
      · rw [if_pos (of_decide_eq_true h)]
        exact sv_asg (s := .im (.int (drawn ns 0 % size))) (by wtm_at "ev") rfl
      · rw [if_neg (of_decide_eq_false h)]
        exact sv_next rfl
    rintro Γ' rfl
    refine sv_cut (fun Γ => ∃ x3, Γ = [.im (.scr ns), .im (.lst (names.map D.str)), .im (.int (drawn ns 0)), .im (.int size), .im (.int many), .im (.int i), .pg (p.map bkOf), .im (.int (drawn ns (6 + i))), .im (.int (scan p size (at0By ns size i) size)), x3, x4]) ?_ ?_
    · refine sv_forR (n := size) (fun t Γ => ∃ x3, Γ = [.im (.scr ns), .im (.lst (names.map D.str)), .im (.int (drawn ns 0)), .im (.int size), .im (.int many), .im (.int i), .pg (p.map bkOf), .im (.int (drawn ns (6 + i))), .im (.int (scan p size (at0By ns size i) t)), x3, x4])
        (by wtm_at "evav") (by omega) ⟨_, rfl⟩ (fun t Γ' ht hG => ?_) (fun Γ' hG => hG)
      obtain ⟨x3, rfl⟩ := hG
      have hsl := scan_lt (p := p) ha0 t
      have hst : scan p size (at0By ns size i) (t + 1) = if 39 < (rowsIn p (scan p size (at0By ns size i) t)).length then (scan p size (at0By ns size i) t + 1) % size else scan p size (at0By ns size i) t := rfl
      rw [hst]
      generalize scan p size (at0By ns size i) t = a at hsl
      refine sv_if (b := decide ((39 : Int) < (rowsIn p a).length)) (et_v (ev_gt (ev_lenE (ev_rowsW (k := a) (ev_pgen rfl) (evv_int rfl) rfl (by omega))) (by wtm_at "evv"))) (fun h => ?_) (fun h => ?_)
      · rw [if_pos (by have := of_decide_eq_true h; omega)]
        refine sv_asg (s := .im (.int (((a + 1) % size : Nat)))) ((show EvO K _ _ (.im (.int (((a : Int) + 1) % size))) by wtm_at "ev").to (by push_cast; rfl)) ⟨_, rfl⟩
      · rw [if_neg (by have := of_decide_eq_false h; omega)]
        exact sv_next ⟨_, rfl⟩
    rintro Γ' ⟨x3', rfl⟩
    have hsl := scan_lt (p := p) ha0 size
    generalize scan p size (at0By ns size i) size = a at hsl
    refine q_asg (s := .im (.str (ownSign ns i))) (by wtm_at "ev") ?_
    have hrl := rowsIn_len hpe a
    refine sv_appG (i := 6) (k := a) rfl (ev_recv rfl (evv_int rfl) (by rw [List.length_map]; omega)) (bk_at (by omega)) (d := en (rowBy (drawn ns (6 + i) * 69621 % 2147483647) names (ownSign ns i)))
      (ev_call (by wtm_at "eva") ⟨_, _, _, rfl, hn, rfl⟩) (by rw [List.length_map]; omega) ?_
    rw [show (rowsIn p a).map en ++ [en (rowBy (drawn ns (6 + i) * 69621 % 2147483647) names (ownSign ns i))] = (rowsIn p a ++ [rowBy (drawn ns (6 + i) * 69621 % 2147483647) names (ownSign ns i)]).map en by rw [List.map_append]; rfl, bk_set]
    exact ⟨_, _, _, _, _, rfl⟩
  · obtain ⟨x0, x1, x2, x3, x4, rfl⟩ := hG
    exact sv_retP rfl rfl
end Sf

namespace Sf
open PySem PySem.Spec PyProof.Rows L2
/-! short words for evaluation: each closes its goal or fails -/
local macro_rules | `(tactic| wtm_at "sd") => `(tactic| first | assumption | exact trivial | omega | ((with_reducible show List.length _ ≤ _); simp only [List.length_cons, List.length_nil]; omega) | decide | rfl | ((with_reducible show sOk _); (show PyData.strOk _ = true); decide +kernel))
local macro_rules | `(tactic| wtm_at "ix") => `(tactic| first | assumption | exact rfl)
local macro_rules | `(tactic| wtm_at "rr") => `(tactic| assumption)
local macro_rules | `(tactic| wtm_at "evp") => `(tactic| first | exact ep_none | (apply ep_some; wtm_at "evv"))
local macro_rules | `(tactic| wtm_at "evav") => `(tactic| first | exact eav_nil | (apply eav_cons; wtm_at "evv"; wtm_at "evav"))
local macro_rules | `(tactic| wtm_at "eva") => `(tactic| first | exact ea_nil | (apply ea_cons; wtm_at "evf"; wtm_at "eva"))
local macro_rules | `(tactic| wtm_at "evaw") => `(tactic| first | exact eaw_nil | (apply eaw_cons; wtm_at "evw"; wtm_at "evaw"))
local macro_rules | `(tactic| wtm_at "evl") => `(tactic| first | exact evl_var rfl | (apply EvO.l; wtm_at "evf") | (apply EvO.ll; wtm_at "evo"))
local macro_rules | `(tactic| wtm_at "evk") => `(tactic| first | exact evk_var rfl | (apply EvO.k; wtm_at "evf"))
local macro_rules | `(tactic| wtm_at "evm") => `(tactic| first | exact evm_var rfl | (apply EvO.m; wtm_at "evf"))
local macro_rules | `(tactic| wtm_at "evw") => `(tactic| first
  | exact EvL.w (evl_var rfl) | exact EvK.w (evk_var rfl) | exact EvM.w (evm_var rfl)
  | (apply EvO.w; wtm_at "evf")
  | (apply EvL.w; wtm_at "evl"))
/-! what a slot may hold: fixed data -/
local macro_rules | `(tactic| wtm_at "evf") => `(tactic| first
  | exact evf_var rfl
  | (apply ev_ixT; wtm_at "evf"; wtm_at "evv"; wtm_at "ix")
  | (apply ev_ix; wtm_at "evl"; wtm_at "evv"; wtm_at "ix")
  | (apply ev_tup; wtm_at "eva"; wtm_at "sd")
  | (apply EvV.fi; wtm_at "evv")
  | (apply EvV.fs; wtm_at "evv")
  | (apply EvV.fb; wtm_at "evv")
  | (apply EvV.fn; wtm_at "evv")
  | (apply ev_call; wtm_at "eva"; wtm_at "rr")
  | (apply ev_callW; wtm_at "evaw"; wtm_at "rr"; wtm_at "sd")
  | (apply EvO.fixL; wtm_at "evo"))
/-! an owned list, a dict -/
local macro_rules | `(tactic| wtm_at "evo") => `(tactic| first
  | (apply ev_lst; wtm_at "eva"; wtm_at "sd")
  | exact ev_newK | exact ev_newT
  | (apply ev_listL; wtm_at "evl")
  | (apply ev_listT; wtm_at "evf")
  | (apply ev_dict; wtm_at "evk")
  | (apply ev_addL; wtm_at "evl"; wtm_at "evl"; wtm_at "sd")
  | (apply ev_slL; wtm_at "evl"; wtm_at "evp"; wtm_at "evp")
  | (apply ev_call; wtm_at "eva"; wtm_at "rr")
  | (apply ev_callW; wtm_at "evaw"; wtm_at "rr"; wtm_at "sd"))
local macro_rules | `(tactic| wtm_at "evv") => `(tactic| first
  | exact evv_c
  | exact evv_int rfl
  | exact evv_str rfl
  | exact evv_bl rfl
  | exact evv_non rfl
  | (apply ev_add; wtm_at "evv"; wtm_at "evv")
  | (apply ev_cat; wtm_at "evv"; wtm_at "evv"; wtm_at "sd")
  | (apply ev_sub; wtm_at "evv"; wtm_at "evv")
  | (apply ev_mul; wtm_at "evv"; wtm_at "evv"; wtm_at "mu")
  | (apply ev_div; wtm_at "evv"; wtm_at "evv"; wtm_at "sd")
  | (apply ev_mod; wtm_at "evv"; wtm_at "evv"; wtm_at "sd")
  | (apply ev_neg; wtm_at "evv")
  | (apply ev_lt; wtm_at "evv"; wtm_at "evv")
  | (apply ev_le; wtm_at "evv"; wtm_at "evv")
  | (apply ev_gt; wtm_at "evv"; wtm_at "evv")
  | (apply ev_ge; wtm_at "evv"; wtm_at "evv")
  | (apply ev_eqi; wtm_at "evv"; wtm_at "evv")
  | (apply ev_eqs; wtm_at "evv"; wtm_at "evv")
  | (apply ev_nei; wtm_at "evv"; wtm_at "evv")
  | (apply ev_nes; wtm_at "evv"; wtm_at "evv")
  | (apply ev_eqb; wtm_at "evv"; wtm_at "evv")
  | (apply ev_neb; wtm_at "evv"; wtm_at "evv")
  | (apply ev_min; wtm_at "evv"; wtm_at "evv")
  | (apply ev_max; wtm_at "evv"; wtm_at "evv")
  | (apply ev_intb; wtm_at "evv")
  | (apply ev_lens; wtm_at "evv"; wtm_at "sd")
  | (apply ev_lenR; wtm_at "evw")
  | (apply ev_lenW; wtm_at "evw")
  | (apply ev_lenT; wtm_at "evw")
  | (apply ev_ixR; wtm_at "evf"; wtm_at "evv"; wtm_at "ix")
  | (apply ev_ixS; wtm_at "evv"; wtm_at "evv"; wtm_at "sd"; wtm_at "ix")
  | (apply ev_slS; wtm_at "evv"; wtm_at "sd"; wtm_at "evp"; wtm_at "evp")
  | (apply ev_nis; wtm_at "evv"; wtm_at "evv")
  | (apply ev_ins; wtm_at "evv"; wtm_at "evv")
  | (apply ev_inK; wtm_at "evv"; wtm_at "evk")
  | (apply ev_niK; wtm_at "evv"; wtm_at "evk")
  | (apply ev_andV; wtm_at "evv"; (intro _; wtm_at "evv"))
  | (apply ev_orV; wtm_at "evv"; (intro _; wtm_at "evv"))
  | (apply ev_notV; wtm_at "evv")
  | (apply ev_isN; wtm_at "evw")
  | (apply ev_ntN; wtm_at "evw")
  | (apply ev_isi_lst true; wtm_at "evw"; decide +kernel)
  | (apply ev_isi_lst false; wtm_at "evw"; decide +kernel)
  | (apply ev_isi_tup true; wtm_at "evw"; decide +kernel)
  | (apply ev_isi_tup false; wtm_at "evw"; decide +kernel)
  | (apply ev_isi_str true; wtm_at "evw"; decide +kernel)
  | (apply ev_isi_str false; wtm_at "evw"; decide +kernel)
  | (apply ev_isi_int true; wtm_at "evw"; decide +kernel)
  | (apply ev_isi_int false; wtm_at "evw"; decide +kernel)
  | (apply ev_isi_bl true; wtm_at "evw"; decide +kernel)
  | (apply ev_isi_bl false; wtm_at "evw"; decide +kernel)
  | (apply ev_isi_non true; wtm_at "evw"; decide +kernel)
  | (apply ev_isi_non false; wtm_at "evw"; decide +kernel)
  | (apply ev_isi_dk true; wtm_at "evw"; decide +kernel)
  | (apply ev_isi_dk false; wtm_at "evw"; decide +kernel)
  | (apply EvO.sc; wtm_at "evf1"; exact rfl))
/-! data that is a scalar: what is not made of scalars -/
local macro_rules | `(tactic| wtm_at "evf1") => `(tactic| first
  | (apply ev_ixT; wtm_at "evf"; wtm_at "evv"; wtm_at "ix")
  | (apply ev_ix; wtm_at "evl"; wtm_at "evv"; wtm_at "ix")
  | (apply ev_ixKT; wtm_at "evf"; wtm_at "evv"; wtm_at "ix")
  | (apply ev_get; wtm_at "evk"; wtm_at "evv"; wtm_at "evf")
  | (apply ev_call; wtm_at "eva"; wtm_at "rr")
  | (apply ev_callW; wtm_at "evaw"; wtm_at "rr"; wtm_at "sd"))
local macro_rules | `(tactic| wtm_at "mu") => `(tactic| first
  | assumption
  | (apply mul_ok_l; omega)
  | (apply mul_ok_r; omega))
local macro_rules | `(tactic| wtm_at "evt") => `(tactic| first
  | exact et_yes
  | (apply et_v; wtm_at "evv")
  | (apply et_b; wtm_at "evv")
  | (apply et_and; wtm_at "evt"; (intro _; wtm_at "evt"))
  | (apply et_or; wtm_at "evt"; (intro _; wtm_at "evt"))
  | (apply et_not; wtm_at "evt"))
/-! a name gets a value, and what follows -/
local macro_rules | `(tactic| wtm_at "ev") => `(tactic| first | wtm_at "evf" | wtm_at "evo")
local macro_rules | `(tactic| wtm_at "rr") => `(tactic| exact ⟨_, rfl, rfl⟩)
/-! ### _law_numbers, _law_row_same, _law_same, _law_copy -/
def R__law_numbers : List D → Sl → Prop := fun ds s => ∃ l : List Int, ds = [.lst (l.map D.int), .lst (l.map D.int)] ∧ l.length ≤ 100000 ∧ s = .im (.bl true)
def rd__law_numbers (K : PySem.W.Frag) : TS :=
  (tSeq (tIfS (tOr (tNot (tB (tCB (rIsi K) (tCons (tVar 0) (tCons (tC (.ty "list")) tNil))))) (tTest (tOp (rNeX K) (tCB (rLenX K) (tCons (tVar 0) tNil)) (tCB (rLenX K) (tCons (tVar 1) tNil))))) (tRet (tC (.bl false))) tNext)
    (tSeq (tFor (iRng1 (tCons (tCB (rLenX K) (tCons (tVar 1) tNil)) tNil)) (gName 2) (tIfS (tOr (tNot (tB (tCall (spF K R__law_whole) [] E0 (tCons (tOp (rIxX K) (tVar 0) (tVar 2)) tNil)))) (tTest (tOp (rNeX K) (tOp (rIxX K) (tVar 0) (tVar 2)) (tOp (rIxX K) (tVar 1) (tVar 2))))) (tRet (tC (.bl false))) tNext))
    (tRet (tC (.bl true)))))
theorem sv__law_numbers {K : PySem.W.Frag} : Keeps K R__law_numbers 3 2 (rd__law_numbers K) := by
  rintro ds s ⟨l, rfl, hl, rfl⟩
  refine ⟨rfl, ?_⟩
  show Sv K (rd__law_numbers K) [.im (.lst (l.map D.int)), .im (.lst (l.map D.int)), .un] _
  unfold rd__law_numbers
  refine q_when (b := !true || !decide (((l.map D.int).length : Int) = (l.map D.int).length)) (by wtm_at "evt") (fun h => by simp at h) (fun _ => ?_)
  refine sv_seq (sv_forR (n := l.length) (fun i Γ => ∃ x, Γ = [.im (.lst (l.map D.int)), .im (.lst (l.map D.int)), x]) (eav_cons ((ev_lenW (ds := l.map D.int) (by wtm_at "evw")).to (by rw [List.length_map])) eav_nil) hl ⟨_, rfl⟩ (fun i Γ' hi hG => ?_) (fun Γ' hG => ?_))
  · obtain ⟨x, rfl⟩ := hG
    have hx : atI (l.map D.int) (i : Int) = some (.int l[i]) := atI_nat (by rw [List.getElem?_map, List.getElem?_eq_getElem hi]; rfl)
    refine sv_if (b := !true || !decide (l[i] = l[i])) (by wtm_at "evt") (fun h => by simp at h) (fun _ => sv_next ⟨_, rfl⟩)
  · obtain ⟨x, rfl⟩ := hG
    exact sv_ret (s := .im (.bl true)) (by wtm_at "ev") rfl
theorem all_t {α : Type} (l : List α) : ((l.map fun _ => true).all id) = true := by simp
def R__law_row_same : List D → Sl → Prop := fun ds s => ∃ r : Row, ds = [en r, en r] ∧ (readsOfR r).length ≤ 1000 ∧ s = .im (.bl true)
where readsOfR : Row → List Str
  | .tell _ => []
  | .make _ _ rs => rs
def rd__law_row_same (K : PySem.W.Frag) : TS :=
  (tSeq (tIfS (tOr (tNot (tB (tCB (rIsi K) (tCons (tVar 0) (tCons (tC (.ty "tuple")) tNil))))) (tTest (tOp (rNeX K) (tVar 0) (tVar 1)))) (tRet (tC (.bl false))) tNext)
    (tSeq (tIfS (tNot (tB (tCB (rAll K) (tCons (tLc (iX K (tSl (rSlX K) (tVar 0) tNoPart (tPart (tC (.int 3))))) (gName 2) tYes (tCB (rIsi K) (tCons (tVar 2) (tCons (tC (.ty "str")) tNil))) [2]) tNil)))) (tRet (tC (.bl false))) tNext)
    (tSeq (tIfS (tTest (tOp (rEqX K) (tCB (rLenX K) (tCons (tVar 0) tNil)) (tC (.int 4)))) (tRet (tAndV (tCB (rIsi K) (tCons (tOp (rIxX K) (tVar 0) (tC (.int 3))) (tCons (tC (.ty "tuple")) tNil))) (tCB (rAll K) (tCons (tLc (iX K (tOp (rIxX K) (tVar 0) (tC (.int 3)))) (gName 2) tYes (tCB (rIsi K) (tCons (tVar 2) (tCons (tC (.ty "str")) tNil))) [2]) tNil)))) tNext)
    (tRet (tC (.bl true))))))
theorem ev_strsT {K : PySem.W.Frag} {Γ : List Sl} {te : TE} {ss : List Str} {j : Nat} (h : EvF K te Γ (.tup (ss.map D.str))) (hl : ss.length ≤ 40000) (hj : j < Γ.length) : EvV K (tCB (rAll K) (tCons (tLc (iX K te) (gName j) tYes (tCB (rIsi K) (tCons (tVar j) (tCons (tC (.ty "str")) tNil))) [j]) tNil)) Γ (.bl true) := by
  refine (ev_all (bs := ss.map fun _ => true) (EvO.ll ((ev_lcT (ds := ss.map D.str) (fun _ => true) (fun _ => .bl true) h (by rw [List.length_map]; exact hl) (fun _ _ => et_yes) (fun d hd _ => ?_)).to (by rw [filt_true, List.map_map, List.map_map]; rfl)))).to (by rw [all_t])
  obtain ⟨x, hx, rfl⟩ := List.mem_map.mp hd
  have hg : (Γ.set j (.im (.str x)))[j]? = some (.im (.str x)) := List.getElem?_set_self hj
  apply EvV.fb
  apply ev_isi_str true
  · exact EvO.w (evf_var hg)
  · decide +kernel
theorem sv__law_row_same {K : PySem.W.Frag} : Keeps K R__law_row_same 3 2 (rd__law_row_same K) := by
  rintro ds s ⟨r, rfl, hr, rfl⟩
  refine ⟨rfl, ?_⟩
  have hs : ∀ l : List Str, cutD (l.map D.str) none (some 3) = (l.take 3).map D.str := fun l => by
    show ((_ : List D).drop (HT.sIx _ 0 none)).take _ = _
    rw [HT.sIx_none, show (3 : Int) = ((3 : Nat) : Int) from rfl, HT.sIx_nat, List.drop_zero, List.map_take]
    by_cases h : (l.map D.str).length ≤ 3
    · rw [Nat.min_eq_right h, Nat.sub_zero, List.take_length, List.take_of_length_le h]
    · rw [Nat.min_eq_left (by omega)]
  cases r with
  | tell s =>
    show Sv K (rd__law_row_same K) [.im (.tup ([("tell" : Str), s].map D.str)), .im (.tup ([("tell" : Str), s].map D.str)), .un] _
    unfold rd__law_row_same
    refine q_when (b := !true || !decide (Row.tell s = Row.tell s)) (et_or (by wtm_at "evt") fun _ => et_v (ev_ned (a := Row.tell s) (b := Row.tell s) (EvO.w (evf_var rfl)) (EvO.w (evf_var rfl)))) (fun h => by simp at h) (fun _ => ?_)
    refine q_when (b := !true) (et_not (et_b (ev_strsT (ss := ([("tell" : Str), s].take 3)) ((ev_slT (evf_var rfl) (by wtm_at "evp") (by wtm_at "evp")).to (by rw [hs])) (by simp) (by simp)))) (fun h => by cases h) (fun _ => ?_)
    refine q_when (b := decide (((([("tell" : Str), s].map D.str)).length : Int) = 4)) (by wtm_at "evt") (fun h => by simp at h) (fun _ => ?_)
    exact sv_ret (s := .im (.bl true)) (by wtm_at "ev") rfl
  | make s g rs =>
    show Sv K (rd__law_row_same K) [.im (.tup [.str "make", .str s, .str g, .tup (rs.map D.str)]), .im (.tup [.str "make", .str s, .str g, .tup (rs.map D.str)]), .un] _
    unfold rd__law_row_same
    refine q_when (b := !true || !decide (Row.make s g rs = Row.make s g rs)) (et_or (by wtm_at "evt") fun _ => et_v (ev_ned (a := Row.make s g rs) (b := Row.make s g rs) (EvO.w (evf_var rfl)) (EvO.w (evf_var rfl)))) (fun h => by simp at h) (fun _ => ?_)
    refine q_when (b := !true) (et_not (et_b (ev_strsT (ss := [("make" : Str), s, g]) ((ev_slT (evf_var rfl) (by wtm_at "evp") (by wtm_at "evp")).to rfl) (by simp) (by simp)))) (fun h => by cases h) (fun _ => ?_)
    refine q_when (b := decide ((([D.str "make", .str s, .str g, .tup (rs.map D.str)].length : Nat) : Int) = 4)) (by wtm_at "evt") (fun _ => ?_) (fun h => by simp at h)
    have hr' : rs.length ≤ 1000 := hr
    have h3 : EvF K (tOp (rIxX K) (tVar 0) (tC (.int 3))) [.im (.tup [.str "make", .str s, .str g, .tup (rs.map D.str)]), .im (.tup [.str "make", .str s, .str g, .tup (rs.map D.str)]), .un] (.tup (rs.map D.str)) := by wtm_at "evf"
    refine sv_ret (s := .im (.bl (true && true))) (EvV.fb (ev_andV ?_ fun _ => ev_strsT h3 (by omega) (by simp))) rfl
    apply ev_isi_tup true
    · exact EvO.w h3
    · decide +kernel
/-- a program of usual size -/
structure Psz (p : Prog) : Prop where
  len : p.length ≤ 10000
  rows : ∀ b ∈ p, b.1.length ≤ 10000
  ways : ∀ b ∈ p, b.2.length ≤ 10000
  reads : ∀ b ∈ p, ∀ r ∈ b.1, (R__law_row_same.readsOfR r).length ≤ 1000
theorem Psz.rowsIn {p : Prog} (h : Psz p) (k : Nat) : (rowsIn p k).length ≤ 10000 ∧ ∀ r ∈ rowsIn p k, (R__law_row_same.readsOfR r).length ≤ 1000 := by
  unfold Sf.rowsIn
  cases e : p[k]? with
  | none => exact ⟨Nat.zero_le _, fun _ z => nomatch z⟩
  | some b => exact ⟨h.rows b (List.mem_of_getElem? e), h.reads b (List.mem_of_getElem? e)⟩
theorem Psz.waysIn {p : Prog} (h : Psz p) (k : Nat) : (waysIn p k).length ≤ 10000 := by
  unfold Sf.waysIn
  cases e : p[k]? with
  | none => exact Nat.zero_le _
  | some b => exact h.ways b (List.mem_of_getElem? e)
def R__law_same : List D → Sl → Prop := fun ds s => ∃ p : Prog, ds = [en p, en p] ∧ Psz p ∧ s = .im (.bl true)
def rd__law_same (K : PySem.W.Frag) : TS :=
  (tSeq (tIfS (tOr (tNot (tB (tCB (rIsi K) (tCons (tVar 0) (tCons (tC (.ty "list")) tNil))))) (tTest (tOp (rNeX K) (tCB (rLenX K) (tCons (tVar 0) tNil)) (tCB (rLenX K) (tCons (tVar 1) tNil))))) (tRet (tC (.bl false))) tNext)
    (tSeq (tFor (iRng1 (tCons (tCB (rLenX K) (tCons (tVar 1) tNil)) tNil)) (gName 2) (tSeq (tAsg (tOp (rIxX K) (tVar 0) (tVar 2)) (gName 3))
    (tSeq (tIfS (tOr (tNot (tB (tCB (rIsi K) (tCons (tVar 3) (tCons (tC (.ty "tuple")) tNil))))) (tOr (tTest (tOp (rNeX K) (tCB (rLenX K) (tCons (tVar 3) tNil)) (tC (.int 2)))) (tNot (tB (tCB (rIsi K) (tCons (tOp (rIxX K) (tVar 3) (tC (.int 0))) (tCons (tC (.ty "list")) tNil))))))) (tRet (tC (.bl false))) tNext)
    (tSeq (tIfS (tOr (tTest (tOp (rNeX K) (tCB (rLenX K) (tCons (tOp (rIxX K) (tVar 3) (tC (.int 0))) tNil)) (tCB (rLenX K) (tCons (tOp (rIxX K) (tOp (rIxX K) (tVar 1) (tVar 2)) (tC (.int 0))) tNil)))) (tNot (tB (tCall (spF K R__law_numbers) [] E0 (tCons (tOp (rIxX K) (tVar 3) (tC (.int 1))) (tCons (tOp (rIxX K) (tOp (rIxX K) (tVar 1) (tVar 2)) (tC (.int 1))) tNil)))))) (tRet (tC (.bl false))) tNext)
    (tFor (iRng1 (tCons (tCB (rLenX K) (tCons (tOp (rIxX K) (tVar 3) (tC (.int 0))) tNil)) tNil)) (gName 4) (tIfS (tNot (tB (tCall (spF K R__law_row_same) [] E0 (tCons (tOp (rIxX K) (tOp (rIxX K) (tVar 3) (tC (.int 0))) (tVar 4)) (tCons (tOp (rIxX K) (tOp (rIxX K) (tOp (rIxX K) (tVar 1) (tVar 2)) (tC (.int 0))) (tVar 4)) tNil))))) (tRet (tC (.bl false))) tNext))))))
    (tRet (tC (.bl true)))))
theorem sv__law_same {K : PySem.W.Frag} : Keeps K R__law_same 5 2 (rd__law_same K) := by
  rintro ds s ⟨p, rfl, hp, rfl⟩
  refine ⟨rfl, ?_⟩
  show Sv K (rd__law_same K) [.im (.lst (p.map en)), .im (.lst (p.map en)), .un, .un, .un] _
  unfold rd__law_same
  have hl := hp.len
  refine q_when (b := !true || !decide (((p.map en).length : Int) = (p.map en).length)) (by wtm_at "evt") (fun h => by simp at h) (fun _ => ?_)
  refine sv_seq (sv_forR (n := p.length) (fun i Γ => ∃ x y z, Γ = [.im (.lst (p.map en)), .im (.lst (p.map en)), x, y, z]) (eav_cons ((ev_lenW (ds := p.map en) (by wtm_at "evw")).to (by rw [List.length_map])) eav_nil) (by omega) ⟨_, _, _, rfl⟩ (fun i Γ' hi hG => ?_) (fun Γ' hG => ?_))
  · obtain ⟨x, y, z, rfl⟩ := hG
    have hx : atI (p.map en) (i : Int) = some (.tup [en (rowsIn p i), en (waysIn p i)]) := atI_nat (by rw [List.getElem?_map, rowsIn_some hi]; rfl)
    refine q_asg (s := .im (.tup [en (rowsIn p i), en (waysIn p i)])) (by wtm_at "ev") ?_
    have due0 : ∀ Γ : List Sl, Γ[1]? = some (.im (.lst (p.map en))) → Γ[2]? = some (.im (.int (i : Int))) → EvF K (tOp (rIxX K) (tOp (rIxX K) (tVar 1) (tVar 2)) (tC (.int 0))) Γ (en (rowsIn p i)) := fun Γ h1 h2 => ev_ixT (ds := [en (rowsIn p i), en (waysIn p i)]) (ev_ix (EvO.l (evf_var h1)) (evv_int h2) hx) evv_c rfl
    have due1 : ∀ Γ : List Sl, Γ[1]? = some (.im (.lst (p.map en))) → Γ[2]? = some (.im (.int (i : Int))) → EvF K (tOp (rIxX K) (tOp (rIxX K) (tVar 1) (tVar 2)) (tC (.int 1))) Γ (en (waysIn p i)) := fun Γ h1 h2 => ev_ixT (ds := [en (rowsIn p i), en (waysIn p i)]) (ev_ix (EvO.l (evf_var h1)) (evv_int h2) hx) evv_c rfl
    have blk0 : ∀ Γ : List Sl, Γ[3]? = some (.im (.tup [en (rowsIn p i), en (waysIn p i)])) → EvF K (tOp (rIxX K) (tVar 3) (tC (.int 0))) Γ (en (rowsIn p i)) := fun Γ h => ev_ixT (evf_var h) evv_c rfl
    have blk1 : ∀ Γ : List Sl, Γ[3]? = some (.im (.tup [en (rowsIn p i), en (waysIn p i)])) → EvF K (tOp (rIxX K) (tVar 3) (tC (.int 1))) Γ (en (waysIn p i)) := fun Γ h => ev_ixT (evf_var h) evv_c rfl
    refine q_when (b := !true || (!decide ((([en (rowsIn p i), en (waysIn p i)] : List D).length : Int) = 2) || !true)) (et_or (by wtm_at "evt") fun _ => et_or (by wtm_at "evt") fun _ => et_not (et_b ?_)) (fun h => by simp at h) (fun _ => ?_)
    · apply ev_isi_lst true
      · exact EvO.w (blk0 _ rfl)
      · decide +kernel
    refine q_when (b := !decide (((rowsIn p i).length : Int) = (rowsIn p i).length) || !true) (et_or (et_v (ev_nei (ev_lenE (EvO.w (blk0 _ rfl))) (ev_lenE (EvO.w (due0 _ rfl rfl))))) fun _ => et_not (et_b (EvO.sc (ev_call (ea_cons (blk1 _ rfl) (ea_cons (due1 _ rfl rfl) ea_nil)) ⟨waysIn p i, rfl, (by have := hp.waysIn i; omega), rfl⟩) rfl))) (fun h => by simp at h) (fun _ => ?_)
    refine sv_forR (n := (rowsIn p i).length) (fun j Γ => ∃ z, Γ = [.im (.lst (p.map en)), .im (.lst (p.map en)), .im (.int i), .im (.tup [en (rowsIn p i), en (waysIn p i)]), z]) (eav_cons (ev_lenE (EvO.w (blk0 _ rfl))) eav_nil) (by have := (hp.rowsIn i).1; omega) ⟨_, rfl⟩ (fun j Γ' hj hG => ?_) (fun Γ' hG => ?_)
    · obtain ⟨z, rfl⟩ := hG
      have hr : atI ((rowsIn p i).map en) (j : Int) = some (en (rowsIn p i)[j]) := atI_nat (by rw [List.getElem?_map, List.getElem?_eq_getElem hj]; rfl)
      refine sv_if (b := !true) (et_not (et_b (EvO.sc (ev_call (ea_cons (ev_ix (EvO.l (blk0 _ rfl)) (evv_int rfl) hr) (ea_cons (ev_ix (EvO.l (due0 _ rfl rfl)) (evv_int rfl) hr) ea_nil)) ⟨(rowsIn p i)[j], rfl, (hp.rowsIn i).2 _ (List.getElem_mem hj), rfl⟩) rfl))) (fun h => by simp at h) (fun _ => sv_next ⟨_, rfl⟩)
    · obtain ⟨z, rfl⟩ := hG
      exact ⟨_, _, _, rfl⟩
  · obtain ⟨x, y, z, rfl⟩ := hG
    exact sv_ret (s := .im (.bl true)) (by wtm_at "ev") rfl
def R__law_copy : List D → Sl → Prop := fun ds s => ∃ p : Prog, ds = [en p] ∧ p.length ≤ 10000 ∧ s = .pg (p.map bkOf)
def rd__law_copy (K : PySem.W.Frag) : TS :=
  (tRet (tLc (iX K (tVar 0)) (gName 1) tYes (tTup (tCons (tCB (rListX K) (tCons (tOp (rIxX K) (tVar 1) (tC (.int 0))) tNil)) (tCons (tCB (rListX K) (tCons (tOp (rIxX K) (tVar 1) (tC (.int 1))) tNil)) tNil))) [1]))
def bkD : D → Bk
  | .tup [.lst a, .lst b] => (a, b)
  | _ => ([], [])
theorem sv__law_copy {K : PySem.W.Frag} : Keeps K R__law_copy 2 1 (rd__law_copy K) := by
  rintro ds s ⟨p, rfl, hp, rfl⟩
  refine ⟨rfl, ?_⟩
  show Sv K (rd__law_copy K) [.im (.lst (p.map en)), .un] _
  unfold rd__law_copy
  refine sv_ret ((ev_pgL (ds := p.map en) bkD (by wtm_at "evl") (by rw [List.length_map]; omega) (fun d hd => ?_)).to (by rw [List.map_map]; rfl)) rfl
  obtain ⟨b, hb, rfl⟩ := List.mem_map.mp hd
  obtain ⟨rows, ways⟩ := b
  show EvG K _ [.im (.lst (p.map en)), .im (.tup [.lst (rows.map en), .lst (ways.map en)])] (rows.map en, ways.map en)
  exact ev_pair (ev_listL (by wtm_at "evl")) (ev_listL (by wtm_at "evl"))
end Sf

namespace Sf
open PySem PySem.Spec PyProof.Rows L2
/-! short words for evaluation: each closes its goal or fails -/
local macro_rules | `(tactic| wtm_at "sd") => `(tactic| first | assumption | exact trivial | omega | ((with_reducible show List.length _ ≤ _); simp only [List.length_cons, List.length_nil]; omega) | decide | rfl | ((with_reducible show sOk _); (show PyData.strOk _ = true); decide +kernel))
local macro_rules | `(tactic| wtm_at "ix") => `(tactic| first | assumption | exact rfl)
local macro_rules | `(tactic| wtm_at "rr") => `(tactic| assumption)
local macro_rules | `(tactic| wtm_at "evp") => `(tactic| first | exact ep_none | (apply ep_some; wtm_at "evv"))
local macro_rules | `(tactic| wtm_at "evav") => `(tactic| first | exact eav_nil | (apply eav_cons; wtm_at "evv"; wtm_at "evav"))
local macro_rules | `(tactic| wtm_at "eva") => `(tactic| first | exact ea_nil | (apply ea_cons; wtm_at "evf"; wtm_at "eva"))
local macro_rules | `(tactic| wtm_at "evaw") => `(tactic| first | exact eaw_nil | (apply eaw_cons; wtm_at "evw"; wtm_at "evaw"))
local macro_rules | `(tactic| wtm_at "evl") => `(tactic| first | exact evl_var rfl | (apply EvO.l; wtm_at "evf") | (apply EvO.ll; wtm_at "evo"))
local macro_rules | `(tactic| wtm_at "evk") => `(tactic| first | exact evk_var rfl | (apply EvO.k; wtm_at "evf"))
local macro_rules | `(tactic| wtm_at "evm") => `(tactic| first | exact evm_var rfl | (apply EvO.m; wtm_at "evf"))
local macro_rules | `(tactic| wtm_at "evw") => `(tactic| first
  | exact EvL.w (evl_var rfl) | exact EvK.w (evk_var rfl) | exact EvM.w (evm_var rfl)
  | (apply EvO.w; wtm_at "evf")
  | (apply EvL.w; wtm_at "evl"))
/-! what a slot may hold: fixed data -/
local macro_rules | `(tactic| wtm_at "evf") => `(tactic| first
  | exact evf_var rfl
  | (apply ev_ixT; wtm_at "evf"; wtm_at "evv"; wtm_at "ix")
  | (apply ev_ix; wtm_at "evl"; wtm_at "evv"; wtm_at "ix")
  | (apply ev_tup; wtm_at "eva"; wtm_at "sd")
  | (apply EvV.fi; wtm_at "evv")
  | (apply EvV.fs; wtm_at "evv")
  | (apply EvV.fb; wtm_at "evv")
  | (apply EvV.fn; wtm_at "evv")
  | (apply ev_call; wtm_at "eva"; wtm_at "rr")
  | (apply ev_callW; wtm_at "evaw"; wtm_at "rr"; wtm_at "sd")
  | (apply EvO.fixL; wtm_at "evo"))
/-! an owned list, a dict -/
local macro_rules | `(tactic| wtm_at "evo") => `(tactic| first
  | (apply ev_lst; wtm_at "eva"; wtm_at "sd")
  | exact ev_newK | exact ev_newT
  | (apply ev_listL; wtm_at "evl")
  | (apply ev_listT; wtm_at "evf")
  | (apply ev_dict; wtm_at "evk")
  | (apply ev_addL; wtm_at "evl"; wtm_at "evl"; wtm_at "sd")
  | (apply ev_slL; wtm_at "evl"; wtm_at "evp"; wtm_at "evp")
  | (apply ev_call; wtm_at "eva"; wtm_at "rr")
  | (apply ev_callW; wtm_at "evaw"; wtm_at "rr"; wtm_at "sd"))
local macro_rules | `(tactic| wtm_at "evv") => `(tactic| first
  | exact evv_c
  | exact evv_int rfl
  | exact evv_str rfl
  | exact evv_bl rfl
  | exact evv_non rfl
  | (apply ev_add; wtm_at "evv"; wtm_at "evv")
  | (apply ev_cat; wtm_at "evv"; wtm_at "evv"; wtm_at "sd")
  | (apply ev_sub; wtm_at "evv"; wtm_at "evv")
  | (apply ev_mul; wtm_at "evv"; wtm_at "evv"; wtm_at "mu")
  | (apply ev_div; wtm_at "evv"; wtm_at "evv"; wtm_at "sd")
  | (apply ev_mod; wtm_at "evv"; wtm_at "evv"; wtm_at "sd")
  | (apply ev_neg; wtm_at "evv")
  | (apply ev_lt; wtm_at "evv"; wtm_at "evv")
  | (apply ev_le; wtm_at "evv"; wtm_at "evv")
  | (apply ev_gt; wtm_at "evv"; wtm_at "evv")
  | (apply ev_ge; wtm_at "evv"; wtm_at "evv")
  | (apply ev_eqi; wtm_at "evv"; wtm_at "evv")
  | (apply ev_eqs; wtm_at "evv"; wtm_at "evv")
  | (apply ev_nei; wtm_at "evv"; wtm_at "evv")
  | (apply ev_nes; wtm_at "evv"; wtm_at "evv")
  | (apply ev_eqb; wtm_at "evv"; wtm_at "evv")
  | (apply ev_neb; wtm_at "evv"; wtm_at "evv")
  | (apply ev_min; wtm_at "evv"; wtm_at "evv")
  | (apply ev_max; wtm_at "evv"; wtm_at "evv")
  | (apply ev_intb; wtm_at "evv")
  | (apply ev_lens; wtm_at "evv"; wtm_at "sd")
  | (apply ev_lenR; wtm_at "evw")
  | (apply ev_lenW; wtm_at "evw")
  | (apply ev_lenT; wtm_at "evw")
  | (apply ev_ixR; wtm_at "evf"; wtm_at "evv"; wtm_at "ix")
  | (apply ev_ixS; wtm_at "evv"; wtm_at "evv"; wtm_at "sd"; wtm_at "ix")
  | (apply ev_slS; wtm_at "evv"; wtm_at "sd"; wtm_at "evp"; wtm_at "evp")
  | (apply ev_nis; wtm_at "evv"; wtm_at "evv")
  | (apply ev_ins; wtm_at "evv"; wtm_at "evv")
  | (apply ev_inK; wtm_at "evv"; wtm_at "evk")
  | (apply ev_niK; wtm_at "evv"; wtm_at "evk")
  | (apply ev_andV; wtm_at "evv"; (intro _; wtm_at "evv"))
  | (apply ev_orV; wtm_at "evv"; (intro _; wtm_at "evv"))
  | (apply ev_notV; wtm_at "evv")
  | (apply ev_isN; wtm_at "evw")
  | (apply ev_ntN; wtm_at "evw")
  | (apply ev_isi_lst true; wtm_at "evw"; decide +kernel)
  | (apply ev_isi_lst false; wtm_at "evw"; decide +kernel)
  | (apply ev_isi_tup true; wtm_at "evw"; decide +kernel)
  | (apply ev_isi_tup false; wtm_at "evw"; decide +kernel)
  | (apply ev_isi_str true; wtm_at "evw"; decide +kernel)
  | (apply ev_isi_str false; wtm_at "evw"; decide +kernel)
  | (apply ev_isi_int true; wtm_at "evw"; decide +kernel)
  | (apply ev_isi_int false; wtm_at "evw"; decide +kernel)
  | (apply ev_isi_bl true; wtm_at "evw"; decide +kernel)
  | (apply ev_isi_bl false; wtm_at "evw"; decide +kernel)
  | (apply ev_isi_non true; wtm_at "evw"; decide +kernel)
  | (apply ev_isi_non false; wtm_at "evw"; decide +kernel)
  | (apply ev_isi_dk true; wtm_at "evw"; decide +kernel)
  | (apply ev_isi_dk false; wtm_at "evw"; decide +kernel)
  | (apply EvO.sc; wtm_at "evf1"; exact rfl))
/-! data that is a scalar: what is not made of scalars -/
local macro_rules | `(tactic| wtm_at "evf1") => `(tactic| first
  | (apply ev_ixT; wtm_at "evf"; wtm_at "evv"; wtm_at "ix")
  | (apply ev_ix; wtm_at "evl"; wtm_at "evv"; wtm_at "ix")
  | (apply ev_ixKT; wtm_at "evf"; wtm_at "evv"; wtm_at "ix")
  | (apply ev_get; wtm_at "evk"; wtm_at "evv"; wtm_at "evf")
  | (apply ev_call; wtm_at "eva"; wtm_at "rr")
  | (apply ev_callW; wtm_at "evaw"; wtm_at "rr"; wtm_at "sd"))
local macro_rules | `(tactic| wtm_at "mu") => `(tactic| first
  | assumption
  | (apply mul_ok_l; omega)
  | (apply mul_ok_r; omega))
local macro_rules | `(tactic| wtm_at "evt") => `(tactic| first
  | exact et_yes
  | (apply et_v; wtm_at "evv")
  | (apply et_b; wtm_at "evv")
  | (apply et_and; wtm_at "evt"; (intro _; wtm_at "evt"))
  | (apply et_or; wtm_at "evt"; (intro _; wtm_at "evt"))
  | (apply et_not; wtm_at "evt"))
/-! a name gets a value, and what follows -/
local macro_rules | `(tactic| wtm_at "ev") => `(tactic| first | wtm_at "evf" | wtm_at "evo")
local macro_rules | `(tactic| wtm_at "rr") => `(tactic| exact ⟨_, _, rfl, (by omega), rfl⟩)
local macro_rules | `(tactic| wtm_at "rr") => `(tactic| exact ⟨_, rfl, rfl⟩)
/-! ### runs -/
/-- a program whose ways lead to blocks of it -/
structure Wf (p : Prog) : Prop where
  pos : 0 < p.length
  len : p.length ≤ 1000
  rows : ∀ b ∈ p, b.1.length ≤ 1000
  nways : ∀ b ∈ p, b.2.length ≤ 1000
  ways : ∀ b ∈ p, ∀ w ∈ b.2, 0 ≤ w ∧ w < p.length
  reads : ∀ b ∈ p, ∀ r ∈ b.1, (readsOf r).length ≤ 2
theorem Wf.rowsLe {p : Prog} (h : Wf p) (k : Nat) : (rowsIn p k).length ≤ 1000 := by
  unfold rowsIn
  cases e : p[k]? with
  | none => exact Nat.zero_le _
  | some b => exact h.rows b (List.mem_of_getElem? e)
theorem Wf.rowsRd {p : Prog} (h : Wf p) {k : Nat} : ∀ r ∈ rowsIn p k, (readsOf r).length ≤ 2 := by
  unfold rowsIn
  cases e : p[k]? with
  | none => intro r z; cases z
  | some b => exact h.reads b (List.mem_of_getElem? e)
theorem Wf.waysLe {p : Prog} (h : Wf p) (k : Nat) : (waysIn p k).length ≤ 1000 := by
  unfold waysIn
  cases e : p[k]? with
  | none => exact Nat.zero_le _
  | some b => exact h.nways b (List.mem_of_getElem? e)
theorem Wf.way {p : Prog} (h : Wf p) {k : Nat} : ∀ w ∈ waysIn p k, 0 ≤ w ∧ w < p.length := by
  unfold waysIn
  cases e : p[k]? with
  | none => intro r z; cases z
  | some b => exact h.ways b (List.mem_of_getElem? e)
/-- the way that a number takes, among some -/
def wayOf (ws : List Int) (n : Int) : Nat := (ws.getD (n % ws.length).toNat 0).toNat
def blocksFrom (p : Prog) : Nat → List Int → List Nat
  | k, [] => [k]
  | k, n :: r => if waysIn p k = [] then [k] else k :: blocksFrom p (wayOf (waysIn p k) n) r
theorem way_ix {ws : List Int} (h : ws ≠ []) (n : Int) : atI (ws.map D.int) (n % (ws.length : Int)) = some (.int (ws.getD (n % ws.length).toNat 0)) ∧ ws.getD (n % ws.length).toNat 0 ∈ ws := by
  have h0 : 0 < ws.length := List.length_pos_iff.mpr h
  have a := Int.emod_nonneg n (show (ws.length : Int) ≠ 0 by omega)
  have b := Int.emod_lt_of_pos n (show (0 : Int) < ws.length by omega)
  rw [List.getD_eq_getElem?_getD, List.getElem?_eq_getElem (by omega)]
  refine ⟨?_, List.getElem_mem _⟩
  rw [atI_nn a (by rw [List.length_map]; exact b), List.getElem_map]
  rfl
theorem wayOf_lt {p : Prog} (hp : Wf p) {k : Nat} (h : waysIn p k ≠ []) (n : Int) : wayOf (waysIn p k) n < p.length ∧ ((waysIn p k).getD (n % (waysIn p k).length).toNat 0) = (wayOf (waysIn p k) n : Int) := by
  have := hp.way _ (way_ix h n).2
  unfold wayOf
  omega
theorem blocks_lt {p : Prog} (hp : Wf p) : ∀ {road : List Int} {k : Nat}, k < p.length → ∀ b ∈ blocksFrom p k road, b < p.length
  | [], k, hk, b, hb => by rw [List.mem_singleton.mp hb]; exact hk
  | n :: r, k, hk, b, hb => by
    unfold blocksFrom at hb
    split at hb
    · rw [List.mem_singleton.mp hb]; exact hk
    · rename_i h
      rcases List.mem_cons.mp hb with rfl | hb
      · exact hk
      · exact blocks_lt hp (wayOf_lt hp h n).1 b hb
theorem blocks_len (p : Prog) : ∀ (road : List Int) (k : Nat), (blocksFrom p k road).length ≤ road.length + 1
  | [], k => Nat.le_refl _
  | n :: r, k => by
    unfold blocksFrom
    split
    · simp
    · rw [List.length_cons, List.length_cons]
      have := blocks_len p r (wayOf (waysIn p k) n)
      omega
def intsN (l : List Nat) : List D := l.map fun n : Nat => D.int (n : Int)
theorem intsN_map (l : List Nat) : intsN l = (l.map fun n : Nat => (n : Int)).map D.int := by unfold intsN; rw [List.map_map]; rfl
def R_blocks_on : List D → Sl → Prop := fun ds s => ∃ (p : Prog) (road : List Int), ds = [en p, .lst (road.map D.int)] ∧ (Wf p ∧ road.length ≤ 1000) ∧ s = .ow (intsN (blocksFrom p 0 road))
def rd_blocks_on (K : PySem.W.Frag) : TS :=
  (tSeq (tAsg (tLst (tCons (tC (.int 0)) tNil)) (gName 2))
    (tSeq (tFor (iX K (tVar 1)) (gName 3) (tSeq (tAsg (tOp (rIxX K) (tOp (rIxX K) (tVar 0) (tOp (rIxX K) (tVar 2) (tUn (rU fun i => .int (-i)) (tC (.int 1))))) (tC (.int 1))) (gName 4))
    (tSeq (tIfS (tTest (tOp (rEqX K) (tVar 4) (tLst tNil))) (tRet (tVar 2)) tNext)
    (tDrop (tBM K "list" rAppend (tVar 2) (tCons (tOp (rIxX K) (tVar 4) (tOp rModX (tVar 3) (tCB (rLenX K) (tCons (tVar 4) tNil)))) tNil))))))
    (tRet (tVar 2))))
theorem at_last {α : Type} (l : List α) (x : α) : atI (l ++ [x]) (-1) = some x := by
  unfold atI ixN
  rw [List.length_append]
  simp
  rw [if_pos (by omega), show (-1 + ((l.length : Int) + 1)).toNat = l.length by omega]
  simp
theorem sv_blocks_on {K : PySem.W.Frag} : Keeps K R_blocks_on 5 2 (rd_blocks_on K) := by
  rintro ds s ⟨p, road, rfl, ⟨hp, hr⟩, rfl⟩
  refine ⟨rfl, ?_⟩
  show Sv K (rd_blocks_on K) [.im (en p), .im (.lst (road.map D.int)), .un, .un, .un] _
  unfold rd_blocks_on
  have hpos := hp.pos
  refine q_asg (s := .ow (intsN [0])) (by wtm_at "ev") ?_
  refine sv_seq (sv_forL (ds := road.map D.int) (fun i Γ => ∃ pre k x y, k < p.length ∧ pre.length ≤ i ∧ blocksFrom p 0 road = pre ++ blocksFrom p k (road.drop i) ∧ Γ = [.im (en p), .im (.lst (road.map D.int)), .ow (intsN (pre ++ [k])), x, y])
    (by wtm_at "evf") ⟨[], 0, _, _, hpos, Nat.le_refl _, rfl, rfl⟩ (fun i d Γ' hd hG => ?_) (fun Γ' hG => ?_))
  · obtain ⟨pre, k, x, y, hk, hl, he, rfl⟩ := hG
    rw [List.getElem?_map] at hd
    obtain ⟨n, hn, rfl⟩ := Option.map_eq_some_iff.mp hd
    have hi := (List.getElem?_eq_some_iff.mp hn).1
    have hdr : road.drop i = n :: road.drop (i + 1) := by
      rw [List.drop_eq_getElem_cons hi]
      congr 1
      exact (List.getElem?_eq_some_iff.mp hn).2
    rw [hdr] at he
    have hw := hp.waysLe k
    refine q_asg (s := .im (en (waysIn p k))) (ev_ways (k := k) (n := (k : Int)) (by wtm_at "evf") (EvO.sc (ev_ix (evl_var rfl) (ev_neg (by wtm_at "evv")) (show atI (intsN (pre ++ [k])) (-1) = some (.int (k : Int)) from by unfold intsN; rw [List.map_append]; exact at_last _ _)) rfl) rfl hk) ?_
    refine q_when (b := decide (waysIn p k = [])) (et_v (ev_eqd (a := waysIn p k) (b := []) (by wtm_at "evw") (EvL.w (EvO.ll (ev_lst ea_nil (by decide)))))) (fun h => ?_) (fun h => ?_)
    · refine sv_retL rfl ?_
      show Sl.ow (intsN _) = _
      rw [he]
      unfold blocksFrom
      rw [if_pos (of_decide_eq_true h)]
    · have h := of_decide_eq_false h
      have hx := way_ix h n
      obtain ⟨h1, h2⟩ := wayOf_lt hp h n
      rw [h2] at hx
      have hl0 : 0 < (waysIn p k).length := List.length_pos_iff.mpr h
      refine sv_app (i := 2) rfl (d := .int (wayOf (waysIn p k) n : Int)) (ev_ix (ds := (waysIn p k).map D.int) (EvO.l (evf_var rfl)) (ev_mod (evv_int rfl) (ev_lenE (EvO.w (evf_var rfl))) (by omega)) hx.1) (by unfold intsN; rw [List.length_map, List.length_append, List.length_singleton]; omega) ⟨pre ++ [k], wayOf (waysIn p k) n, .im (.int n), .im (en (waysIn p k)), h1, by rw [List.length_append, List.length_singleton]; omega, ?_, ?_⟩
      · rw [he]
        conv => lhs; unfold blocksFrom
        rw [if_neg h, List.append_assoc]
        rfl
      · show _ = [_, _, Sl.ow (intsN ((pre ++ [k]) ++ [_])), _, _]
        unfold intsN
        rw [List.map_append (l₁ := pre ++ [k])]
        rfl
  · obtain ⟨pre, k, x, y, hk, hl, he, rfl⟩ := hG
    refine sv_retL rfl ?_
    rw [List.length_map, List.drop_length] at he
    rw [he]
    rfl
/-! what is told -/
def stepR (works : Works) (st : Nums × List Int) (r : Row) : Nums × List Int := (doneN st.1 works r, match r with | .tell s => st.2 ++ [getN st.1 s] | .make _ _ _ => st.2)
def runR (works : Works) (rows : List Row) (st : Nums × List Int) : Nums × List Int := rows.foldl (stepR works) st
def rowsOn (p : Prog) (bs : List Nat) : List Row := (bs.map (rowsIn p)).flatten
def toldN (p : Prog) (start : Nums) (works : Works) (bs : List Nat) : List Int := (runR works (rowsOn p bs) (start, [])).2
theorem runR_app (works : Works) (a b : List Row) (st : Nums × List Int) : runR works (a ++ b) st = runR works b (runR works a st) := List.foldl_append
theorem runR_snoc (works : Works) (a : List Row) (r : Row) (st : Nums × List Int) : runR works (a ++ [r]) st = stepR works (runR works a st) r := runR_app works a [r] st
/-- numbers that n rows may have made -/
structure Ran (n : Nat) (st : Nums × List Int) : Prop where
  b : BdN (100 + 102 * n) st.1
  l : st.1.length ≤ 60 + n
  o : st.2.length ≤ n
theorem Ran.step {n : Nat} {st : Nums × List Int} {works : Works} (h : Ran n st) (hw : BdW works) (r : Row) : Ran (n + 1) (stepR works st r) := by
  cases r with
  | tell s =>
    refine ⟨fun p hp => (h.b p hp).mono (by omega), by have := h.l; show st.1.length ≤ _; omega, ?_⟩
    show (st.2 ++ [_]).length ≤ _
    rw [List.length_append]
    have := h.o
    simp
    omega
  | make s g rs =>
    refine ⟨fun p hp => ?_, ?_, by have := h.o; show st.2.length ≤ _; omega⟩
    · rcases mem_put hp with hp | rfl
      · exact (h.b p hp).mono (by omega)
      · exact (numOf_b h.b (hw.get g) rs).mono (by omega)
    · have := len_put st.1 s (numOf st.1 (wK (getM works g)) rs)
      have := h.l
      show (putM _ _ _).length ≤ _
      omega
theorem Ran.run {works : Works} (hw : BdW works) : ∀ {rows : List Row} {n : Nat} {st : Nums × List Int}, Ran n st → Ran (n + rows.length) (runR works rows st)
  | [], n, st, h => h
  | r :: t, n, st, h => by
    have := Ran.run hw (rows := t) (h.step hw r)
    rw [show n + (r :: t).length = n + 1 + t.length by rw [List.length_cons]; omega]
    exact this
theorem rowsOn_len {p : Prog} {m : Nat} (h : ∀ k, (rowsIn p k).length ≤ m) : ∀ bs : List Nat, (rowsOn p bs).length ≤ m * bs.length
  | [] => Nat.le_refl _
  | b :: r => by
    unfold rowsOn
    rw [List.map_cons, List.flatten_cons, List.length_append, List.length_cons]
    have := rowsOn_len h r
    have := h b
    unfold rowsOn at *
    rw [Nat.mul_succ]
    omega
/-- what a run is given -/
structure RunIn (p : Prog) (start : Nums) (works : Works) (road : List Int) : Prop where
  wf : Wf p
  rows : ∀ k, (rowsIn p k).length ≤ 100
  road : road.length ≤ 199
  b : BdN 100 start
  w : BdW works
  l : start.length ≤ 60
theorem RunIn.doneIn {p : Prog} {start : Nums} {works : Works} {road : List Int} (h : RunIn p start works road) {n : Nat} {st : Nums × List Int} (r : Ran n st) (hn : n ≤ 30000) : DoneIn (100 + 102 * n) st.1 works := ⟨by omega, r.b, h.w, by have := r.l; omega⟩
theorem RunIn.ran {p : Prog} {start : Nums} {works : Works} {road : List Int} (h : RunIn p start works road) (rows : List Row) : Ran rows.length (runR works rows (start, [])) := by
  have := Ran.run h.w (rows := rows) (n := 0) (st := (start, [])) ⟨h.b, h.l, Nat.le_refl _⟩
  rwa [Nat.zero_add] at this
def R_told : List D → Sl → Prop := fun ds s => ∃ (p : Prog) (start : Nums) (works : Works) (road : List Int), ds = [en p, .dk (enN start), .dk (enM enW works), .lst (road.map D.int)] ∧ RunIn p start works road ∧ s = .ow ((toldN p start works (blocksFrom p 0 road)).map D.int)
def rd_told (K : PySem.W.Frag) : TS :=
  (tSeq (tAsg (tCB rDicX (tCons (tVar 1) tNil)) (gName 4))
    (tSeq (tAsg (tLst tNil) (gName 5))
    (tSeq (tFor (iX K (tCall (spF K R_blocks_on) [] E0 (tCons (tVar 0) (tCons (tVar 3) tNil)))) (gName 6) (tFor (iX K (tOp (rIxX K) (tOp (rIxX K) (tVar 0) (tVar 6)) (tC (.int 0)))) (gName 7) (tSeq (tIfS (tTest (tOp (rEqX K) (tOp (rIxX K) (tVar 7) (tC (.int 0))) (tC (.str "tell")))) (tDrop (tBM K "list" rAppend (tVar 5) (tCons (tDGet2 (tVar 4) (tOp (rIxX K) (tVar 7) (tC (.int 1))) (tC (.int 0))) tNil))) tNext)
    (tAsg (tCall (spF K R_done) [] E0 (tCons (tVar 4) (tCons (tVar 2) (tCons (tVar 7) tNil)))) (gName 4)))))
    (tRet (tVar 5)))))
theorem rowsOn_take (p : Prog) (bs : List Nat) (i : Nat) {b : Nat} (h : bs[i]? = some b) : rowsOn p (bs.take (i + 1)) = rowsOn p (bs.take i) ++ rowsIn p b := by
  unfold rowsOn
  rw [List.take_add_one, h, List.map_append, List.flatten_append]
  simp
theorem flat_nums (m : Nums) : ScA ((enN m).map (·.2)) := fun d hd => by
  obtain ⟨q, hq, rfl⟩ := List.mem_map.mp hd
  obtain ⟨x, _, rfl⟩ := List.mem_map.mp hq
  rfl
theorem sv_told {K : PySem.W.Frag} : Keeps K R_told 8 4 (rd_told K) := by
  rintro ds s ⟨p, start, works, road, rfl, hI, rfl⟩
  refine ⟨rfl, ?_⟩
  show Sv K (rd_told K) [.im (en p), .im (.dk (enN start)), .im (.dk (enM enW works)), .im (.lst (road.map D.int)), .un, .un, .un, .un] _
  unfold rd_told
  have hb := fun b => blocks_lt hI.wf (road := road) (k := 0) hI.wf.pos b
  have hbl := blocks_len p road 0
  have hroad := hI.road
  refine q_asg (s := .ok (enN start)) (ev_dict (by wtm_at "evk")) ?_
  refine q_asg (s := .ow []) (by wtm_at "ev") ?_
  unfold toldN
  generalize hbs : blocksFrom p 0 road = bs at hb hbl
  refine sv_seq (sv_forL (ds := intsN bs) (fun i Γ => ∃ x y, Γ = [.im (en p), .im (.dk (enN start)), .im (.dk (enM enW works)), .im (.lst (road.map D.int)), .ok (enN (runR works (rowsOn p (bs.take i)) (start, [])).1), .ow ((runR works (rowsOn p (bs.take i)) (start, [])).2.map D.int), x, y])
    (EvO.fixL (ev_call (by wtm_at "eva") ⟨p, road, rfl, ⟨hI.wf, by omega⟩, by rw [hbs]⟩)) ⟨_, _, rfl⟩ (fun i d Γ' hd hG => ?_) (fun Γ' hG => ?_))
  · obtain ⟨x, y, rfl⟩ := hG
    unfold intsN at hd
    rw [List.getElem?_map] at hd
    obtain ⟨b, hbi, rfl⟩ := Option.map_eq_some_iff.mp hd
    have hbp := hb b (List.mem_of_getElem? hbi)
    have hi := (List.getElem?_eq_some_iff.mp hbi).1
    rw [rowsOn_take p bs i hbi]
    have hlen : (rowsOn p (bs.take i)).length ≤ 20000 := by
      have := rowsOn_len hI.rows (bs.take i)
      rw [List.length_take] at this
      have : 100 * min i bs.length ≤ 20000 := by omega
      omega
    generalize rowsOn p (bs.take i) = pre at hlen
    refine sv_forL (ds := (rowsIn p b).map en) (fun j Γ => ∃ y, Γ = [.im (en p), .im (.dk (enN start)), .im (.dk (enM enW works)), .im (.lst (road.map D.int)), .ok (enN (runR works (pre ++ (rowsIn p b).take j) (start, [])).1), .ow ((runR works (pre ++ (rowsIn p b).take j) (start, [])).2.map D.int), .im (.int b), y])
      (ev_rows (k := b) (evf_var rfl) (evv_int rfl) rfl hbp) ⟨_, by rw [List.take_zero, List.append_nil]; rfl⟩ (fun j d Γ' hd hG => ?_) (fun Γ' hG => ?_)
    · obtain ⟨y, rfl⟩ := hG
      rw [List.getElem?_map] at hd
      obtain ⟨r, hr, rfl⟩ := Option.map_eq_some_iff.mp hd
      have hj := (List.getElem?_eq_some_iff.mp hr).1
      have hrr := hI.wf.rowsRd r (List.mem_of_getElem? hr)
      have hrows := hI.rows b
      have hran := hI.ran (pre ++ (rowsIn p b).take j)
      have hn : (pre ++ (rowsIn p b).take j).length ≤ 25000 := by rw [List.length_append, List.length_take]; omega
      rw [List.take_add_one, hr, ← List.append_assoc]
      show Sv K _ _ ⟨fun Γ => ∃ y, Γ = [.im (en p), .im (.dk (enN start)), .im (.dk (enM enW works)), .im (.lst (road.map D.int)), .ok (enN (runR works ((pre ++ (rowsIn p b).take j) ++ [r]) (start, [])).1), .ow ((runR works ((pre ++ (rowsIn p b).take j) ++ [r]) (start, [])).2.map D.int), .im (.int b), y], _, fun Γ => ∃ y, Γ = [.im (en p), .im (.dk (enN start)), .im (.dk (enM enW works)), .im (.lst (road.map D.int)), .ok (enN (runR works ((pre ++ (rowsIn p b).take j) ++ [r]) (start, [])).1), .ow ((runR works ((pre ++ (rowsIn p b).take j) ++ [r]) (start, [])).2.map D.int), .im (.int b), y], _⟩
      rw [runR_snoc]
      have hdi := hI.doneIn hran (by omega)
      have ho := hran.o
      generalize runR works (pre ++ (rowsIn p b).take j) (start, []) = st at hran hdi ho
      obtain ⟨slots, out⟩ := st
      have hdn : ∀ (o : List Int) (E : EG), E.nx [.im (en p), .im (.dk (enN start)), .im (.dk (enM enW works)), .im (.lst (road.map D.int)), .ok (enN (doneN slots works r)), .ow (o.map D.int), .im (.int b), .im (en r)] →
          Sv K (tAsg (tCall (spF K R_done) [] E0 (tCons (tVar 4) (tCons (tVar 2) (tCons (tVar 7) tNil)))) (gName 4)) [.im (en p), .im (.dk (enN start)), .im (.dk (enM enW works)), .im (.lst (road.map D.int)), .ok (enN slots), .ow (o.map D.int), .im (.int b), .im (en r)] E := fun o E k =>
        sv_asg (s := .ok (enN (doneN slots works r))) (ev_callW (eaw_cons (EvK.w (evk_var rfl)) (eaw_cons (EvO.w (evf_var rfl)) (eaw_cons (EvO.w (evf_var rfl)) eaw_nil))) ⟨_, slots, works, r, rfl, ⟨hdi, hrr⟩, rfl⟩ (flat_nums _)) k
      cases r with
      | tell s =>
        refine sv_seq (sv_if (b := decide (("tell" : Str) = "tell")) ?_ (fun _ => ?_) (fun h => by rw [tell_t] at h; cases h))
        · show EvT K _ [.im (en p), .im (.dk (enN start)), .im (.dk (enM enW works)), .im (.lst (road.map D.int)), .ok (enN slots), .ow (out.map D.int), .im (.int b), .im (.tup [.str "tell", .str s])] _
          wtm_at "evt"
        · refine sv_app (i := 5) rfl (d := .int (getN slots s)) (EvV.fi (ev_getN (evk_var rfl) (EvO.sc (ev_ixT (ds := [.str "tell", .str s]) (evf_var rfl) evv_c rfl) rfl))) (by rw [List.length_map]; have : out.length ≤ 25000 := Nat.le_trans ho hn; omega) ?_
          rw [show out.map D.int ++ [D.int (getN slots s)] = (out ++ [getN slots s]).map D.int by rw [List.map_append]; rfl]
          exact hdn _ _ ⟨_, rfl⟩
      | make s g rs =>
        refine sv_seq (sv_if (b := decide (("make" : Str) = "tell")) ?_ (fun h => by rw [tell_f] at h; cases h) (fun _ => sv_next ?_))
        · show EvT K _ [.im (en p), .im (.dk (enN start)), .im (.dk (enM enW works)), .im (.lst (road.map D.int)), .ok (enN slots), .ow (out.map D.int), .im (.int b), .im (.tup [.str "make", .str s, .str g, .tup (rs.map D.str)])] _
          wtm_at "evt"
        · exact hdn _ _ ⟨_, rfl⟩
    · obtain ⟨y, rfl⟩ := hG
      rw [List.length_map, List.take_length]
      exact ⟨_, _, rfl⟩
  · obtain ⟨x, y, rfl⟩ := hG
    rw [show (intsN bs).length = bs.length by unfold intsN; rw [List.length_map], List.take_length]
    exact sv_retL rfl rfl
end Sf

namespace Sf
open PySem PySem.Spec PyProof.Rows L2
/-! short words for evaluation: each closes its goal or fails -/
local macro_rules | `(tactic| wtm_at "sd") => `(tactic| first | assumption | exact trivial | omega | ((with_reducible show List.length _ ≤ _); simp only [List.length_cons, List.length_nil]; omega) | decide | rfl | ((with_reducible show sOk _); (show PyData.strOk _ = true); decide +kernel))
local macro_rules | `(tactic| wtm_at "ix") => `(tactic| first | assumption | exact rfl)
local macro_rules | `(tactic| wtm_at "rr") => `(tactic| assumption)
local macro_rules | `(tactic| wtm_at "evp") => `(tactic| first | exact ep_none | (apply ep_some; wtm_at "evv"))
local macro_rules | `(tactic| wtm_at "evav") => `(tactic| first | exact eav_nil | (apply eav_cons; wtm_at "evv"; wtm_at "evav"))
local macro_rules | `(tactic| wtm_at "eva") => `(tactic| first | exact ea_nil | (apply ea_cons; wtm_at "evf"; wtm_at "eva"))
local macro_rules | `(tactic| wtm_at "evaw") => `(tactic| first | exact eaw_nil | (apply eaw_cons; wtm_at "evw"; wtm_at "evaw"))
local macro_rules | `(tactic| wtm_at "evl") => `(tactic| first | exact evl_var rfl | (apply EvO.l; wtm_at "evf") | (apply EvO.ll; wtm_at "evo"))
local macro_rules | `(tactic| wtm_at "evk") => `(tactic| first | exact evk_var rfl | (apply EvO.k; wtm_at "evf"))
local macro_rules | `(tactic| wtm_at "evm") => `(tactic| first | exact evm_var rfl | (apply EvO.m; wtm_at "evf"))
local macro_rules | `(tactic| wtm_at "evw") => `(tactic| first
  | exact EvL.w (evl_var rfl) | exact EvK.w (evk_var rfl) | exact EvM.w (evm_var rfl)
  | (apply EvO.w; wtm_at "evf")
  | (apply EvL.w; wtm_at "evl"))
/-! what a slot may hold: fixed data -/
local macro_rules | `(tactic| wtm_at "evf") => `(tactic| first
  | exact evf_var rfl
  | (apply ev_ixT; wtm_at "evf"; wtm_at "evv"; wtm_at "ix")
  | (apply ev_ix; wtm_at "evl"; wtm_at "evv"; wtm_at "ix")
  | (apply ev_tup; wtm_at "eva"; wtm_at "sd")
  | (apply EvV.fi; wtm_at "evv")
  | (apply EvV.fs; wtm_at "evv")
  | (apply EvV.fb; wtm_at "evv")
  | (apply EvV.fn; wtm_at "evv")
  | (apply ev_call; wtm_at "eva"; wtm_at "rr")
  | (apply ev_callW; wtm_at "evaw"; wtm_at "rr"; wtm_at "sd")
  | (apply EvO.fixL; wtm_at "evo"))
/-! an owned list, a dict -/
local macro_rules | `(tactic| wtm_at "evo") => `(tactic| first
  | (apply ev_lst; wtm_at "eva"; wtm_at "sd")
  | exact ev_newK | exact ev_newT
  | (apply ev_listL; wtm_at "evl")
  | (apply ev_listT; wtm_at "evf")
  | (apply ev_dict; wtm_at "evk")
  | (apply ev_addL; wtm_at "evl"; wtm_at "evl"; wtm_at "sd")
  | (apply ev_slL; wtm_at "evl"; wtm_at "evp"; wtm_at "evp")
  | (apply ev_call; wtm_at "eva"; wtm_at "rr")
  | (apply ev_callW; wtm_at "evaw"; wtm_at "rr"; wtm_at "sd"))
local macro_rules | `(tactic| wtm_at "evv") => `(tactic| first
  | exact evv_c
  | exact evv_int rfl
  | exact evv_str rfl
  | exact evv_bl rfl
  | exact evv_non rfl
  | (apply ev_add; wtm_at "evv"; wtm_at "evv")
  | (apply ev_cat; wtm_at "evv"; wtm_at "evv"; wtm_at "sd")
  | (apply ev_sub; wtm_at "evv"; wtm_at "evv")
  | (apply ev_mul; wtm_at "evv"; wtm_at "evv"; wtm_at "mu")
  | (apply ev_div; wtm_at "evv"; wtm_at "evv"; wtm_at "sd")
  | (apply ev_mod; wtm_at "evv"; wtm_at "evv"; wtm_at "sd")
  | (apply ev_neg; wtm_at "evv")
  | (apply ev_lt; wtm_at "evv"; wtm_at "evv")
  | (apply ev_le; wtm_at "evv"; wtm_at "evv")
  | (apply ev_gt; wtm_at "evv"; wtm_at "evv")
  | (apply ev_ge; wtm_at "evv"; wtm_at "evv")
  | (apply ev_eqi; wtm_at "evv"; wtm_at "evv")
  | (apply ev_eqs; wtm_at "evv"; wtm_at "evv")
  | (apply ev_nei; wtm_at "evv"; wtm_at "evv")
  | (apply ev_nes; wtm_at "evv"; wtm_at "evv")
  | (apply ev_eqb; wtm_at "evv"; wtm_at "evv")
  | (apply ev_neb; wtm_at "evv"; wtm_at "evv")
  | (apply ev_min; wtm_at "evv"; wtm_at "evv")
  | (apply ev_max; wtm_at "evv"; wtm_at "evv")
  | (apply ev_intb; wtm_at "evv")
  | (apply ev_lens; wtm_at "evv"; wtm_at "sd")
  | (apply ev_lenR; wtm_at "evw")
  | (apply ev_lenW; wtm_at "evw")
  | (apply ev_lenT; wtm_at "evw")
  | (apply ev_ixR; wtm_at "evf"; wtm_at "evv"; wtm_at "ix")
  | (apply ev_ixS; wtm_at "evv"; wtm_at "evv"; wtm_at "sd"; wtm_at "ix")
  | (apply ev_slS; wtm_at "evv"; wtm_at "sd"; wtm_at "evp"; wtm_at "evp")
  | (apply ev_nis; wtm_at "evv"; wtm_at "evv")
  | (apply ev_ins; wtm_at "evv"; wtm_at "evv")
  | (apply ev_inK; wtm_at "evv"; wtm_at "evk")
  | (apply ev_niK; wtm_at "evv"; wtm_at "evk")
  | (apply ev_andV; wtm_at "evv"; (intro _; wtm_at "evv"))
  | (apply ev_orV; wtm_at "evv"; (intro _; wtm_at "evv"))
  | (apply ev_notV; wtm_at "evv")
  | (apply ev_isN; wtm_at "evw")
  | (apply ev_ntN; wtm_at "evw")
  | (apply ev_isi_lst true; wtm_at "evw"; decide +kernel)
  | (apply ev_isi_lst false; wtm_at "evw"; decide +kernel)
  | (apply ev_isi_tup true; wtm_at "evw"; decide +kernel)
  | (apply ev_isi_tup false; wtm_at "evw"; decide +kernel)
  | (apply ev_isi_str true; wtm_at "evw"; decide +kernel)
  | (apply ev_isi_str false; wtm_at "evw"; decide +kernel)
  | (apply ev_isi_int true; wtm_at "evw"; decide +kernel)
  | (apply ev_isi_int false; wtm_at "evw"; decide +kernel)
  | (apply ev_isi_bl true; wtm_at "evw"; decide +kernel)
  | (apply ev_isi_bl false; wtm_at "evw"; decide +kernel)
  | (apply ev_isi_non true; wtm_at "evw"; decide +kernel)
  | (apply ev_isi_non false; wtm_at "evw"; decide +kernel)
  | (apply ev_isi_dk true; wtm_at "evw"; decide +kernel)
  | (apply ev_isi_dk false; wtm_at "evw"; decide +kernel)
  | (apply EvO.sc; wtm_at "evf1"; exact rfl))
/-! data that is a scalar: what is not made of scalars -/
local macro_rules | `(tactic| wtm_at "evf1") => `(tactic| first
  | (apply ev_ixT; wtm_at "evf"; wtm_at "evv"; wtm_at "ix")
  | (apply ev_ix; wtm_at "evl"; wtm_at "evv"; wtm_at "ix")
  | (apply ev_ixKT; wtm_at "evf"; wtm_at "evv"; wtm_at "ix")
  | (apply ev_get; wtm_at "evk"; wtm_at "evv"; wtm_at "evf")
  | (apply ev_call; wtm_at "eva"; wtm_at "rr")
  | (apply ev_callW; wtm_at "evaw"; wtm_at "rr"; wtm_at "sd"))
local macro_rules | `(tactic| wtm_at "mu") => `(tactic| first
  | assumption
  | (apply mul_ok_l; omega)
  | (apply mul_ok_r; omega))
local macro_rules | `(tactic| wtm_at "evt") => `(tactic| first
  | exact et_yes
  | (apply et_v; wtm_at "evv")
  | (apply et_b; wtm_at "evv")
  | (apply et_and; wtm_at "evt"; (intro _; wtm_at "evt"))
  | (apply et_or; wtm_at "evt"; (intro _; wtm_at "evt"))
  | (apply et_not; wtm_at "evt"))
/-! a name gets a value, and what follows -/
local macro_rules | `(tactic| wtm_at "ev") => `(tactic| first | wtm_at "evf" | wtm_at "evo")
local macro_rules | `(tactic| wtm_at "rr") => `(tactic| exact ⟨_, _, rfl, (by omega), rfl⟩)
local macro_rules | `(tactic| wtm_at "rr") => `(tactic| exact ⟨_, rfl, rfl⟩)
/-! ### _law_road_by -/
def roadMany (ns : List Int) : Int := if drawn ns 7 / 17 % 16 = 1 then 199 else drawn ns 7 % 17
def roadBy (ns : List Int) : List Int := (List.range (roadMany ns).toNat).map fun (k : Nat) => numberBy (cellAt ns (8 + k))
theorem roadMany_b (ns : List Int) : 0 ≤ roadMany ns ∧ roadMany ns ≤ 199 := by unfold roadMany; split <;> omega
theorem roadBy_len (ns : List Int) : (roadBy ns).length ≤ 199 := by
  have := roadMany_b ns
  unfold roadBy
  rw [List.length_map, List.length_range]
  omega
def R__law_road_by : List D → Sl → Prop := fun ds s => ∃ ns : List Int, ds = [.scr ns] ∧ s = .ow ((roadBy ns).map D.int)
def rd__law_road_by (K : PySem.W.Frag) : TS :=
  (tSeq (tAsg (tOp rModX (tCall (spF K R__law_drawn) [] E0 (tCons (tVar 0) (tCons (tC (.int 7)) tNil))) (tC (.int 17))) (gName 1))
    (tSeq (tIfS (tTest (tOp (rEqX K) (tOp rModX (tOp rDivX (tCall (spF K R__law_drawn) [] E0 (tCons (tVar 0) (tCons (tC (.int 7)) tNil))) (tC (.int 17))) (tC (.int 16))) (tC (.int 1)))) (tAsg (tC (.int 199)) (gName 1)) tNext)
    (tRet (tLc (iRng1 (tCons (tVar 1) tNil)) (gName 2) tYes (tCall (spF K R__law_number_by) [] E0 (tCons (tCall (spF K R__law_cell_at) [] E0 (tCons (tVar 0) (tCons (tOp (rAddX K) (tC (.int 8)) (tVar 2)) tNil))) tNil)) [2]))))
theorem sv__law_road_by {K : PySem.W.Frag} : Keeps K R__law_road_by 3 1 (rd__law_road_by K) := by
  rintro ds s ⟨ns, rfl, rfl⟩
  refine ⟨rfl, ?_⟩
  show Sv K (rd__law_road_by K) [.im (.scr ns), .un, .un] _
  unfold rd__law_road_by
  refine q_asg (s := .im (.int (drawn ns 7 % 17))) (by wtm_at "ev") ?_
  refine sv_cut (fun Γ => Γ = [.im (.scr ns), .im (.int (roadMany ns)), .un]) ?_ ?_
  · refine sv_if (b := decide (drawn ns 7 / 17 % 16 = 1)) (by wtm_at "evt") (fun h => ?_) (fun h => ?_)
    · rw [show roadMany ns = _ from if_pos (of_decide_eq_true h)]
      exact sv_asg (s := .im (.int 199)) (by wtm_at "ev") rfl
    · rw [show roadMany ns = _ from if_neg (of_decide_eq_false h)]
      exact sv_next rfl
  rintro Γ' rfl
  have hm := roadMany_b ns
  have hn : ((roadMany ns).toNat : Int) = roadMany ns := by omega
  refine sv_ret ((ev_lcR (n := (roadMany ns).toNat) (fun _ => true) (fun k => .int (numberBy (cellAt ns (8 + k)))) (by rw [hn]; wtm_at "evav") (by omega) (fun _ _ => et_yes) (fun k hk _ => ?_)).to (by rw [filt_true]; unfold roadBy; rw [List.map_map]; rfl)) rfl
  wtm_at "evf"
/-! ### _law_works_by -/
def threeBy (ns : List Int) (k : Int) : W3 :=
  let a := numberBy (cellAt ns k)
  let b := numberBy (cellAt ns (k + 1))
  let c := numberBy (cellAt ns (k + 2))
  if drawn ns 7 / 17 % 16 = 1 then (a % 2, b % 2, c % 19 - 9) else (a, b, c)
theorem threeBy_b (ns : List Int) (k : Int) : Bd 100 (threeBy ns k).1 ∧ Bd 100 (threeBy ns k).2.1 ∧ Bd 100 (threeBy ns k).2.2 := by
  unfold threeBy
  dsimp only
  split
  · have e : (2 : Nat) ^ 100 = 1267650600228229401496703205376 := by decide
    unfold Bd
    rw [e]
    refine ⟨?_, ?_, ?_⟩ <;> dsimp only <;> omega
  · exact ⟨numberBy_b _, numberBy_b _, numberBy_b _⟩
def wStep (ns : List Int) (st : Works × Nat) (r : Row) : Works × Nat :=
  (match r with | .tell _ => st.1 | .make _ g _ => if 0 < drawn ns ((st.2 + 3 : Nat) : Int) % 3 then putM st.1 g (threeBy ns ((st.2 + 3 : Nat) : Int)) else st.1, st.2 + 3)
def wRun (ns : List Int) (rows : List Row) : Works × Nat := rows.foldl (wStep ns) ([], 700)
def allRows (p : Prog) : List Row := (p.map (·.1)).flatten
def worksBy (ns : List Int) (p : Prog) : Works := (wRun ns (allRows p)).1
theorem snoc_ind {α : Type} {P : List α → Prop} (nil : P []) (snoc : ∀ a r, P a → P (a ++ [r])) (l : List α) : P l := by
  have : ∀ m : List α, P m.reverse := fun m => by
    induction m with
    | nil => exact nil
    | cons x r ih => rw [List.reverse_cons]; exact snoc _ _ ih
  have h := this l.reverse
  rwa [List.reverse_reverse] at h
theorem wRun_snoc (ns : List Int) (a : List Row) (r : Row) : wRun ns (a ++ [r]) = wStep ns (wRun ns a) r := List.foldl_append
theorem wRun_k (ns : List Int) : ∀ rows : List Row, (wRun ns rows).2 = 700 + 3 * rows.length := by
  intro rows
  induction rows using snoc_ind with
  | nil => rfl
  | snoc a r ih =>
    rw [wRun_snoc]
    show (wRun ns a).2 + 3 = _
    rw [ih, List.length_append, List.length_singleton]
    omega
def signsOk (rows : List Row) : Prop := ∀ r ∈ rows, match r with | .tell _ => True | .make _ g _ => sOk g
theorem wRun_ok (ns : List Int) : ∀ rows : List Row, signsOk rows → Dok (wRun ns rows).1 ∧ BdW (wRun ns rows).1 ∧ (wRun ns rows).1.length ≤ rows.length := by
  intro rows
  induction rows using snoc_ind with
  | nil => exact fun _ => ⟨.nil, fun _ h => (nomatch h), Nat.le_refl _⟩
  | snoc a r ih =>
    intro h
    obtain ⟨h1, h2, h3⟩ := ih fun x hx => h x (List.mem_append_left _ hx)
    have hr := h r (List.mem_append_right _ List.mem_cons_self)
    rw [wRun_snoc, List.length_append, List.length_singleton]
    cases r with
    | tell s => exact ⟨h1, h2, by show (wRun ns a).1.length ≤ _; omega⟩
    | make s g rs =>
      show Dok (if _ then _ else _) ∧ BdW (if _ then _ else _) ∧ (if _ then _ else _ : Works).length ≤ _
      split
      · refine ⟨h1.put hr _, fun p hp => ?_, ?_⟩
        · rcases mem_put hp with hp | rfl
          · exact h2 p hp
          · exact threeBy_b _ _
        · have := len_put (wRun ns a).1 g (threeBy ns (((wRun ns a).2 + 3 : Nat) : Int))
          omega
      · exact ⟨h1, h2, by omega⟩
def R__law_works_by : List D → Sl → Prop := fun ds s => ∃ (ns : List Int) (p : Prog), ds = [.scr ns, en p] ∧ (allRows p).length ≤ 10000 ∧ s = .ok (enM enW (worksBy ns p))
def rd__law_works_by (K : PySem.W.Frag) : TS :=
  (tSeq (tAsg tDNewK (gName 2))
    (tSeq (tAsg (tC (.int 700)) (gName 3))
    (tSeq (tFor (iX K (tVar 1)) (gName 4) (tFor (iX K (tOp (rIxX K) (tVar 4) (tC (.int 0)))) (gName 5) (tSeq (tAsg (tOp (rAddX K) (tVar 3) (tC (.int 3))) (gName 3))
    (tIfS (tAnd (tTest (tOp (rEqX K) (tOp (rIxX K) (tVar 5) (tC (.int 0))) (tC (.str "make")))) (tTest (tOp rGtX (tOp rModX (tCall (spF K R__law_drawn) [] E0 (tCons (tVar 0) (tCons (tVar 3) tNil))) (tC (.int 3))) (tC (.int 0))))) (tSeq (tAsg (tLc (iRng1 (tCons (tC (.int 3)) tNil)) (gName 7) tYes (tCall (spF K R__law_number_by) [] E0 (tCons (tCall (spF K R__law_cell_at) [] E0 (tCons (tVar 0) (tCons (tOp (rAddX K) (tVar 3) (tVar 7)) tNil))) tNil)) [7]) (gName 6))
    (tSeq (tIfS (tTest (tOp (rEqX K) (tOp rModX (tOp rDivX (tCall (spF K R__law_drawn) [] E0 (tCons (tVar 0) (tCons (tC (.int 7)) tNil))) (tC (.int 17))) (tC (.int 16))) (tC (.int 1)))) (tAsg (tLst (tCons (tOp rModX (tOp (rIxX K) (tVar 6) (tC (.int 0))) (tC (.int 2))) (tCons (tOp rModX (tOp (rIxX K) (tVar 6) (tC (.int 1))) (tC (.int 2))) (tCons (tOp rSubX (tOp rModX (tOp (rIxX K) (tVar 6) (tC (.int 2))) (tC (.int 19))) (tC (.int 9))) tNil)))) (gName 6)) tNext)
    (tAsg (tCB (rTupX K) (tCons (tVar 6) tNil)) (gSub (tVar 2) (tOp (rIxX K) (tVar 5) (tC (.int 2))) rSetX)))) tNext))))
    (tRet (tVar 2)))))
theorem allRows_take (p : Prog) (i : Nat) {b : Block} (h : p[i]? = some b) : allRows (p.take (i + 1)) = allRows (p.take i) ++ b.1 := by
  unfold allRows
  rw [List.take_add_one, h, List.map_append, List.flatten_append]
  simp
theorem allRows_pre (p : Prog) (i : Nat) {b : Block} (h : p[i]? = some b) : (allRows (p.take i)).length + b.1.length ≤ (allRows p).length := by
  have e : allRows p = allRows (p.take (i + 1)) ++ allRows (p.drop (i + 1)) := by
    unfold allRows
    rw [← List.flatten_append, ← List.map_append, List.take_append_drop]
  rw [e, allRows_take p i h, List.length_append, List.length_append]
  omega
theorem wRun_len (ns : List Int) (rows : List Row) : (wRun ns rows).1.length ≤ rows.length := by
  induction rows using snoc_ind with
  | nil => exact Nat.le_refl _
  | snoc a r ih =>
    rw [wRun_snoc, List.length_append, List.length_singleton]
    cases r with
    | tell s => show (wRun ns a).1.length ≤ _; omega
    | make s g rs =>
      show (if _ then _ else _ : Works).length ≤ _
      split
      · have := len_put (wRun ns a).1 g (threeBy ns (((wRun ns a).2 + 3 : Nat) : Int))
        omega
      · omega
theorem sv__law_works_by {K : PySem.W.Frag} : Keeps K R__law_works_by 8 2 (rd__law_works_by K) := by
  rintro ds s ⟨ns, p, rfl, hp, rfl⟩
  refine ⟨rfl, ?_⟩
  show Sv K (rd__law_works_by K) [.im (.scr ns), .im (en p), .un, .un, .un, .un, .un, .un] _
  unfold rd__law_works_by
  refine q_asg (s := .ok (enM enW [])) ev_newK ?_
  refine q_asg (s := .im (.int 700)) (by wtm_at "ev") ?_
  refine sv_seq (sv_forL (ds := p.map en) (fun i Γ => ∃ x y z w, Γ = [.im (.scr ns), .im (en p), .ok (enM enW (wRun ns (allRows (p.take i))).1), .im (.int ((wRun ns (allRows (p.take i))).2 : Nat)), x, y, z, w])
    (by wtm_at "evf") ⟨_, _, _, _, rfl⟩ (fun i d Γ' hd hG => ?_) (fun Γ' hG => ?_))
  · obtain ⟨x, y, z, w, rfl⟩ := hG
    rw [List.getElem?_map] at hd
    obtain ⟨b, hb, rfl⟩ := Option.map_eq_some_iff.mp hd
    rw [allRows_take p i hb]
    have hl := allRows_pre p i hb
    generalize allRows (p.take i) = pre at hl
    obtain ⟨rows, ways⟩ := b
    have hl : pre.length + rows.length ≤ 10000 := Nat.le_trans hl hp
    show Sv K _ [.im (.scr ns), .im (en p), .ok (enM enW (wRun ns pre).1), .im (.int ((wRun ns pre).2 : Nat)), .im (.tup [.lst (rows.map en), .lst (ways.map en)]), y, z, w] _
    refine sv_forL (ds := rows.map en) (fun j Γ => ∃ y z w, Γ = [.im (.scr ns), .im (en p), .ok (enM enW (wRun ns (pre ++ rows.take j)).1), .im (.int ((wRun ns (pre ++ rows.take j)).2 : Nat)), .im (.tup [.lst (rows.map en), .lst (ways.map en)]), y, z, w])
      (by wtm_at "evf") ⟨_, _, _, by rw [List.take_zero, List.append_nil]⟩ (fun j d Γ' hd hG => ?_) (fun Γ' hG => ?_)
    · obtain ⟨y, z, w, rfl⟩ := hG
      rw [List.getElem?_map] at hd
      obtain ⟨r, hr, rfl⟩ := Option.map_eq_some_iff.mp hd
      have hj := (List.getElem?_eq_some_iff.mp hr).1
      rw [List.take_add_one, hr, ← List.append_assoc]
      show Sv K _ _ ⟨fun Γ => ∃ y z w, Γ = [.im (.scr ns), .im (en p), .ok (enM enW (wRun ns ((pre ++ rows.take j) ++ [r])).1), .im (.int ((wRun ns ((pre ++ rows.take j) ++ [r])).2 : Nat)), .im (.tup [.lst (rows.map en), .lst (ways.map en)]), y, z, w], _, fun Γ => ∃ y z w, Γ = [.im (.scr ns), .im (en p), .ok (enM enW (wRun ns ((pre ++ rows.take j) ++ [r])).1), .im (.int ((wRun ns ((pre ++ rows.take j) ++ [r])).2 : Nat)), .im (.tup [.lst (rows.map en), .lst (ways.map en)]), y, z, w], _⟩
      rw [wRun_snoc]
      have hk := wRun_k ns (pre ++ rows.take j)
      have hwl := wRun_len ns (pre ++ rows.take j)
      rw [List.length_append, List.length_take] at hk hwl
      generalize wRun ns (pre ++ rows.take j) = st at hk hwl
      obtain ⟨wk, k⟩ := st
      dsimp only at hk hwl
      have hkb : k ≤ 31000 := by omega
      refine q_asg (s := .im (.int ((k + 3 : Nat)))) ((show EvO K _ _ (.im (.int ((k : Int) + 3))) by wtm_at "ev").to (by push_cast; rfl)) ?_
      cases r with
      | tell s =>
        show Sv K _ [.im (.scr ns), .im (en p), .ok (enM enW wk), .im (.int ((k + 3 : Nat))), .im (.tup [.lst (rows.map en), .lst (ways.map en)]), .im (.tup [.str "tell", .str s]), z, w] _
        refine sv_if (b := decide (("tell" : Str) = "make") && decide (0 < drawn ns ((k + 3 : Nat) : Int) % 3)) (by wtm_at "evt") (fun h => by rw [make_f] at h; cases h) (fun _ => sv_next ⟨_, _, _, rfl⟩)
      | make s g rs =>
        show Sv K _ [.im (.scr ns), .im (en p), .ok (enM enW wk), .im (.int ((k + 3 : Nat))), .im (.tup [.lst (rows.map en), .lst (ways.map en)]), .im (.tup [.str "make", .str s, .str g, .tup (rs.map D.str)]), z, w] _
        refine sv_if (b := decide (("make" : Str) = "make") && decide (0 < drawn ns ((k + 3 : Nat) : Int) % 3)) (by wtm_at "evt") (fun h => ?_) (fun h => ?_)
        · rw [make_t, Bool.true_and] at h
          have hs : (wStep ns (wk, k) (.make s g rs)).1 = putM wk g (threeBy ns ((k + 3 : Nat) : Int)) := if_pos (of_decide_eq_true h)
          show Sv K _ _ ⟨fun Γ => ∃ y z w, Γ = [.im (.scr ns), .im (en p), .ok (enM enW (wStep ns (wk, k) (.make s g rs)).1), .im (.int ((k + 3 : Nat))), .im (.tup [.lst (rows.map en), .lst (ways.map en)]), y, z, w], _, fun Γ => ∃ y z w, Γ = [.im (.scr ns), .im (en p), .ok (enM enW (wStep ns (wk, k) (.make s g rs)).1), .im (.int ((k + 3 : Nat))), .im (.tup [.lst (rows.map en), .lst (ways.map en)]), y, z, w], _⟩
          rw [hs]
          generalize hk3 : ((k + 3 : Nat) : Int) = k3
          have hk3b : 0 ≤ k3 ∧ k3 ≤ 40000 := by omega
          refine q_asg (s := .im (.lst [.int (numberBy (cellAt ns k3)), .int (numberBy (cellAt ns (k3 + 1))), .int (numberBy (cellAt ns (k3 + 2)))])) ?_ ?_
          · refine (EvO.fixL (ev_lcR (n := 3) (fun _ => true) (fun t => .int (numberBy (cellAt ns (k3 + t)))) (by wtm_at "evav") (by decide) (fun _ _ => et_yes) (fun t ht _ => ?_))).to ?_
            · wtm_at "evf"
            · rw [filt_true]
              show Sl.im (D.lst [.int (numberBy (cellAt ns (k3 + ((0 : Nat) : Int)))), .int (numberBy (cellAt ns (k3 + ((1 : Nat) : Int)))), .int (numberBy (cellAt ns (k3 + ((2 : Nat) : Int))))]) = _
              rw [show k3 + ((0 : Nat) : Int) = k3 by omega]
              rfl
          refine sv_cut (fun Γ => Γ = [.im (.scr ns), .im (en p), .ok (enM enW wk), .im (.int k3), .im (.tup [.lst (rows.map en), .lst (ways.map en)]), .im (.tup [.str "make", .str s, .str g, .tup (rs.map D.str)]), .im (.lst [.int (threeBy ns k3).1, .int (threeBy ns k3).2.1, .int (threeBy ns k3).2.2]), w]) ?_ ?_
          · refine sv_if (b := decide (drawn ns 7 / 17 % 16 = 1)) (by wtm_at "evt") (fun h => ?_) (fun h => ?_)
            · rw [show threeBy ns k3 = _ from if_pos (of_decide_eq_true h)]
              exact sv_asg (EvO.fixL (by wtm_at "evo")) rfl
            · rw [show threeBy ns k3 = _ from if_neg (of_decide_eq_false h)]
              exact sv_next rfl
          rintro Γ' rfl
          refine sv_putK (i := 2) (kk := .inr g) rfl (d := enW (threeBy ns k3)) (ev_tupL (by wtm_at "evl")) (show EvV K _ _ (.str g) by wtm_at "evv") (by rw [len_enM]; omega) ?_
          rw [putM_en]
          exact ⟨_, _, _, rfl⟩
        · rw [make_t, Bool.true_and] at h
          have hs : (wStep ns (wk, k) (.make s g rs)).1 = wk := if_neg (of_decide_eq_false h)
          show Sv K _ _ ⟨fun Γ => ∃ y z w, Γ = [.im (.scr ns), .im (en p), .ok (enM enW (wStep ns (wk, k) (.make s g rs)).1), .im (.int ((k + 3 : Nat))), .im (.tup [.lst (rows.map en), .lst (ways.map en)]), y, z, w], _, fun Γ => ∃ y z w, Γ = [.im (.scr ns), .im (en p), .ok (enM enW (wStep ns (wk, k) (.make s g rs)).1), .im (.int ((k + 3 : Nat))), .im (.tup [.lst (rows.map en), .lst (ways.map en)]), y, z, w], _⟩
          rw [hs]
          exact sv_next ⟨_, _, _, rfl⟩
    · obtain ⟨y, z, w, rfl⟩ := hG
      rw [List.length_map, List.take_length]
      exact ⟨_, _, _, _, rfl⟩
  · obtain ⟨x, y, z, w, rfl⟩ := hG
    rw [List.length_map, List.take_length]
    exact sv_retK rfl rfl
end Sf

namespace Sf
open PySem PySem.Spec PyProof.Rows L2
/-! ### what the drawn programs are like -/
theorem sOk_ownSign (ns : List Int) (k : Int) (h : 0 ≤ k ∧ k < 676) : sOk (ownSign ns k) := by
  unfold ownSign signOf
  have ok := sOk_restBy (drawn ns (631 + k * (drawn ns 630 % 2)))
  exact sOk_app (sOk_app (sOk_app (sOk_app (sOk_cut ok _ _) (sOk_letter (by omega))) (sOk_cut ok _ _)) (sOk_letter (by omega))) (sOk_cut ok _ _)
theorem allRows_set : ∀ {p : Prog} {k : Nat} {rows : List Row} {ways : List Int} {r : Row}, p[k]? = some (rows, ways) → (allRows (p.set k (rows ++ [r], ways))).length = (allRows p).length + 1
  | [], _, _, _, _, h => by simp at h
  | b :: t, 0, rows, ways, r, h => by
    have h : b = (rows, ways) := by simpa using h
    subst h
    show ((rows ++ [r]) ++ allRows t).length = (rows ++ allRows t).length + 1
    simp
    omega
  | b :: t, k + 1, rows, ways, r, h => by
    have ih := allRows_set (p := t) (k := k) (r := r) (by simpa using h)
    show (b.1 ++ allRows (t.set k _)).length = (b.1 ++ allRows t).length + 1
    rw [List.length_append, List.length_append, ih]
    omega
structure Drawn (ns : List Int) (names : List Str) (size n : Nat) (p : Prog) : Prop where
  len : p.length = size
  rows : ∀ b ∈ p, ∀ r ∈ b.1, ∃ (c : Int) (k : Nat), k < n ∧ r = rowBy c names (ownSign ns k)
  ways : ∀ b ∈ p, ∃ k : Nat, k < size ∧ b.2 = waysBy ns (400 + k) size
  all : (allRows p).length = n
theorem rowsIn_mem {p : Prog} {k : Nat} {r : Row} (h : r ∈ rowsIn p k) : ∃ b ∈ p, r ∈ b.1 := by
  unfold rowsIn at h
  cases e : p[k]? with
  | none => rw [e] at h; cases h
  | some b => rw [e] at h; exact ⟨b, List.mem_of_getElem? e, h⟩
theorem progOf_drawn (ns : List Int) (names : List Str) {size : Nat} (hs : 0 < size) : ∀ n, Drawn ns names size n (progOf ns names size n)
  | 0 => by
    refine ⟨progOf_len _ _ _ _, fun b hb r hr => ?_, fun b hb => ?_, ?_⟩
    · obtain ⟨k, hk, rfl⟩ := List.mem_map.mp (show b ∈ (List.range size).map _ from hb)
      cases hr
    · obtain ⟨k, hk, rfl⟩ := List.mem_map.mp (show b ∈ (List.range size).map _ from hb)
      exact ⟨k, List.mem_range.mp hk, rfl⟩
    · show (allRows ((List.range size).map _)).length = 0
      unfold allRows
      rw [List.map_map]
      rw [List.length_eq_zero_iff, List.flatten_eq_nil_iff]
      intro l hl
      obtain ⟨k, _, rfl⟩ := List.mem_map.mp hl
      rfl
  | n + 1 => by
    have ih := progOf_drawn ns names hs n
    have ha := scan_lt (p := progOf ns names size n) (at0By_lt ns (k := n) hs) size
    show Drawn ns names size (n + 1) (progStep ns names size (progOf ns names size n) n)
    unfold progStep
    generalize scan (progOf ns names size n) size (at0By ns size n) size = a at ha
    generalize progOf ns names size n = p at ih
    have hap : a < p.length := by rw [ih.len]; exact ha
    refine ⟨by rw [addRow_len, ih.len], fun b hb r hr => ?_, fun b hb => ?_, ?_⟩
    · rcases List.mem_or_eq_of_mem_set hb with hb | rfl
      · obtain ⟨c, k, hk, e⟩ := ih.rows b hb r hr
        exact ⟨c, k, by omega, e⟩
      · rcases List.mem_append.mp hr with hr | hr
        · obtain ⟨b, hb, hr⟩ := rowsIn_mem hr
          obtain ⟨c, k, hk, e⟩ := ih.rows b hb r hr
          exact ⟨c, k, by omega, e⟩
        · exact ⟨_, n, by omega, List.mem_singleton.mp hr⟩
    · rcases List.mem_or_eq_of_mem_set hb with hb | rfl
      · exact ih.ways b hb
      · exact ih.ways (rowsIn p a, waysIn p a) (List.mem_of_getElem? (rowsIn_some hap))
    · show (allRows (p.set a (rowsIn p a ++ [_], waysIn p a))).length = n + 1
      rw [allRows_set (rowsIn_some hap), ih.all]
/-- a drawn program, as the laws use it -/
structure Dp2 (ns : List Int) (names : List Str) (p : Prog) : Prop where
  pos : 0 < p.length
  len : p.length ≤ 60
  rows : ∀ b ∈ p, ∀ r ∈ b.1, ∃ (c : Int) (k : Nat), k < 76 ∧ r = rowBy c names (ownSign ns k)
  ways : ∀ b ∈ p, ∃ k : Nat, k < p.length ∧ b.2 = waysBy ns (400 + k) p.length
  all : (allRows p).length ≤ 76
theorem programBy_dp (ns : List Int) (names : List Str) : Dp2 ns names (programBy ns names) := by
  have hs := sizeBy_b ns names
  have hm := rowMany_b ns names
  have h := progOf_drawn ns names (size := (sizeBy ns names).toNat) (by omega) (rowMany ns names).toNat
  refine ⟨by unfold programBy; rw [h.len]; omega, by unfold programBy; rw [h.len]; omega, fun b hb r hr => ?_, fun b hb => ?_, by unfold programBy; rw [h.all]; omega⟩
  · obtain ⟨c, k, hk, e⟩ := h.rows b hb r hr
    exact ⟨c, k, by omega, e⟩
  · obtain ⟨k, hk, e⟩ := h.ways b hb
    refine ⟨k, ?_, ?_⟩
    · unfold programBy; rw [h.len]; exact hk
    · rw [e]; unfold programBy; rw [h.len]
theorem rowBy_reads (c : Int) (names : List Str) (sg : Str) : (readsOf (rowBy c names sg)).length ≤ 2 := by
  unfold rowBy
  split
  · simp [readsOf]
  · simp only [readsOf, List.length_take, List.length_cons, List.length_nil]
    omega
theorem allRows_mem {p : Prog} {b : Block} (h : b ∈ p) : b.1.length ≤ (allRows p).length := by
  obtain ⟨i, hi⟩ := List.mem_iff_getElem?.mp h
  have := allRows_pre p i hi
  omega
theorem allRows_in {p : Prog} {r : Row} (h : r ∈ allRows p) : ∃ b ∈ p, r ∈ b.1 := by
  obtain ⟨l, hl, hr⟩ := List.mem_flatten.mp h
  obtain ⟨b, hb, rfl⟩ := List.mem_map.mp hl
  exact ⟨b, hb, hr⟩
section
variable {ns : List Int} {names : List Str} {p : Prog}
theorem Dp2.wf (h : Dp2 ns names p) : Wf p := by
  refine ⟨h.pos, by have := h.len; omega, fun b hb => ?_, fun b hb => ?_, fun b hb w hw => ?_, fun b hb r hr => ?_⟩
  · have := allRows_mem hb
    have := h.all
    omega
  · obtain ⟨k, _, e⟩ := h.ways b hb
    have := waysBy_len ns (400 + k) p.length
    rw [e]
    omega
  · obtain ⟨k, _, e⟩ := h.ways b hb
    rw [e] at hw
    exact waysBy_in ns _ (by have := h.pos; omega) w hw
  · obtain ⟨c, k, _, rfl⟩ := h.rows b hb r hr
    exact rowBy_reads _ _ _
theorem Dp2.signs (h : Dp2 ns names p) : signsOk (allRows p) := fun r hr => by
  obtain ⟨b, hb, hr⟩ := allRows_in hr
  obtain ⟨c, k, hk, rfl⟩ := h.rows b hb r hr
  unfold rowBy
  split
  · rename_i e
    split at e
    · trivial
    · cases e
  · rename_i e
    split at e
    · cases e
    · injection e with _ e _
      rw [← e]
      exact sOk_ownSign ns k (by omega)
theorem Dp2.rowsLe (h : Dp2 ns names p) (k : Nat) : (rowsIn p k).length ≤ 76 := by
  unfold rowsIn
  cases e : p[k]? with
  | none => exact Nat.zero_le _
  | some b =>
    have := allRows_mem (List.mem_of_getElem? e)
    have := h.all
    show b.1.length ≤ 76
    omega
theorem Dp2.psz (h : Dp2 ns names p) : Psz p := by
  have w := h.wf
  refine ⟨by have := w.len; omega, fun b hb => by have := w.rows b hb; omega, fun b hb => by have := w.nways b hb; omega, fun b hb r hr => ?_⟩
  have := w.reads b hb r hr
  cases r with
  | tell s => exact Nat.zero_le _
  | make s g rs => exact Nat.le_trans (show rs.length ≤ 2 from this) (by decide)
end
end Sf

namespace Sf
open PySem PySem.Spec PyProof.Rows L2
/-! ### what is needed: plain -/
theorem mem_adds {x : Str} : ∀ {ss hs : List Str}, x ∈ ss.foldl addS hs ↔ x ∈ hs ∨ x ∈ ss
  | [], hs => by simp
  | s :: r, hs => by
    show x ∈ r.foldl addS (addS hs s) ↔ _
    rw [mem_adds (ss := r), mem_addS]
    simp only [List.mem_cons]
    constructor
    · rintro ((h | h) | h)
      · exact .inl h
      · exact .inr (.inl h)
      · exact .inr (.inr h)
    · rintro (h | h | h)
      · exact .inl (.inl h)
      · exact .inl (.inr h)
      · exact .inr h
theorem step_mono {hs hs' : List Str} (h : ∀ x ∈ hs, x ∈ hs') (r : Row) : ∀ x ∈ stepB hs r, x ∈ stepB hs' r := by
  intro x hx
  cases r with
  | tell s =>
    show x ∈ addS hs' s
    rw [mem_addS]
    rcases mem_addS.mp (show x ∈ addS hs s from hx) with q | q
    · exact .inl (h x q)
    · exact .inr q
  | make s g rs =>
    by_cases a : s ∈ hs
    · have b := h s a
      rw [stepB_in a, mem_adds] at hx
      rw [stepB_in b, mem_adds]
      rcases hx with q | q
      · have := List.mem_filter.mp q
        exact .inl (List.mem_filter.mpr ⟨h x this.1, this.2⟩)
      · exact .inr q
    · rw [stepB_out a] at hx
      by_cases b : s ∈ hs'
      · rw [stepB_in b, mem_adds]
        have : x ≠ s := fun e => a (e ▸ hx)
        exact .inl (List.mem_filter.mpr ⟨h x hx, by simpa using this⟩)
      · rw [stepB_out b]
        exact h x hx
theorem steps_mono : ∀ {rs : List Row} {hs hs' : List Str}, (∀ x ∈ hs, x ∈ hs') → ∀ x ∈ rs.foldl stepB hs, x ∈ rs.foldl stepB hs'
  | [], _, _, h => h
  | r :: t, _, _, h => steps_mono (rs := t) (step_mono h r)
theorem ahead_mono {rows : List Row} {b b' : List Str} (h : ∀ x ∈ b, x ∈ b') : ∀ x ∈ aheadL rows b, x ∈ aheadL rows b' := fun x hx => by
  unfold aheadL at *
  rw [sortS_mem] at *
  unfold aheadH heldS at *
  exact steps_mono (fun y hy => mem_adds.mpr (.inr (h y (by simpa using mem_adds.mp hy)))) x hx
abbrev Needs := List (List Str)
def ndAt (nd : Needs) (b : Nat) : List Str := (nd[b]?).getD []
def behindOf (nd : Needs) (ws : List Int) : List Str := (ws.map fun w => ndAt nd w.toNat).flatten
def liveF (p : Prog) (nd : Needs) (b : Nat) : List Str := aheadL (rowsIn p b) (behindOf nd (waysIn p b))
def passN (p : Prog) (nd : Needs) : Nat → Needs
  | 0 => nd
  | k + 1 => (passN p nd k).set (p.length - 1 - k) (liveF p (passN p nd k) (p.length - 1 - k))
def pass (p : Prog) (nd : Needs) : Needs := passN p nd p.length
def nd0 (p : Prog) : Needs := p.map fun _ => []
def roundN (p : Prog) : Nat → Needs
  | 0 => nd0 p
  | n + 1 => pass p (roundN p n)
def needOf (p : Prog) : Needs := roundN p (63 * p.length + 1)
/-- all of a program's names are of a small pool -/
structure Pool (pool : List Str) (p : Prog) : Prop where
  le : pool.length ≤ 63
  ok : ∀ x ∈ pool, sOk x
  rows : ∀ b ∈ p, ∀ r ∈ b.1, rowIn pool r
theorem Pool.rowsIn {pool : List Str} {p : Prog} (h : Pool pool p) {k : Nat} : ∀ r ∈ rowsIn p k, rowIn pool r := by
  unfold Sf.rowsIn
  cases e : p[k]? with
  | none => intro r z; cases z
  | some b => exact h.rows b (List.mem_of_getElem? e)
/-- lists of names of the pool, rising, each once -/
def Up (pool : List Str) (l : List Str) : Prop := l.Nodup ∧ (∀ x ∈ l, x ∈ pool) ∧ l.Pairwise fun a b => leS a b = true
theorem Up.le {pool l : List Str} (h : Up pool l) : l.length ≤ pool.length := nd_le h.1 h.2.1
/-- of two such lists, where one is within the other: as long means alike -/
theorem Up.eq {pool l m : List Str} (hl : Up pool l) (hm : Up pool m) (h : ∀ x ∈ l, x ∈ m) (e : m.length ≤ l.length) : l = m := by
  refine str_up_unique ?_ hl.2.2 hm.2.2
  refine (List.perm_ext_iff_of_nodup hl.1 hm.1).mpr fun x => ⟨h x, fun hx => ?_⟩
  apply Classical.byContradiction
  intro hn
  have := nd_le (l := x :: l) (m := m) (List.nodup_cons.mpr ⟨hn, hl.1⟩) fun y hy => by
    rcases List.mem_cons.mp hy with rfl | hy
    · exact hx
    · exact h y hy
  rw [List.length_cons] at this
  omega
structure NI (pool : List Str) (p : Prog) (nd : Needs) : Prop where
  len : nd.length = p.length
  up : ∀ b, Up pool (ndAt nd b)
  pre : ∀ b, b < p.length → ∀ x ∈ ndAt nd b, x ∈ liveF p nd b
theorem behind_in {pool : List Str} {p : Prog} {nd : Needs} (h : ∀ b, Up pool (ndAt nd b)) (ws : List Int) : ∀ x ∈ behindOf nd ws, x ∈ pool := fun x hx => by
  obtain ⟨l, hl, hx⟩ := List.mem_flatten.mp hx
  obtain ⟨w, _, rfl⟩ := List.mem_map.mp hl
  exact (h _).2.1 x hx
theorem live_small {pool : List Str} {p : Prog} (hP : Pool pool p) {nd : Needs} (h : ∀ b, Up pool (ndAt nd b)) (b : Nat) : Small pool (rowsIn p b) (behindOf nd (waysIn p b)) := ⟨hP.le, hP.ok, hP.rowsIn, behind_in (p := p) h _⟩
theorem aheadL_up {pool : List Str} {rows : List Row} {behind : List Str} (h : Small pool rows behind) : Up pool (aheadL rows behind) := by
  have hi := h.hin rows.reverse.length
  rw [List.take_length] at hi
  exact ⟨(sortS_perm _).nodup_iff.mpr hi.nd, fun x hx => hi.mem x (sortS_mem.mp hx), sortS_up _⟩
theorem live_up {pool : List Str} {p : Prog} (hP : Pool pool p) {nd : Needs} (h : ∀ b, Up pool (ndAt nd b)) (b : Nat) : Up pool (liveF p nd b) := aheadL_up (live_small hP h b)
theorem live_mono {p : Prog} {nd nd' : Needs} (h : ∀ b, ∀ x ∈ ndAt nd b, x ∈ ndAt nd' b) (b : Nat) : ∀ x ∈ liveF p nd b, x ∈ liveF p nd' b := by
  refine ahead_mono fun x hx => ?_
  obtain ⟨l, hl, hx⟩ := List.mem_flatten.mp hx
  obtain ⟨w, hw, rfl⟩ := List.mem_map.mp hl
  exact List.mem_flatten.mpr ⟨_, List.mem_map.mpr ⟨w, hw, rfl⟩, h _ x hx⟩
theorem ndAt_set {nd : Needs} {b : Nat} (hb : b < nd.length) (l : List Str) (c : Nat) : ndAt (nd.set b l) c = if c = b then l else ndAt nd c := by
  unfold ndAt
  by_cases e : c = b
  · subst e
    rw [List.getElem?_set_self hb, if_pos rfl]
    rfl
  · rw [List.getElem?_set_ne (fun z => e z.symm), if_neg e]
theorem NI.step {pool : List Str} {p : Prog} (hP : Pool pool p) {nd : Needs} (h : NI pool p nd) {b : Nat} (hb : b < p.length) : NI pool p (nd.set b (liveF p nd b)) ∧ ∀ c, ∀ x ∈ ndAt nd c, x ∈ ndAt (nd.set b (liveF p nd b)) c := by
  have hbl : b < nd.length := by rw [h.len]; exact hb
  have grow : ∀ c, ∀ x ∈ ndAt nd c, x ∈ ndAt (nd.set b (liveF p nd b)) c := fun c x hx => by
    rw [ndAt_set hbl]
    split
    · rename_i e; subst e; exact h.pre c hb x hx
    · exact hx
  refine ⟨⟨by rw [List.length_set, h.len], fun c => ?_, fun c hc x hx => ?_⟩, grow⟩
  · rw [ndAt_set hbl]
    split
    · exact live_up hP h.up b
    · exact h.up c
  · rw [ndAt_set hbl] at hx
    refine live_mono grow c x ?_
    split at hx
    · rename_i e; subst e; exact hx
    · exact h.pre c hc x hx
/-- how much there is -/
def sizeN (nd : Needs) : Nat := (nd.map List.length).sum
theorem sizeN_set : ∀ {nd : Needs} {b : Nat}, b < nd.length → ∀ l, sizeN (nd.set b l) + (ndAt nd b).length = sizeN nd + l.length
  | [], _, h, _ => absurd h (by simp)
  | x :: r, 0, _, l => by
    show (l.length + sizeN r) + x.length = (x.length + sizeN r) + l.length
    omega
  | x :: r, b + 1, h, l => by
    have ih := sizeN_set (nd := r) (b := b) (by simpa using h) l
    show (x.length + sizeN (r.set b l)) + (ndAt r b).length = (x.length + sizeN r) + l.length
    omega
theorem sizeN_le {pool : List Str} : ∀ {nd : Needs}, (∀ l ∈ nd, Up pool l) → sizeN nd ≤ pool.length * nd.length
  | [], _ => Nat.le_refl _
  | x :: r, h => by
    have ih := sizeN_le (nd := r) fun l hl => h l (List.mem_cons_of_mem _ hl)
    have := (h x List.mem_cons_self).le
    show x.length + sizeN r ≤ pool.length * (r.length + 1)
    rw [Nat.mul_succ]
    omega
theorem NI.all {pool : List Str} {p : Prog} {nd : Needs} (h : NI pool p nd) : ∀ l ∈ nd, Up pool l := fun l hl => by
  obtain ⟨i, hi⟩ := List.mem_iff_getElem?.mp hl
  have := h.up i
  unfold ndAt at this
  rw [hi] at this
  exact this
theorem NI.size {pool : List Str} {p : Prog} (hP : Pool pool p) {nd : Needs} (h : NI pool p nd) : sizeN nd ≤ 63 * p.length := by
  have := sizeN_le h.all
  have := Nat.mul_le_mul_right nd.length hP.le
  rw [h.len] at *
  omega
theorem NI.init {pool : List Str} {p : Prog} : NI pool p (nd0 p) := by
  have e : ∀ b, ndAt (nd0 p) b = [] := fun b => by
    unfold ndAt nd0
    rw [List.getElem?_map]
    cases p[b]? <;> rfl
  refine ⟨by unfold nd0; rw [List.length_map], fun b => by rw [e]; exact ⟨.nil, fun _ h => (nomatch h), .nil⟩, fun b _ x hx => ?_⟩
  rw [e] at hx
  cases hx
/-- whether something changed in the first k blocks of a pass -/
def chN (p : Prog) (nd : Needs) : Nat → Bool
  | 0 => false
  | k + 1 => chN p nd k || !decide (liveF p (passN p nd k) (p.length - 1 - k) = ndAt (passN p nd k) (p.length - 1 - k))
theorem passN_ni {pool : List Str} {p : Prog} (hP : Pool pool p) {nd : Needs} (h : NI pool p nd) : ∀ k, k ≤ p.length → NI pool p (passN p nd k)
  | 0, _ => h
  | k + 1, hk => ((passN_ni hP h k (by omega)).step hP (by omega)).1
theorem passN_size {pool : List Str} {p : Prog} (hP : Pool pool p) {nd : Needs} (h : NI pool p nd) : ∀ k, k ≤ p.length → (chN p nd k = false → passN p nd k = nd) ∧ sizeN nd ≤ sizeN (passN p nd k) ∧ (chN p nd k = true → sizeN nd + 1 ≤ sizeN (passN p nd k))
  | 0, _ => ⟨fun _ => rfl, Nat.le_refl _, fun h => by cases h⟩
  | k + 1, hk => by
    obtain ⟨i1, i2, i3⟩ := passN_size hP h k (by omega)
    have hn := passN_ni hP h k (by omega)
    have hb : p.length - 1 - k < p.length := by omega
    have hbl : p.length - 1 - k < (passN p nd k).length := by rw [hn.len]; exact hb
    have hs := sizeN_set hbl (liveF p (passN p nd k) (p.length - 1 - k))
    have hle := nd_le (hn.up _).1 (hn.pre _ hb)
    show (chN p nd (k + 1) = false → (passN p nd k).set _ _ = nd) ∧ sizeN nd ≤ sizeN ((passN p nd k).set _ _) ∧ (chN p nd (k + 1) = true → sizeN nd + 1 ≤ sizeN ((passN p nd k).set _ _))
    refine ⟨fun hc => ?_, by omega, fun hc => ?_⟩
    · simp only [chN, Bool.or_eq_false_iff] at hc
      have he : liveF p (passN p nd k) (p.length - 1 - k) = ndAt (passN p nd k) (p.length - 1 - k) := nd_f hc.2
      rw [he]
      have : (passN p nd k)[p.length - 1 - k]? = some (ndAt (passN p nd k) (p.length - 1 - k)) := by
        unfold ndAt
        rw [List.getElem?_eq_getElem hbl]
        rfl
      rw [set_at this]
      exact i1 hc.1
    · by_cases hc1 : chN p nd k = true
      · have := i3 hc1
        omega
      · have hne : ¬ liveF p (passN p nd k) (p.length - 1 - k) = ndAt (passN p nd k) (p.length - 1 - k) := by
          simp only [chN, Bool.or_eq_true] at hc
          exact nd_t (hc.resolve_left hc1)
        have : ¬ (liveF p (passN p nd k) (p.length - 1 - k)).length ≤ (ndAt (passN p nd k) (p.length - 1 - k)).length := fun z => hne ((hn.up _).eq (live_up hP hn.up _) (hn.pre _ hb) z).symm
        omega
theorem pass_ch {pool : List Str} {p : Prog} (hP : Pool pool p) {nd : Needs} (h : NI pool p nd) : chN p nd p.length = !decide (pass p nd = nd) := by
  obtain ⟨i1, i2, i3⟩ := passN_size hP h p.length (Nat.le_refl _)
  cases e : chN p nd p.length with
  | false => rw [show pass p nd = nd from i1 e]; simp
  | true =>
    have := i3 e
    have : ¬ pass p nd = nd := fun z => by
      unfold pass at z
      rw [z] at this
      omega
    simp [this]
theorem round_ni {pool : List Str} {p : Prog} (hP : Pool pool p) : ∀ n, NI pool p (roundN p n)
  | 0 => .init
  | n + 1 => passN_ni hP (round_ni hP n) _ (Nat.le_refl _)
theorem round_stop {p : Prog} {n : Nat} (h : pass p (roundN p n) = roundN p n) : ∀ k, roundN p (n + k) = roundN p n
  | 0 => rfl
  | k + 1 => by
    show pass p (roundN p (n + k)) = _
    rw [round_stop h k, h]
theorem round_grow {pool : List Str} {p : Prog} (hP : Pool pool p) : ∀ n, (∃ m, m < n ∧ pass p (roundN p m) = roundN p m) ∨ n ≤ sizeN (roundN p n)
  | 0 => .inr (Nat.zero_le _)
  | n + 1 => by
    rcases round_grow hP n with ⟨m, h1, h2⟩ | h
    · exact .inl ⟨m, by omega, h2⟩
    · by_cases e : pass p (roundN p n) = roundN p n
      · exact .inl ⟨n, by omega, e⟩
      · have hc := pass_ch hP (round_ni hP n)
        have i3 := (passN_size hP (round_ni hP n) p.length (Nat.le_refl _)).2.2
        rw [hc] at i3
        have := i3 (by simp [e])
        refine .inr ?_
        show n + 1 ≤ sizeN (pass p (roundN p n))
        unfold pass
        omega
theorem need_fix {pool : List Str} {p : Prog} (hP : Pool pool p) : pass p (needOf p) = needOf p ∧ ∀ n, (63 * p.length + 1 ≤ n ∨ pass p (roundN p n) = roundN p n) → roundN p n = needOf p := by
  have hs := (round_ni hP (63 * p.length + 1)).size hP
  obtain ⟨m, h1, h2⟩ : ∃ m, m < 63 * p.length + 1 ∧ pass p (roundN p m) = roundN p m := by
    rcases round_grow hP (63 * p.length + 1) with h | h
    · exact h
    · omega
  have e : needOf p = roundN p m := by
    unfold needOf
    rw [show 63 * p.length + 1 = m + (63 * p.length + 1 - m) by omega]
    exact round_stop h2 _
  refine ⟨by rw [e]; exact h2, fun n hn => ?_⟩
  rw [e]
  by_cases hmn : m ≤ n
  · rw [show n = m + (n - m) by omega]
    exact round_stop h2 _
  · rcases hn with hn | hn
    · omega
    · rw [show m = n + (m - n) by omega]
      exact (round_stop hn _).symm
theorem need_ni {pool : List Str} {p : Prog} (hP : Pool pool p) : NI pool p (needOf p) := round_ni hP _
theorem need_live {pool : List Str} {p : Prog} (hP : Pool pool p) {b : Nat} (hb : b < p.length) : ndAt (needOf p) b = liveF p (needOf p) b := by
  have h := (need_fix hP).1
  have hc := pass_ch hP (need_ni hP)
  rw [h] at hc
  have all : ∀ k, k ≤ p.length → chN p (needOf p) k = true → chN p (needOf p) p.length = true := fun k hk hc => by
    have : ∀ j, chN p (needOf p) (k + j) = true := fun j => by
      induction j with
      | zero => exact hc
      | succ j ih => show (chN p (needOf p) (k + j) || _) = true; rw [ih]; rfl
    rw [show p.length = k + (p.length - k) by omega]
    exact this _
  have hk : p.length - 1 - (p.length - 1 - b) = b := by omega
  have h2 := (passN_size hP (need_ni hP) (p.length - 1 - b) (by omega)).1 (by
    cases e : chN p (needOf p) (p.length - 1 - b) with
    | false => rfl
    | true => have := all _ (by omega) e; rw [hc] at this; simp at this)
  have h3 : chN p (needOf p) (p.length - 1 - b + 1) = false := by
    cases e : chN p (needOf p) (p.length - 1 - b + 1) with
    | false => rfl
    | true => have := all _ (by omega) e; rw [hc] at this; simp at this
  simp only [chN, Bool.or_eq_false_iff] at h3
  rw [h2, hk] at h3
  exact (nd_f h3.2).symm
end Sf

namespace Sf
open PySem PySem.Spec PyProof.Rows L2
/-! short words for evaluation: each closes its goal or fails -/
local macro_rules | `(tactic| wtm_at "sd") => `(tactic| first | assumption | exact trivial | omega | ((with_reducible show List.length _ ≤ _); simp only [List.length_cons, List.length_nil]; omega) | decide | rfl | ((with_reducible show sOk _); (show PyData.strOk _ = true); decide +kernel))
local macro_rules | `(tactic| wtm_at "ix") => `(tactic| first | assumption | exact rfl)
local macro_rules | `(tactic| wtm_at "rr") => `(tactic| assumption)
local macro_rules | `(tactic| wtm_at "evp") => `(tactic| first | exact ep_none | (apply ep_some; wtm_at "evv"))
local macro_rules | `(tactic| wtm_at "evav") => `(tactic| first | exact eav_nil | (apply eav_cons; wtm_at "evv"; wtm_at "evav"))
local macro_rules | `(tactic| wtm_at "eva") => `(tactic| first | exact ea_nil | (apply ea_cons; wtm_at "evf"; wtm_at "eva"))
local macro_rules | `(tactic| wtm_at "evaw") => `(tactic| first | exact eaw_nil | (apply eaw_cons; wtm_at "evw"; wtm_at "evaw"))
local macro_rules | `(tactic| wtm_at "evl") => `(tactic| first | exact evl_var rfl | (apply EvO.l; wtm_at "evf") | (apply EvO.ll; wtm_at "evo"))
local macro_rules | `(tactic| wtm_at "evk") => `(tactic| first | exact evk_var rfl | (apply EvO.k; wtm_at "evf"))
local macro_rules | `(tactic| wtm_at "evm") => `(tactic| first | exact evm_var rfl | (apply EvO.m; wtm_at "evf"))
local macro_rules | `(tactic| wtm_at "evw") => `(tactic| first
  | exact EvL.w (evl_var rfl) | exact EvK.w (evk_var rfl) | exact EvM.w (evm_var rfl)
  | (apply EvO.w; wtm_at "evf")
  | (apply EvL.w; wtm_at "evl"))
/-! what a slot may hold: fixed data -/
local macro_rules | `(tactic| wtm_at "evf") => `(tactic| first
  | exact evf_var rfl
  | (apply ev_ixT; wtm_at "evf"; wtm_at "evv"; wtm_at "ix")
  | (apply ev_ix; wtm_at "evl"; wtm_at "evv"; wtm_at "ix")
  | (apply ev_tup; wtm_at "eva"; wtm_at "sd")
  | (apply EvV.fi; wtm_at "evv")
  | (apply EvV.fs; wtm_at "evv")
  | (apply EvV.fb; wtm_at "evv")
  | (apply EvV.fn; wtm_at "evv")
  | (apply ev_call; wtm_at "eva"; wtm_at "rr")
  | (apply ev_callW; wtm_at "evaw"; wtm_at "rr"; wtm_at "sd")
  | (apply EvO.fixL; wtm_at "evo"))
/-! an owned list, a dict -/
local macro_rules | `(tactic| wtm_at "evo") => `(tactic| first
  | (apply ev_lst; wtm_at "eva"; wtm_at "sd")
  | exact ev_newK | exact ev_newT
  | (apply ev_listL; wtm_at "evl")
  | (apply ev_listT; wtm_at "evf")
  | (apply ev_dict; wtm_at "evk")
  | (apply ev_addL; wtm_at "evl"; wtm_at "evl"; wtm_at "sd")
  | (apply ev_slL; wtm_at "evl"; wtm_at "evp"; wtm_at "evp")
  | (apply ev_call; wtm_at "eva"; wtm_at "rr")
  | (apply ev_callW; wtm_at "evaw"; wtm_at "rr"; wtm_at "sd"))
local macro_rules | `(tactic| wtm_at "evv") => `(tactic| first
  | exact evv_c
  | exact evv_int rfl
  | exact evv_str rfl
  | exact evv_bl rfl
  | exact evv_non rfl
  | (apply ev_add; wtm_at "evv"; wtm_at "evv")
  | (apply ev_cat; wtm_at "evv"; wtm_at "evv"; wtm_at "sd")
  | (apply ev_sub; wtm_at "evv"; wtm_at "evv")
  | (apply ev_mul; wtm_at "evv"; wtm_at "evv"; wtm_at "mu")
  | (apply ev_div; wtm_at "evv"; wtm_at "evv"; wtm_at "sd")
  | (apply ev_mod; wtm_at "evv"; wtm_at "evv"; wtm_at "sd")
  | (apply ev_neg; wtm_at "evv")
  | (apply ev_lt; wtm_at "evv"; wtm_at "evv")
  | (apply ev_le; wtm_at "evv"; wtm_at "evv")
  | (apply ev_gt; wtm_at "evv"; wtm_at "evv")
  | (apply ev_ge; wtm_at "evv"; wtm_at "evv")
  | (apply ev_eqi; wtm_at "evv"; wtm_at "evv")
  | (apply ev_eqs; wtm_at "evv"; wtm_at "evv")
  | (apply ev_nei; wtm_at "evv"; wtm_at "evv")
  | (apply ev_nes; wtm_at "evv"; wtm_at "evv")
  | (apply ev_eqb; wtm_at "evv"; wtm_at "evv")
  | (apply ev_neb; wtm_at "evv"; wtm_at "evv")
  | (apply ev_min; wtm_at "evv"; wtm_at "evv")
  | (apply ev_max; wtm_at "evv"; wtm_at "evv")
  | (apply ev_intb; wtm_at "evv")
  | (apply ev_lens; wtm_at "evv"; wtm_at "sd")
  | (apply ev_lenR; wtm_at "evw")
  | (apply ev_lenW; wtm_at "evw")
  | (apply ev_lenT; wtm_at "evw")
  | (apply ev_ixR; wtm_at "evf"; wtm_at "evv"; wtm_at "ix")
  | (apply ev_ixS; wtm_at "evv"; wtm_at "evv"; wtm_at "sd"; wtm_at "ix")
  | (apply ev_slS; wtm_at "evv"; wtm_at "sd"; wtm_at "evp"; wtm_at "evp")
  | (apply ev_nis; wtm_at "evv"; wtm_at "evv")
  | (apply ev_ins; wtm_at "evv"; wtm_at "evv")
  | (apply ev_inK; wtm_at "evv"; wtm_at "evk")
  | (apply ev_niK; wtm_at "evv"; wtm_at "evk")
  | (apply ev_andV; wtm_at "evv"; (intro _; wtm_at "evv"))
  | (apply ev_orV; wtm_at "evv"; (intro _; wtm_at "evv"))
  | (apply ev_notV; wtm_at "evv")
  | (apply ev_isN; wtm_at "evw")
  | (apply ev_ntN; wtm_at "evw")
  | (apply ev_isi_lst true; wtm_at "evw"; decide +kernel)
  | (apply ev_isi_lst false; wtm_at "evw"; decide +kernel)
  | (apply ev_isi_tup true; wtm_at "evw"; decide +kernel)
  | (apply ev_isi_tup false; wtm_at "evw"; decide +kernel)
  | (apply ev_isi_str true; wtm_at "evw"; decide +kernel)
  | (apply ev_isi_str false; wtm_at "evw"; decide +kernel)
  | (apply ev_isi_int true; wtm_at "evw"; decide +kernel)
  | (apply ev_isi_int false; wtm_at "evw"; decide +kernel)
  | (apply ev_isi_bl true; wtm_at "evw"; decide +kernel)
  | (apply ev_isi_bl false; wtm_at "evw"; decide +kernel)
  | (apply ev_isi_non true; wtm_at "evw"; decide +kernel)
  | (apply ev_isi_non false; wtm_at "evw"; decide +kernel)
  | (apply ev_isi_dk true; wtm_at "evw"; decide +kernel)
  | (apply ev_isi_dk false; wtm_at "evw"; decide +kernel)
  | (apply EvO.sc; wtm_at "evf1"; exact rfl))
/-! data that is a scalar: what is not made of scalars -/
local macro_rules | `(tactic| wtm_at "evf1") => `(tactic| first
  | (apply ev_ixT; wtm_at "evf"; wtm_at "evv"; wtm_at "ix")
  | (apply ev_ix; wtm_at "evl"; wtm_at "evv"; wtm_at "ix")
  | (apply ev_ixKT; wtm_at "evf"; wtm_at "evv"; wtm_at "ix")
  | (apply ev_get; wtm_at "evk"; wtm_at "evv"; wtm_at "evf")
  | (apply ev_call; wtm_at "eva"; wtm_at "rr")
  | (apply ev_callW; wtm_at "evaw"; wtm_at "rr"; wtm_at "sd"))
local macro_rules | `(tactic| wtm_at "mu") => `(tactic| first
  | assumption
  | (apply mul_ok_l; omega)
  | (apply mul_ok_r; omega))
local macro_rules | `(tactic| wtm_at "evt") => `(tactic| first
  | exact et_yes
  | (apply et_v; wtm_at "evv")
  | (apply et_b; wtm_at "evv")
  | (apply et_and; wtm_at "evt"; (intro _; wtm_at "evt"))
  | (apply et_or; wtm_at "evt"; (intro _; wtm_at "evt"))
  | (apply et_not; wtm_at "evt"))
/-! a name gets a value, and what follows -/
local macro_rules | `(tactic| wtm_at "ev") => `(tactic| first | wtm_at "evf" | wtm_at "evo")
/-! ### behind_of, needed, _law_needed_by -/
def dS (l : List Str) : List D := l.map D.str
def dN (nd : Needs) : D := .lst (nd.map fun l => D.lst (dS l))
theorem sc_dS (l : List Str) : ScA (dS l) := fun d hd => by obtain ⟨x, _, rfl⟩ := List.mem_map.mp hd; rfl
def R_behind_of : List D → Sl → Prop := fun ds s => ∃ (nd : Needs) (ws : List Int), ds = [dN nd, .lst (ws.map D.int)] ∧ ((∀ w ∈ ws, 0 ≤ w ∧ w < nd.length) ∧ ws.length ≤ 1000 ∧ ∀ b, (ndAt nd b).length ≤ 63) ∧ s = .ow (dS (behindOf nd ws))
def rd_behind_of (K : PySem.W.Frag) : TS :=
  (tSeq (tAsg (tLst tNil) (gName 2))
    (tSeq (tFor (iX K (tVar 1)) (gName 3) (tAsg (tOp (rAddX K) (tVar 2) (tOp (rIxX K) (tVar 0) (tVar 3))) (gName 2)))
    (tRet (tVar 2))))
theorem behind_take (nd : Needs) (ws : List Int) (i : Nat) {w : Int} (h : ws[i]? = some w) : behindOf nd (ws.take (i + 1)) = behindOf nd (ws.take i) ++ ndAt nd w.toNat := by
  unfold behindOf
  rw [List.take_add_one, h, List.map_append, List.flatten_append]
  simp
theorem behind_len {nd : Needs} (h : ∀ b, (ndAt nd b).length ≤ 63) : ∀ ws : List Int, (behindOf nd ws).length ≤ 63 * ws.length
  | [] => Nat.le_refl _
  | w :: r => by
    have ih := behind_len h r
    have := h w.toNat
    unfold behindOf at *
    rw [List.map_cons, List.flatten_cons, List.length_append, List.length_cons, Nat.mul_succ]
    omega
theorem ndAt_some {nd : Needs} {b : Nat} (h : b < nd.length) : nd[b]? = some (ndAt nd b) := by
  unfold ndAt
  rw [List.getElem?_eq_getElem h]
  rfl
theorem dN_at {nd : Needs} {b : Nat} (h : b < nd.length) : atI (nd.map fun l => D.lst (dS l)) (b : Int) = some (.lst (dS (ndAt nd b))) := atI_nat (by rw [List.getElem?_map, ndAt_some h]; rfl)
theorem sv_behind_of {K : PySem.W.Frag} : Keeps K R_behind_of 4 2 (rd_behind_of K) := by
  rintro ds s ⟨nd, ws, rfl, ⟨hw, hl, hs⟩, rfl⟩
  refine ⟨rfl, ?_⟩
  show Sv K (rd_behind_of K) [.im (dN nd), .im (.lst (ws.map D.int)), .un, .un] _
  unfold rd_behind_of
  refine q_asg (s := .ow (dS [])) (ev_lst ea_nil (by decide)) ?_
  refine sv_seq (sv_forL (ds := ws.map D.int) (fun i Γ => ∃ x, Γ = [.im (dN nd), .im (.lst (ws.map D.int)), .ow (dS (behindOf nd (ws.take i))), x]) (evf_var rfl) ⟨_, rfl⟩ (fun i d Γ' hd hG => ?_) (fun Γ' hG => ?_))
  · obtain ⟨x, rfl⟩ := hG
    rw [List.getElem?_map] at hd
    obtain ⟨w, hwi, rfl⟩ := Option.map_eq_some_iff.mp hd
    have hwr := hw w (List.mem_of_getElem? hwi)
    obtain ⟨v, hv⟩ : ∃ v : Nat, w = v := ⟨w.toNat, by omega⟩
    subst hv
    rw [behind_take nd ws i hwi, show ((v : Int)).toNat = v by omega]
    have h1 := behind_len hs (ws.take i)
    have h2 := hs v
    have h3 : (ws.take i).length ≤ 1000 := by rw [List.length_take]; omega
    refine sv_asg (s := .ow (dS (behindOf nd (ws.take i) ++ ndAt nd v))) ((ev_addL (evl_var rfl) (EvO.l (ev_ix (ds := nd.map fun l => D.lst (dS l)) (EvO.l (evf_var rfl)) (evv_int rfl) (dN_at (by omega)))) (by unfold dS; rw [List.length_map, List.length_map]; omega)).to (by unfold dS; rw [List.map_append])) ⟨_, rfl⟩
  · obtain ⟨x, rfl⟩ := hG
    rw [List.length_map, List.take_length]
    exact sv_retL rfl rfl
/-- what a program with few names is -/
structure Pn (pool : List Str) (p : Prog) : Prop where
  pool : Pool pool p
  wf : Wf p
def R_needed : List D → Sl → Prop := fun ds s => ∃ (pool : List Str) (p : Prog), ds = [en p] ∧ Pn pool p ∧ s = .ll ((needOf p).map dS)
def rd_needed (K : PySem.W.Frag) : TS :=
  (tSeq (tAsg (tLc (iX K (tVar 0)) (gName 6) tYes (tLst tNil) [6]) (gName 1))
    (tSeq (tAsg (tC (.bl true)) (gName 2))
    (tSeq (tWhile (tB (tVar 2)) (tSeq (tAsg (tC (.bl false)) (gName 2))
    (tFor (iRng1 (tCons (tCB (rLenX K) (tCons (tVar 0) tNil)) tNil)) (gName 3) (tSeq (tAsg (tOp rSubX (tOp rSubX (tCB (rLenX K) (tCons (tVar 0) tNil)) (tC (.int 1))) (tVar 3)) (gName 4))
    (tSeq (tAsg (tCall (spF K R_ahead) [] E0 (tCons (tOp (rIxX K) (tOp (rIxX K) (tVar 0) (tVar 4)) (tC (.int 0))) (tCons (tCall (spF K R_behind_of) [] E0 (tCons (tVar 1) (tCons (tOp (rIxX K) (tOp (rIxX K) (tVar 0) (tVar 4)) (tC (.int 1))) tNil))) tNil))) (gName 5))
    (tIfS (tTest (tOp (rNeX K) (tVar 5) (tOp (rIxX K) (tVar 1) (tVar 4)))) (tSeq (tAsg (tVar 5) (gSub (tVar 1) (tVar 4) rSetX))
    (tAsg (tC (.bl true)) (gName 2))) tNext))))))
    (tRet (tVar 1)))))
theorem sv_needed {K : PySem.W.Frag} : Keeps K R_needed 7 1 (rd_needed K) := by
  rintro ds s ⟨pool, p, rfl, ⟨hP, hp⟩, rfl⟩
  refine ⟨rfl, ?_⟩
  show Sv K (rd_needed K) [.im (en p), .un, .un, .un, .un, .un, .un] _
  unfold rd_needed
  have hpl := hp.len
  have hlen : ∀ Γ : List Sl, Γ[0]? = some (.im (en p)) → EvV K (tCB (rLenX K) (tCons (tVar 0) tNil)) Γ (.int p.length) := fun Γ h => ev_lenE (EvO.w (evf_var h))
  refine q_asg (s := .ll ((nd0 p).map dS)) ((ev_llL (ds := p.map en) (fun _ => []) (by wtm_at "evl") (by rw [List.length_map]; omega) (fun d hd => ev_lst ea_nil (by decide))).to (by unfold nd0; rw [List.map_map, List.map_map]; rfl)) ?_
  refine q_asg (s := .im (.bl true)) (by wtm_at "ev") ?_
  refine sv_seq (sv_while (fun m Γ => ∃ (n : Nat) (c : Bool) (x3 x4 x5 x6 : Sl), (c = false → pass p (roundN p n) = roundN p n) ∧ m = (if c then 1 + (63 * p.length - sizeN (roundN p n)) else 0) ∧ Γ = [.im (en p), .ll ((roundN p n).map dS), .im (.bl c), x3, x4, x5, x6]) _ ⟨0, true, _, _, _, _, (fun h => Bool.noConfusion h), rfl, rfl⟩ (fun m Γ' hG => ?_))
  obtain ⟨n, c, x3, x4, x5, x6, hc, rfl, rfl⟩ := hG
  refine ⟨c, et_b (evv_bl rfl), fun h => ?_, fun h => ?_⟩
  · subst h
    have hn := round_ni hP n
    have hsz := (round_ni hP (n + 1)).size hP
    have hps := passN_size hP hn p.length (Nat.le_refl _)
    have hch := pass_ch hP hn
    have hrs : roundN p (n + 1) = pass p (roundN p n) := rfl
    generalize hnd : roundN p n = nd at hn hps hch hrs hc
    refine q_asg (s := .im (.bl false)) (by wtm_at "ev") ?_
    refine sv_forR (n := p.length) (fun k Γ => ∃ x3 x4 x5 x6, Γ = [.im (en p), .ll ((passN p nd k).map dS), .im (.bl (chN p nd k)), x3, x4, x5, x6]) (eav_cons (hlen _ rfl) eav_nil) (by omega) ⟨_, _, _, _, rfl⟩ (fun k Γ' hk hG => ?_) (fun Γ' hG => ?_)
    · obtain ⟨x3, x4, x5, x6, rfl⟩ := hG
      have hb : ((p.length : Int) - 1 - k) = ((p.length - 1 - k : Nat) : Int) := by omega
      have hbp : p.length - 1 - k < p.length := by omega
      have hni := passN_ni hP hn k (by omega)
      show Sv K _ _ ⟨fun Γ => ∃ x3 x4 x5 x6, Γ = [.im (en p), .ll (((passN p nd k).set (p.length - 1 - k) (liveF p (passN p nd k) (p.length - 1 - k))).map dS), .im (.bl (chN p nd k || !decide (liveF p (passN p nd k) (p.length - 1 - k) = ndAt (passN p nd k) (p.length - 1 - k)))), x3, x4, x5, x6], _, fun Γ => ∃ x3 x4 x5 x6, Γ = [.im (en p), .ll (((passN p nd k).set (p.length - 1 - k) (liveF p (passN p nd k) (p.length - 1 - k))).map dS), .im (.bl (chN p nd k || !decide (liveF p (passN p nd k) (p.length - 1 - k) = ndAt (passN p nd k) (p.length - 1 - k)))), x3, x4, x5, x6], _⟩
      generalize chN p nd k = c0
      generalize passN p nd k = md at hni
      refine q_asg (s := .im (.int ((p.length - 1 - k : Nat) : Int))) ((show EvO K _ _ (.im (.int ((p.length : Int) - 1 - k))) from EvV.fi (ev_sub (ev_sub (hlen _ rfl) evv_c) (evv_int rfl))).to (by rw [hb])) ?_
      generalize p.length - 1 - k = b at hbp
      have hll : b < md.length := by rw [hni.len]; exact hbp
      have hw63 : ∀ c, (ndAt md c).length ≤ 63 := fun c => Nat.le_trans (hni.up c).le hP.le
      have hwl := hp.waysLe b
      refine q_asg (s := .ow (dS (liveF p md b))) (ev_call (ea_cons (ev_rows (k := b) (evf_var rfl) (evv_int rfl) rfl hbp) (ea_cons (EvO.fixL (ev_callW (eaw_cons ((ev_llw rfl)) (eaw_cons (EvO.w (ev_ways (k := b) (evf_var rfl) (evv_int rfl) rfl hbp)) eaw_nil)) ⟨md, waysIn p b, by unfold dN; rw [List.map_map]; rfl, ⟨fun w hw => by rw [hni.len]; exact hp.way w hw, hwl, hw63⟩, rfl⟩ (sc_dS _))) ea_nil)) ⟨pool, rowsIn p b, behindOf md (waysIn p b), rfl, live_small hP hni.up b, rfl⟩) ?_
      have hkk : (md.map dS)[b]? = some (dS (ndAt md b)) := by rw [List.getElem?_map, ndAt_some hll]; rfl
      have back : md.set b (ndAt md b) = md := set_at (ndAt_some hll)
      refine sv_if (b := !decide (liveF p md b = ndAt md b)) (et_v (ev_ned (a := liveF p md b) (b := ndAt md b) (EvL.w (evl_var rfl)) (EvL.w (ev_llix (k := b) rfl (evv_int rfl) hkk)))) (fun h => ?_) (fun h => ?_)
      · have h := nd_t h
        rw [decide_eq_false h]
        refine sv_seq (sv_movLL (i := 1) (j := 5) (k := b) (by decide) rfl rfl (evv_int rfl) (by rw [List.length_map]; exact hll) ?_)
        refine sv_asg (s := .im (.bl true)) (by wtm_at "ev") ?_
        rw [List.map_set, Bool.not_false, Bool.or_true]
        exact ⟨_, _, _, _, rfl⟩
      · have h := nd_f h
        rw [decide_eq_true h, h, back, Bool.not_true, Bool.or_false]
        exact sv_next ⟨_, _, _, _, rfl⟩
    · obtain ⟨x3, x4, x5, x6, rfl⟩ := hG
      refine ⟨_, ?_, n + 1, chN p nd p.length, x3, x4, x5, x6, fun h => ?_, rfl, by rw [hrs]; rfl⟩
      · cases e : chN p nd p.length with
        | false => simp; omega
        | true =>
          have := hps.2.2 e
          rw [hrs]
          unfold pass
          rw [hrs] at hsz
          unfold pass at hsz
          simp
          omega
      · rw [hch] at h
        have h := nd_f h
        rw [hrs, h, h]
  · have h := hc h
    rw [(need_fix hP).2 n (.inr h)]
    exact sv_retLL rfl rfl
/-! ### _law_needed_by -/
def R__law_needed_by : List D → Sl → Prop := fun ds s => ∃ (pool : List Str) (p : Prog), ds = [en p] ∧ (Pn pool p ∧ p.length ≤ 500) ∧ s = .ow ((needOf p).map fun l => D.lst (dS l))
def rd__law_needed_by (K : PySem.W.Frag) : TS :=
  (tSeq (tAsg (tLc (iX K (tVar 0)) (gName 8) tYes (tLst tNil) [8]) (gName 1))
    (tSeq (tFor (iRng1 (tCons (tOp (rAddX K) (tOp rMulX (tCB (rLenX K) (tCons (tVar 0) tNil)) (tC (.int 70))) (tC (.int 1))) tNil)) (gName 2) (tSeq (tAsg (tCB (rListX K) (tCons (tVar 1) tNil)) (gName 3))
    (tSeq (tFor (iRng1 (tCons (tCB (rLenX K) (tCons (tVar 0) tNil)) tNil)) (gName 4) (tSeq (tAsg (tOp rSubX (tOp rSubX (tCB (rLenX K) (tCons (tVar 0) tNil)) (tC (.int 1))) (tVar 4)) (gName 5))
    (tSeq (tAsg (tLst tNil) (gName 6))
    (tSeq (tFor (iX K (tOp (rIxX K) (tOp (rIxX K) (tVar 0) (tVar 5)) (tC (.int 1)))) (gName 7) (tAsg (tOp (rAddX K) (tVar 6) (tOp (rIxX K) (tVar 1) (tVar 7))) (gName 6)))
    (tAsg (tCall (spF K R__law_ahead_by) [] E0 (tCons (tOp (rIxX K) (tOp (rIxX K) (tVar 0) (tVar 5)) (tC (.int 0))) (tCons (tVar 6) tNil))) (gSub (tVar 1) (tVar 5) rSetX))))))
    (tIfS (tTest (tOp (rEqX K) (tVar 1) (tVar 3))) (tRet (tVar 1)) tNext))))
    (tRet (tVar 1))))
def oN (nd : Needs) : List D := nd.map fun l => D.lst (dS l)
theorem sv__law_needed_by {K : PySem.W.Frag} : Keeps K R__law_needed_by 9 1 (rd__law_needed_by K) := by
  rintro ds s ⟨pool, p, rfl, ⟨⟨hP, hp⟩, h500⟩, rfl⟩
  refine ⟨rfl, ?_⟩
  show Sv K (rd__law_needed_by K) [.im (en p), .un, .un, .un, .un, .un, .un, .un, .un] _
  unfold rd__law_needed_by
  have hpl := hp.len
  have hpos := hp.pos
  have hlen : ∀ Γ : List Sl, Γ[0]? = some (.im (en p)) → EvV K (tCB (rLenX K) (tCons (tVar 0) tNil)) Γ (.int p.length) := fun Γ h => ev_lenE (EvO.w (evf_var h))
  refine q_asg (s := .ow (oN (nd0 p))) ((ev_lcL (ds := p.map en) (fun _ => true) (fun _ => .lst []) (by wtm_at "evl") (by rw [List.length_map]; omega) (fun _ _ => et_yes) (fun d hd _ => EvO.fixL (ev_lst ea_nil (by decide)))).to (by rw [filt_true]; unfold oN nd0; rw [List.map_map, List.map_map]; rfl)) ?_
  have h70 : (p.length : Int) * 70 + 1 = ((p.length * 70 + 1 : Nat) : Int) := by omega
  refine sv_seq (sv_forR (n := p.length * 70 + 1) (fun t Γ => ∃ x2 x3 x4 x5 x6 x7 x8, Γ = [.im (en p), .ow (oN (roundN p t)), x2, x3, x4, x5, x6, x7, x8])
    (eav_cons ((ev_add (ev_mul (hlen _ rfl) evv_c (mul_ok_r (by decide))) evv_c).to (by rw [h70])) eav_nil) (by omega) ⟨_, _, _, _, _, _, _, rfl⟩ (fun t Γ' ht hG => ?_) (fun Γ' hG => ?_))
  · obtain ⟨x2, x3, x4, x5, x6, x7, x8, rfl⟩ := hG
    have hn := round_ni hP t
    have hstop := (need_fix hP).2 t
    have hrs : roundN p (t + 1) = pass p (roundN p t) := rfl
    rw [hrs]
    generalize roundN p t = nd at hn hstop
    refine q_asg (s := .im (.lst (oN nd))) (EvO.fixL (ev_listL (evl_var rfl))) ?_
    refine sv_cut (fun Γ => ∃ x4 x5 x6 x7, Γ = [.im (en p), .ow (oN (pass p nd)), .im (.int (t : Int)), .im (.lst (oN nd)), x4, x5, x6, x7, x8]) ?_ ?_
    · refine sv_forR (n := p.length) (fun k Γ => ∃ x4 x5 x6 x7, Γ = [.im (en p), .ow (oN (passN p nd k)), .im (.int (t : Int)), .im (.lst (oN nd)), x4, x5, x6, x7, x8]) (eav_cons (hlen _ rfl) eav_nil) (by omega) ⟨_, _, _, _, rfl⟩ (fun k Γ' hk hG => ?_) (fun Γ' hG => ?_)
      · obtain ⟨x4, x5, x6, x7, rfl⟩ := hG
        have hb : ((p.length : Int) - 1 - k) = ((p.length - 1 - k : Nat) : Int) := by omega
        have hbp : p.length - 1 - k < p.length := by omega
        have hni := passN_ni hP hn k (by omega)
        show Sv K _ _ ⟨fun Γ => ∃ x4 x5 x6 x7, Γ = [.im (en p), .ow (oN ((passN p nd k).set (p.length - 1 - k) (liveF p (passN p nd k) (p.length - 1 - k)))), .im (.int (t : Int)), .im (.lst (oN nd)), x4, x5, x6, x7, x8], _, fun Γ => ∃ x4 x5 x6 x7, Γ = [.im (en p), .ow (oN ((passN p nd k).set (p.length - 1 - k) (liveF p (passN p nd k) (p.length - 1 - k)))), .im (.int (t : Int)), .im (.lst (oN nd)), x4, x5, x6, x7, x8], _⟩
        generalize passN p nd k = md at hni
        refine q_asg (s := .im (.int ((p.length - 1 - k : Nat) : Int))) ((show EvO K _ _ (.im (.int ((p.length : Int) - 1 - k))) from EvV.fi (ev_sub (ev_sub (hlen _ rfl) evv_c) (evv_int rfl))).to (by rw [hb])) ?_
        generalize p.length - 1 - k = b at hbp
        have hll : b < md.length := by rw [hni.len]; exact hbp
        have hw63 : ∀ c, (ndAt md c).length ≤ 63 := fun c => Nat.le_trans (hni.up c).le hP.le
        have hwl := hp.waysLe b
        refine q_asg (s := .ow (dS [])) (ev_lst ea_nil (by decide)) ?_
        refine sv_seq (sv_forL (ds := (waysIn p b).map D.int) (fun j Γ => ∃ x7, Γ = [.im (en p), .ow (oN md), .im (.int (t : Int)), .im (.lst (oN nd)), .im (.int (k : Int)), .im (.int (b : Int)), .ow (dS (behindOf md ((waysIn p b).take j))), x7, x8])
          (ev_ways (k := b) (evf_var rfl) (evv_int rfl) rfl hbp) ⟨_, rfl⟩ (fun j d Γ' hd hG => ?_) (fun Γ' hG => ?_))
        · obtain ⟨x7, rfl⟩ := hG
          rw [List.getElem?_map] at hd
          obtain ⟨w, hwi, rfl⟩ := Option.map_eq_some_iff.mp hd
          have hwr := hp.way w (List.mem_of_getElem? hwi)
          obtain ⟨v, hv⟩ : ∃ v : Nat, w = v := ⟨w.toNat, by omega⟩
          subst hv
          rw [behind_take md _ j hwi, show ((v : Int)).toNat = v by omega]
          have h1 := behind_len hw63 ((waysIn p b).take j)
          have h2 := hw63 v
          have h3 : ((waysIn p b).take j).length ≤ 1000 := by rw [List.length_take]; omega
          refine sv_asg (s := .ow (dS (behindOf md ((waysIn p b).take j) ++ ndAt md v))) ((ev_addL (evl_var rfl) (EvO.l (ev_ix (ds := md.map fun l => D.lst (dS l)) (evl_var rfl) (evv_int rfl) (dN_at (by rw [hni.len]; omega)))) (by unfold dS; rw [List.length_map, List.length_map]; omega)).to (by unfold dS; rw [List.map_append])) ⟨_, rfl⟩
        · obtain ⟨x7, rfl⟩ := hG
          rw [List.length_map, List.take_length]
          have hrl := hp.rowsLe b
          refine sv_setL (i := 1) (n := (b : Int)) (m := b) rfl (d := .lst (dS (liveF p md b))) (EvO.fixL (ev_callW (eaw_cons (EvO.w (ev_rows (k := b) (evf_var rfl) (evv_int rfl) rfl hbp)) (eaw_cons (EvL.w (evl_var rfl)) eaw_nil)) ⟨pool, rowsIn p b, behindOf md (waysIn p b), rfl, ⟨live_small hP hni.up b, by omega⟩, rfl⟩ (sc_dS _))) (evv_int rfl) (Evl.ixN_nat (by unfold oN; rw [List.length_map]; exact hll)) ?_
          unfold oN
          rw [List.map_set]
          exact ⟨_, _, _, _, rfl⟩
      · exact hG
    rintro Γ' ⟨x4, x5, x6, x7, rfl⟩
    refine sv_if (b := decide (pass p nd = nd)) (et_v (ev_eqd (a := pass p nd) (b := nd) (EvL.w (evl_var rfl)) (EvO.w (evf_var rfl)))) (fun h => ?_) (fun h => sv_next ⟨_, _, _, _, _, _, _, rfl⟩)
    have h := of_decide_eq_true h
    rw [h, hstop (.inr h)]
    exact sv_retL rfl rfl
  · obtain ⟨x2, x3, x4, x5, x6, x7, x8, rfl⟩ := hG
    rw [(need_fix hP).2 _ (.inl (by omega))]
    exact sv_retL rfl rfl
end Sf

namespace Sf
open PySem PySem.Spec PyProof.Rows L2
/-! ### no block of a drawn program has more than forty rows -/
theorem scan_full {p : Prog} {size at0 : Nat} (h0 : at0 < size) : ∀ n, 39 < (rowsIn p (scan p size at0 n)).length → scan p size at0 n = (at0 + n) % size ∧ ∀ i, i ≤ n → 39 < (rowsIn p ((at0 + i) % size)).length
  | 0, h => by
    refine ⟨(Nat.mod_eq_of_lt h0).symm, fun i hi => ?_⟩
    have : i = 0 := by omega
    subst this
    rw [Nat.add_zero, Nat.mod_eq_of_lt h0]
    exact h
  | n + 1, h => by
    have e : scan p size at0 (n + 1) = if 39 < (rowsIn p (scan p size at0 n)).length then (scan p size at0 n + 1) % size else scan p size at0 n := rfl
    by_cases c : 39 < (rowsIn p (scan p size at0 n)).length
    · obtain ⟨i1, i2⟩ := scan_full h0 n c
      rw [if_pos c] at e
      have e2 : scan p size at0 (n + 1) = (at0 + (n + 1)) % size := by
        rw [e, i1, Nat.add_mod, Nat.mod_mod, ← Nat.add_mod, Nat.add_assoc]
      refine ⟨e2, fun i hi => ?_⟩
      by_cases z : i = n + 1
      · subst z
        rw [← e2]
        exact h
      · exact i2 i (by omega)
    · rw [if_neg c] at e
      rw [e] at h
      exact absurd h c
theorem allRows_ge : ∀ {p : Prog} {m : Nat}, (∀ b ∈ p, m ≤ b.1.length) → m * p.length ≤ (allRows p).length
  | [], _, _ => Nat.le_refl _
  | b :: t, m, h => by
    have ih := allRows_ge (p := t) fun x hx => h x (List.mem_cons_of_mem _ hx)
    have := h b List.mem_cons_self
    show m * (t.length + 1) ≤ (b.1 ++ allRows t).length
    rw [List.length_append, Nat.mul_succ]
    omega
theorem scan_room {p : Prog} {size at0 : Nat} (h0 : at0 < size) (hl : p.length = size) (hn : (allRows p).length < 40 * size) : (rowsIn p (scan p size at0 size)).length ≤ 39 := by
  apply Classical.byContradiction
  intro h
  have hf := (scan_full (p := p) h0 size (by omega)).2
  have all : ∀ b ∈ p, 40 ≤ b.1.length := fun b hb => by
    obtain ⟨c, hc⟩ := List.mem_iff_getElem?.mp hb
    have hcl : c < size := by rw [← hl]; exact (List.getElem?_eq_some_iff.mp hc).1
    obtain ⟨i, hi, e⟩ : ∃ i, i ≤ size ∧ (at0 + i) % size = c := by
      by_cases z : at0 ≤ c
      · exact ⟨c - at0, by omega, by rw [show at0 + (c - at0) = c by omega]; exact Nat.mod_eq_of_lt hcl⟩
      · refine ⟨size + c - at0, by omega, ?_⟩
        rw [show at0 + (size + c - at0) = c + size by omega, Nat.add_mod_right]
        exact Nat.mod_eq_of_lt hcl
    have := hf i hi
    rw [e] at this
    unfold rowsIn at this
    rw [hc] at this
    exact this
  have := allRows_ge all
  rw [hl] at this
  omega
theorem progOf_40 (ns : List Int) (names : List Str) {size : Nat} (hs : 0 < size) : ∀ n, n ≤ 40 * size → ∀ k, (rowsIn (progOf ns names size n) k).length ≤ 40
  | 0, _, k => by
    unfold rowsIn
    cases e : (progOf ns names size 0)[k]? with
    | none => exact Nat.zero_le _
    | some b =>
      obtain ⟨j, _, rfl⟩ := List.mem_map.mp (show b ∈ (List.range size).map _ from List.mem_of_getElem? e)
      exact Nat.zero_le _
  | n + 1, hn, k => by
    have ih := progOf_40 ns names hs n (by omega)
    have hd := progOf_drawn ns names hs n
    have ha := scan_lt (p := progOf ns names size n) (at0By_lt ns (k := n) hs) size
    have hr := scan_room (p := progOf ns names size n) (at0By_lt ns (k := n) hs) hd.len (by rw [hd.all]; omega)
    show (rowsIn (progStep ns names size (progOf ns names size n) n) k).length ≤ 40
    unfold progStep
    generalize scan (progOf ns names size n) size (at0By ns size n) size = a at ha hr
    have hl := hd.len
    generalize progOf ns names size n = p at ih hr hl
    by_cases e : k = a
    · subst e
      have : (addRow p k (rowBy (drawn ns (6 + n) * 69621 % 2147483647) names (ownSign ns n)))[k]? = some (rowsIn p k ++ [rowBy (drawn ns (6 + n) * 69621 % 2147483647) names (ownSign ns n)], waysIn p k) := by
        unfold addRow
        rw [List.getElem?_set_self (by omega)]
      show ((((addRow p k _)[k]?).map (·.1)).getD []).length ≤ 40
      rw [this]
      show (rowsIn p k ++ [_]).length ≤ 40
      rw [List.length_append]
      simp
      omega
    · have : (addRow p a (rowBy (drawn ns (6 + n) * 69621 % 2147483647) names (ownSign ns n)))[k]? = p[k]? := List.getElem?_set_ne (fun z => e z.symm)
      show ((((addRow p a _)[k]?).map (·.1)).getD []).length ≤ 40
      rw [this]
      exact ih k
theorem rowMany_16 (ns : List Int) (names : List Str) : rowMany ns names ≤ 16 + sizeBy ns names := by
  have := sizeBy_b ns names
  unfold rowMany
  split <;> omega
theorem programBy_40 (ns : List Int) (names : List Str) (k : Nat) : (rowsIn (programBy ns names) k).length ≤ 40 := by
  have := sizeBy_b ns names
  have := rowMany_16 ns names
  exact progOf_40 ns names (size := (sizeBy ns names).toNat) (by omega) _ (by omega) k
end Sf

namespace Sf
open PySem PySem.Spec PyProof.Rows L2
/-! ### a row more in the first block -/
def insRow (p : Prog) (r : Row) : Prog := p.set 0 (r :: rowsIn p 0, waysIn p 0)
theorem insRow_mem {p : Prog} {r : Row} (hp : 0 < p.length) {b : Block} (h : b ∈ insRow p r) : b ∈ p ∨ b = (r :: rowsIn p 0, waysIn p 0) := List.mem_or_eq_of_mem_set h
theorem rowsIn_of {p : Prog} {k : Nat} {b : Block} (h : p[k]? = some b) : rowsIn p k = b.1 := by unfold rowsIn; rw [h]; rfl
theorem waysIn_of {p : Prog} {k : Nat} {b : Block} (h : p[k]? = some b) : waysIn p k = b.2 := by unfold waysIn; rw [h]; rfl
theorem rowsIn_eq {p q : Prog} {k : Nat} (h : p[k]? = q[k]?) : rowsIn p k = rowsIn q k := by unfold rowsIn; rw [h]
theorem insRow_rows {p : Prog} {r : Row} {n : Nat} (hp : 0 < p.length) (h : ∀ k, (rowsIn p k).length ≤ n) (k : Nat) : (rowsIn (insRow p r) k).length ≤ n + 1 := by
  by_cases e : k = 0
  · subst e
    have : (insRow p r)[0]? = some (r :: rowsIn p 0, waysIn p 0) := by unfold insRow; rw [List.getElem?_set_self hp]
    rw [rowsIn_of this]
    have := h 0
    show (rowsIn p 0).length + 1 ≤ n + 1
    omega
  · have : (insRow p r)[k]? = p[k]? := List.getElem?_set_ne (fun z => e z.symm)
    rw [rowsIn_eq this]
    have := h k
    omega
theorem insRow_wf {p : Prog} {s : Str} (h : Wf p) (hr : ∀ k, (rowsIn p k).length ≤ 99) : Wf (insRow p (.tell s)) := by
  have el : (insRow p (.tell s)).length = p.length := by unfold insRow; rw [List.length_set]
  refine ⟨by rw [el]; exact h.pos, by rw [el]; exact h.len, fun b hb => ?_, fun b hb => ?_, fun b hb w hw => ?_, fun b hb r hr' => ?_⟩
  · rcases insRow_mem h.pos hb with hb | rfl
    · exact h.rows b hb
    · have := hr 0
      show (rowsIn p 0).length + 1 ≤ 1000
      omega
  · rcases insRow_mem h.pos hb with hb | rfl
    · exact h.nways b hb
    · exact h.waysLe 0
  · rw [el]
    rcases insRow_mem h.pos hb with hb | rfl
    · exact h.ways b hb w hw
    · exact h.way w hw
  · rcases insRow_mem h.pos hb with hb | rfl
    · exact h.reads b hb r hr'
    · rcases List.mem_cons.mp hr' with rfl | hr'
      · exact Nat.zero_le _
      · exact h.rowsRd r hr'
end Sf

namespace Sf
open PySem PySem.Spec PyProof.Rows L2
/-! ### going breadth first: plain -/
abbrev Bst := List (Nat × List Int)
def nodes (st : Bst) : List Nat := st.map (·.1)
def visitN (ws : List Int) (r : List Int) (st : Bst) : Nat → Bst
  | 0 => st
  | n + 1 => if (ws.getD n 0).toNat ∈ nodes (visitN ws r st n) then visitN ws r st n else visitN ws r st n ++ [((ws.getD n 0).toNat, r ++ [(n : Int)])]
theorem visitN_succ (ws r : List Int) (st : Bst) (n : Nat) : visitN ws r st (n + 1) = if (ws.getD n 0).toNat ∈ nodes (visitN ws r st n) then visitN ws r st n else visitN ws r st n ++ [((ws.getD n 0).toNat, r ++ [(n : Int)])] := rfl
def visit (p : Prog) (st : Bst) (m : Nat) : Bst := match st[m]? with | none => st | some b => visitN (waysIn p b.1) b.2 st (waysIn p b.1).length
def bfsIt (p : Prog) : Nat → Bst
  | 0 => [(0, [])]
  | m + 1 => visit p (bfsIt p m) m
def bfs (p : Prog) : Bst := bfsIt p p.length
def goto (p : Prog) : Nat → List Int → Option Nat
  | b, [] => some b
  | b, n :: r => if 0 ≤ n ∧ n < (waysIn p b).length then goto p ((waysIn p b).getD n.toNat 0).toNat r else none
theorem goto_app (p : Prog) : ∀ (r : List Int) (b : Nat) (s : List Int), goto p b (r ++ s) = (goto p b r).bind fun c => goto p c s
  | [], b, s => rfl
  | n :: r, b, s => by
    show (if _ then goto p _ (r ++ s) else none) = ((if _ then goto p _ r else none) : Option Nat).bind _
    by_cases h : 0 ≤ n ∧ n < (waysIn p b).length
    · rw [if_pos h, if_pos h]; exact goto_app p r _ s
    · rw [if_neg h, if_neg h]; rfl
structure BI (p : Prog) (m : Nat) (st : Bst) : Prop where
  nd : (nodes st).Nodup
  lt : ∀ x ∈ st, x.1 < p.length
  go : ∀ x ∈ st, goto p 0 x.2 = some x.1
  up : st.Pairwise fun (x y : Nat × List Int) => x.2.length ≤ y.2.length
  idx : ∀ (i : Nat) (x : Nat × List Int), st[i]? = some x → x.2.length ≤ i
  done : ∀ (i : Nat) (x : Nat × List Int), i < m → st[i]? = some x → ∀ w ∈ waysIn p x.1, ∃ y ∈ st, y.1 = w.toNat ∧ y.2.length ≤ x.2.length + 1
  hi : ∀ x : Nat × List Int, st[m]? = some x → ∀ y ∈ st, y.2.length ≤ x.2.length + 1
  hd : st[0]? = some (0, [])
theorem BI.init {p : Prog} (hp : Wf p) : BI p 0 [(0, [])] := by
  refine ⟨by simp [nodes], fun x h => ?_, fun x h => ?_, by simp, fun i x h => ?_, fun i x h => absurd h (Nat.not_lt_zero _), fun x h y hy => ?_, rfl⟩
  · rw [List.mem_singleton.mp h]; exact hp.pos
  · rw [List.mem_singleton.mp h]; rfl
  · cases i with
    | zero => cases h; exact Nat.le_refl _
    | succ i => simp at h
  · rw [List.mem_singleton.mp hy]; exact Nat.zero_le _
theorem nodes_mem {st : Bst} {v : Nat} (h : v ∈ nodes st) : ∃ y ∈ st, y.1 = v := by
  obtain ⟨y, hy, e⟩ := List.mem_map.mp h
  exact ⟨y, hy, e⟩
theorem mem_nodes {st : Bst} {y : Nat × List Int} (h : y ∈ st) : y.1 ∈ nodes st := List.mem_map.mpr ⟨y, h, rfl⟩
/-- while the ways of node m are looked at -/
theorem BI.turn {p : Prog} (hp : Wf p) {m : Nat} {st : Bst} (h : BI p m st) {b : Nat} {r : List Int} (hb : st[m]? = some (b, r)) : ∀ n, n ≤ (waysIn p b).length →
    BI p m (visitN (waysIn p b) r st n) ∧ (visitN (waysIn p b) r st n)[m]? = some (b, r) ∧ ∀ j, j < n → ∃ y ∈ visitN (waysIn p b) r st n, y.1 = ((waysIn p b).getD j 0).toNat ∧ y.2.length ≤ r.length + 1
  | 0, _ => ⟨h, hb, fun j hj => absurd hj (Nat.not_lt_zero _)⟩
  | n + 1, hn => by
    obtain ⟨i1, i2, i3⟩ := BI.turn hp h hb n (by omega)
    rw [visitN_succ]
    have hbm : (b, r) ∈ visitN (waysIn p b) r st n := List.mem_of_getElem? i2
    have hml : m < (visitN (waysIn p b) r st n).length := (List.getElem?_eq_some_iff.mp i2).1
    split
    · rename_i hv
      refine ⟨i1, i2, fun j hj => ?_⟩
      by_cases e : j = n
      · subst e
        obtain ⟨y, hy, e⟩ := nodes_mem hv
        exact ⟨y, hy, e, i1.hi _ i2 y hy⟩
      · exact i3 j (by omega)
    · rename_i hv
      generalize visitN (waysIn p b) r st n = st' at i1 i2 i3 hv hbm hml
      have hw : (waysIn p b).getD n 0 ∈ waysIn p b := by
        rw [List.getD_eq_getElem?_getD, List.getElem?_eq_getElem (by omega)]
        exact List.getElem_mem _
      have hwr := hp.way _ hw
      have i2' : (st' ++ [(((waysIn p b).getD n 0).toNat, r ++ [(n : Int)])])[m]? = some (b, r) := by rw [List.getElem?_append_left hml]; exact i2
      refine ⟨⟨?_, fun x hx => ?_, fun x hx => ?_, ?_, fun i x hx => ?_, fun i x hi hx w hw => ?_, fun x hx y hy => ?_, ?_⟩, i2', fun j hj => ?_⟩
      · unfold nodes at *
        rw [List.map_append, List.nodup_append]
        exact ⟨i1.nd, by simp, fun a ha c hc => by
          rw [show c = ((waysIn p b).getD n 0).toNat by simpa using hc]
          rintro rfl
          exact hv ha⟩
      · rcases List.mem_append.mp hx with hx | hx
        · exact i1.lt x hx
        · rw [List.mem_singleton.mp hx]; show ((waysIn p b).getD n 0).toNat < p.length; omega
      · rcases List.mem_append.mp hx with hx | hx
        · exact i1.go x hx
        · rw [List.mem_singleton.mp hx]
          show goto p 0 (r ++ [(n : Int)]) = some ((waysIn p b).getD n 0).toNat
          rw [goto_app, i1.go _ hbm]
          show (if 0 ≤ (n : Int) ∧ (n : Int) < (waysIn p b).length then goto p ((waysIn p b).getD (n : Int).toNat 0).toNat [] else none) = _
          rw [if_pos (by omega)]
          rfl
      · rw [List.pairwise_append]
        refine ⟨i1.up, by simp, fun x hx y hy => ?_⟩
        rw [List.mem_singleton.mp hy]
        show x.2.length ≤ (r ++ [(n : Int)]).length
        rw [List.length_append]
        exact i1.hi _ i2 x hx
      · by_cases e : i < st'.length
        · rw [List.getElem?_append_left e] at hx
          exact i1.idx i x hx
        · rw [List.getElem?_append_right (by omega)] at hx
          have : i - st'.length = 0 := by
            have := (List.getElem?_eq_some_iff.mp hx).1
            simp at this
            omega
          rw [this] at hx
          have hx : x = (((waysIn p b).getD n 0).toNat, r ++ [(n : Int)]) := by simpa using hx.symm
          rw [hx]
          show (r ++ [(n : Int)]).length ≤ i
          rw [List.length_append]
          have := i1.idx m _ i2
          simp at this ⊢
          omega
      · by_cases e : i < st'.length
        · rw [List.getElem?_append_left e] at hx
          obtain ⟨y, hy, e1, e2⟩ := i1.done i x hi hx w hw
          exact ⟨y, List.mem_append_left _ hy, e1, e2⟩
        · omega
      · rw [i2'] at hx
        cases hx
        rcases List.mem_append.mp hy with hy | hy
        · exact i1.hi _ i2 y hy
        · rw [List.mem_singleton.mp hy]
          show (r ++ [(n : Int)]).length ≤ r.length + 1
          rw [List.length_append]
          exact Nat.le_refl _
      · rw [List.getElem?_append_left (by omega)]
        exact i1.hd
      · by_cases e : j = n
        · subst e
          exact ⟨_, List.mem_append_right _ List.mem_cons_self, rfl, by show (r ++ [(j : Int)]).length ≤ _; rw [List.length_append]; exact Nat.le_refl _⟩
        · obtain ⟨y, hy, e1, e2⟩ := i3 j (by omega)
          exact ⟨y, List.mem_append_left _ hy, e1, e2⟩
theorem BI.step {p : Prog} (hp : Wf p) {m : Nat} {st : Bst} (h : BI p m st) : BI p (m + 1) (visit p st m) := by
  unfold visit
  cases e : st[m]? with
  | none =>
    show BI p (m + 1) st
    refine ⟨h.nd, h.lt, h.go, h.up, h.idx, fun i x hi hx => ?_, fun x hx => ?_, h.hd⟩
    · refine h.done i x ?_ hx
      have : i ≠ m := fun z => by rw [z, e] at hx; cases hx
      omega
    · have := (List.getElem?_eq_some_iff.mp hx).1
      rw [List.getElem?_eq_none_iff] at e
      omega
  | some b =>
    obtain ⟨b, r⟩ := b
    obtain ⟨i1, i2, i3⟩ := h.turn hp e _ (Nat.le_refl _)
    show BI p (m + 1) (visitN (waysIn p b) r st (waysIn p b).length)
    generalize visitN (waysIn p b) r st (waysIn p b).length = st' at i1 i2 i3
    refine ⟨i1.nd, i1.lt, i1.go, i1.up, i1.idx, fun i x hi hx w hw => ?_, fun x hx y hy => ?_, i1.hd⟩
    · by_cases z : i = m
      · subst z
        rw [i2] at hx
        cases hx
        obtain ⟨j, hj, rfl⟩ := List.getElem_of_mem hw
        obtain ⟨y, hy, e1, e2⟩ := i3 j hj
        refine ⟨y, hy, ?_, e2⟩
        rw [e1, List.getD_eq_getElem?_getD, List.getElem?_eq_getElem hj]
        rfl
      · exact i1.done i x (by omega) hx w hw
    · have := i1.hi _ i2 y hy
      obtain ⟨l1, q1⟩ := List.getElem?_eq_some_iff.mp i2
      obtain ⟨l2, q2⟩ := List.getElem?_eq_some_iff.mp hx
      have := List.pairwise_iff_getElem.mp i1.up m (m + 1) l1 l2 (by omega)
      rw [q1, q2] at this
      dsimp only at *
      omega
theorem bfsIt_bi {p : Prog} (hp : Wf p) : ∀ m, BI p m (bfsIt p m)
  | 0 => .init hp
  | m + 1 => (bfsIt_bi hp m).step hp
theorem BI.le {p : Prog} {m : Nat} {st : Bst} (h : BI p m st) : st.length ≤ p.length := by
  have := nd_le (l := nodes st) (m := List.range p.length) h.nd fun x hx => by
    obtain ⟨y, hy, rfl⟩ := nodes_mem hx
    exact List.mem_range.mpr (h.lt y hy)
  unfold nodes at this
  rw [List.length_map, List.length_range] at this
  exact this
theorem bfsIt_stop {p : Prog} {m : Nat} (h : (bfsIt p m).length ≤ m) : ∀ k, bfsIt p (m + k) = bfsIt p m
  | 0 => rfl
  | k + 1 => by
    have ih := bfsIt_stop h k
    show visit p (bfsIt p (m + k)) (m + k) = _
    rw [ih]
    unfold visit
    rw [List.getElem?_eq_none_iff.mpr (by omega)]
theorem bfs_bi {p : Prog} (hp : Wf p) : BI p p.length (bfs p) := bfsIt_bi hp _
theorem bfs_done {p : Prog} (hp : Wf p) {x : Nat × List Int} (hx : x ∈ bfs p) {w : Int} (hw : w ∈ waysIn p x.1) : ∃ y ∈ bfs p, y.1 = w.toNat ∧ y.2.length ≤ x.2.length + 1 := by
  have h := bfs_bi hp
  obtain ⟨i, hi⟩ := List.mem_iff_getElem?.mp hx
  have := (List.getElem?_eq_some_iff.mp hi).1
  have := h.le
  exact h.done i x (by omega) hi w hw
/-- no road is shorter -/
theorem bfs_least {p : Prog} (hp : Wf p) : ∀ (r : List Int) (b : Nat), goto p 0 r = some b → ∃ y ∈ bfs p, y.1 = b ∧ y.2.length ≤ r.length := by
  intro r
  induction r using snoc_ind with
  | nil =>
    intro b h
    cases h
    exact ⟨(0, []), List.mem_of_getElem? (bfs_bi hp).hd, rfl, Nat.le_refl _⟩
  | snoc a n ih =>
    intro b h
    rw [goto_app] at h
    cases e : goto p 0 a with
    | none => rw [e] at h; cases h
    | some c =>
      rw [e] at h
      obtain ⟨y, hy, rfl, hl⟩ := ih c e
      have h : (if 0 ≤ n ∧ n < (waysIn p y.1).length then some ((waysIn p y.1).getD n.toNat 0).toNat else none) = some b := h
      split at h
      · rename_i hn
        cases h
        have hm : (waysIn p y.1).getD n.toNat 0 ∈ waysIn p y.1 := by
          rw [List.getD_eq_getElem?_getD, List.getElem?_eq_getElem (by omega)]
          exact List.getElem_mem _
        obtain ⟨z, hz, e1, e2⟩ := bfs_done hp hy hm
        refine ⟨z, hz, e1, ?_⟩
        rw [List.length_append]
        simp
        omega
      · cases h
/-- the road to a block -/
def roadB (p : Prog) (b : Nat) : Option (List Int) := ((bfs p).find? fun x => decide (x.1 = b)).map (·.2)
def distB (p : Prog) (b : Nat) : Option Nat := (roadB p b).map (·.length)
theorem roadB_mem {p : Prog} {b : Nat} {r : List Int} (h : roadB p b = some r) : (b, r) ∈ bfs p := by
  unfold roadB at h
  obtain ⟨x, hx, rfl⟩ := Option.map_eq_some_iff.mp h
  have h1 := List.mem_of_find?_eq_some hx
  have h2 : x.1 = b := by simpa using List.find?_some hx
  rw [← h2]
  exact h1
theorem nd_uniq {st : Bst} (h : (nodes st).Nodup) {x y : Nat × List Int} (hx : x ∈ st) (hy : y ∈ st) (e : x.1 = y.1) : x = y := by
  obtain ⟨i, hi⟩ := List.mem_iff_getElem?.mp hx
  obtain ⟨j, hj⟩ := List.mem_iff_getElem?.mp hy
  have e1 : (nodes st)[i]? = some x.1 := by unfold nodes; rw [List.getElem?_map, hi]; rfl
  have e2 : (nodes st)[j]? = some x.1 := by unfold nodes; rw [List.getElem?_map, hj, e]; rfl
  obtain ⟨l1, q1⟩ := List.getElem?_eq_some_iff.mp e1
  obtain ⟨l2, q2⟩ := List.getElem?_eq_some_iff.mp e2
  have : i = j := by
    by_cases z : i < j
    · exact absurd (q1.trans q2.symm) (List.pairwise_iff_getElem.mp h i j l1 l2 z)
    · by_cases z' : j < i
      · exact absurd (q2.trans q1.symm) (List.pairwise_iff_getElem.mp h j i l2 l1 z')
      · omega
  subst this
  rw [hi] at hj
  cases hj
  rfl
theorem roadB_of {p : Prog} (hp : Wf p) {x : Nat × List Int} (hx : x ∈ bfs p) : roadB p x.1 = some x.2 := by
  unfold roadB
  cases e : (bfs p).find? fun y => decide (y.1 = x.1) with
  | none =>
    have := List.find?_eq_none.mp e x hx
    simp at this
  | some y =>
    have h1 := List.mem_of_find?_eq_some e
    have h2 : y.1 = x.1 := by simpa using List.find?_some e
    rw [nd_uniq (bfs_bi hp).nd h1 hx h2]
    rfl
theorem dist_zero {p : Prog} (hp : Wf p) : distB p 0 = some 0 := by
  unfold distB
  rw [roadB_of hp (x := (0, [])) (List.mem_of_getElem? (bfs_bi hp).hd)]
  rfl
theorem dist_edge {p : Prog} (hp : Wf p) {c t : Nat} (h : distB p c = some t) {w : Int} (hw : w ∈ waysIn p c) : ∃ d, distB p w.toNat = some d ∧ d ≤ t + 1 := by
  unfold distB at h
  obtain ⟨r, hr, rfl⟩ := Option.map_eq_some_iff.mp h
  obtain ⟨y, hy, e1, e2⟩ := bfs_done hp (roadB_mem hr) hw
  refine ⟨y.2.length, ?_, e2⟩
  unfold distB
  rw [← e1, roadB_of hp hy]
  rfl
theorem dist_lt {p : Prog} (hp : Wf p) {v d : Nat} (h : distB p v = some d) : d < p.length := by
  unfold distB at h
  obtain ⟨r, hr, rfl⟩ := Option.map_eq_some_iff.mp h
  obtain ⟨i, hi⟩ := List.mem_iff_getElem?.mp (roadB_mem hr)
  have h1 := (bfs_bi hp).idx i _ hi
  have h2 := (List.getElem?_eq_some_iff.mp hi).1
  have h3 := (bfs_bi hp).le
  dsimp only at h1
  omega
theorem dist_back {p : Prog} (hp : Wf p) {v t : Nat} (h : distB p v = some (t + 1)) : ∃ c, distB p c = some t ∧ ∃ w ∈ waysIn p c, w.toNat = v := by
  have h0 := h
  unfold distB at h
  obtain ⟨r, hr, hl⟩ := Option.map_eq_some_iff.mp h
  have hg := (bfs_bi hp).go _ (roadB_mem hr)
  rcases List.eq_nil_or_concat r with rfl | ⟨a, n, rfl⟩
  · cases hl
  · rw [List.concat_eq_append] at hg hl
    dsimp only at hg
    rw [goto_app] at hg
    cases e : goto p 0 a with
    | none => rw [e] at hg; cases hg
    | some c =>
      rw [e] at hg
      have hg : (if 0 ≤ n ∧ n < (waysIn p c).length then some ((waysIn p c).getD n.toNat 0).toNat else none) = some v := hg
      split at hg
      · rename_i hn
        have hg := Option.some.inj hg
        have hm : (waysIn p c).getD n.toNat 0 ∈ waysIn p c := by
          rw [List.getD_eq_getElem?_getD, List.getElem?_eq_getElem (by omega)]
          exact List.getElem_mem _
        obtain ⟨y, hy, rfl, hle⟩ := bfs_least hp a c e
        have hd : distB p y.1 = some y.2.length := by unfold distB; rw [roadB_of hp hy]; rfl
        obtain ⟨d, h1, h2⟩ := dist_edge hp hd hm
        rw [hg, h0] at h1
        cases h1
        rw [List.length_append] at hl
        simp at hl
        refine ⟨y.1, ?_, _, hm, hg⟩
        rw [hd]
        congr 1
        omega
      · cases hg
theorem roadB_lt {p : Prog} (hp : Wf p) {v : Nat} {r : List Int} (h : roadB p v = some r) : v < p.length := (bfs_bi hp).lt _ (roadB_mem h)
end Sf

namespace Sf
open PySem PySem.Spec PyProof.Rows L2
/-! short words for evaluation: each closes its goal or fails -/
local macro_rules | `(tactic| wtm_at "sd") => `(tactic| first | assumption | exact trivial | omega | ((with_reducible show List.length _ ≤ _); simp only [List.length_cons, List.length_nil]; omega) | decide | rfl | ((with_reducible show sOk _); (show PyData.strOk _ = true); decide +kernel))
local macro_rules | `(tactic| wtm_at "ix") => `(tactic| first | assumption | exact rfl)
local macro_rules | `(tactic| wtm_at "rr") => `(tactic| assumption)
local macro_rules | `(tactic| wtm_at "evp") => `(tactic| first | exact ep_none | (apply ep_some; wtm_at "evv"))
local macro_rules | `(tactic| wtm_at "evav") => `(tactic| first | exact eav_nil | (apply eav_cons; wtm_at "evv"; wtm_at "evav"))
local macro_rules | `(tactic| wtm_at "eva") => `(tactic| first | exact ea_nil | (apply ea_cons; wtm_at "evf"; wtm_at "eva"))
local macro_rules | `(tactic| wtm_at "evaw") => `(tactic| first | exact eaw_nil | (apply eaw_cons; wtm_at "evw"; wtm_at "evaw"))
local macro_rules | `(tactic| wtm_at "evl") => `(tactic| first | exact evl_var rfl | (apply EvO.l; wtm_at "evf") | (apply EvO.ll; wtm_at "evo"))
local macro_rules | `(tactic| wtm_at "evk") => `(tactic| first | exact evk_var rfl | (apply EvO.k; wtm_at "evf"))
local macro_rules | `(tactic| wtm_at "evm") => `(tactic| first | exact evm_var rfl | (apply EvO.m; wtm_at "evf"))
local macro_rules | `(tactic| wtm_at "evw") => `(tactic| first
  | exact EvL.w (evl_var rfl) | exact EvK.w (evk_var rfl) | exact EvM.w (evm_var rfl)
  | (apply EvO.w; wtm_at "evf")
  | (apply EvL.w; wtm_at "evl"))
/-! what a slot may hold: fixed data -/
local macro_rules | `(tactic| wtm_at "evf") => `(tactic| first
  | exact evf_var rfl
  | (apply ev_ixT; wtm_at "evf"; wtm_at "evv"; wtm_at "ix")
  | (apply ev_ix; wtm_at "evl"; wtm_at "evv"; wtm_at "ix")
  | (apply ev_tup; wtm_at "eva"; wtm_at "sd")
  | (apply EvV.fi; wtm_at "evv")
  | (apply EvV.fs; wtm_at "evv")
  | (apply EvV.fb; wtm_at "evv")
  | (apply EvV.fn; wtm_at "evv")
  | (apply ev_call; wtm_at "eva"; wtm_at "rr")
  | (apply ev_callW; wtm_at "evaw"; wtm_at "rr"; wtm_at "sd")
  | (apply EvO.fixL; wtm_at "evo"))
/-! an owned list, a dict -/
local macro_rules | `(tactic| wtm_at "evo") => `(tactic| first
  | (apply ev_lst; wtm_at "eva"; wtm_at "sd")
  | exact ev_newK | exact ev_newT
  | (apply ev_listL; wtm_at "evl")
  | (apply ev_listT; wtm_at "evf")
  | (apply ev_dict; wtm_at "evk")
  | (apply ev_addL; wtm_at "evl"; wtm_at "evl"; wtm_at "sd")
  | (apply ev_slL; wtm_at "evl"; wtm_at "evp"; wtm_at "evp")
  | (apply ev_call; wtm_at "eva"; wtm_at "rr")
  | (apply ev_callW; wtm_at "evaw"; wtm_at "rr"; wtm_at "sd"))
local macro_rules | `(tactic| wtm_at "evv") => `(tactic| first
  | exact evv_c
  | exact evv_int rfl
  | exact evv_str rfl
  | exact evv_bl rfl
  | exact evv_non rfl
  | (apply ev_add; wtm_at "evv"; wtm_at "evv")
  | (apply ev_cat; wtm_at "evv"; wtm_at "evv"; wtm_at "sd")
  | (apply ev_sub; wtm_at "evv"; wtm_at "evv")
  | (apply ev_mul; wtm_at "evv"; wtm_at "evv"; wtm_at "mu")
  | (apply ev_div; wtm_at "evv"; wtm_at "evv"; wtm_at "sd")
  | (apply ev_mod; wtm_at "evv"; wtm_at "evv"; wtm_at "sd")
  | (apply ev_neg; wtm_at "evv")
  | (apply ev_lt; wtm_at "evv"; wtm_at "evv")
  | (apply ev_le; wtm_at "evv"; wtm_at "evv")
  | (apply ev_gt; wtm_at "evv"; wtm_at "evv")
  | (apply ev_ge; wtm_at "evv"; wtm_at "evv")
  | (apply ev_eqi; wtm_at "evv"; wtm_at "evv")
  | (apply ev_eqs; wtm_at "evv"; wtm_at "evv")
  | (apply ev_nei; wtm_at "evv"; wtm_at "evv")
  | (apply ev_nes; wtm_at "evv"; wtm_at "evv")
  | (apply ev_eqb; wtm_at "evv"; wtm_at "evv")
  | (apply ev_neb; wtm_at "evv"; wtm_at "evv")
  | (apply ev_min; wtm_at "evv"; wtm_at "evv")
  | (apply ev_max; wtm_at "evv"; wtm_at "evv")
  | (apply ev_intb; wtm_at "evv")
  | (apply ev_lens; wtm_at "evv"; wtm_at "sd")
  | (apply ev_lenR; wtm_at "evw")
  | (apply ev_lenW; wtm_at "evw")
  | (apply ev_lenT; wtm_at "evw")
  | (apply ev_ixR; wtm_at "evf"; wtm_at "evv"; wtm_at "ix")
  | (apply ev_ixS; wtm_at "evv"; wtm_at "evv"; wtm_at "sd"; wtm_at "ix")
  | (apply ev_slS; wtm_at "evv"; wtm_at "sd"; wtm_at "evp"; wtm_at "evp")
  | (apply ev_nis; wtm_at "evv"; wtm_at "evv")
  | (apply ev_ins; wtm_at "evv"; wtm_at "evv")
  | (apply ev_inK; wtm_at "evv"; wtm_at "evk")
  | (apply ev_niK; wtm_at "evv"; wtm_at "evk")
  | (apply ev_andV; wtm_at "evv"; (intro _; wtm_at "evv"))
  | (apply ev_orV; wtm_at "evv"; (intro _; wtm_at "evv"))
  | (apply ev_notV; wtm_at "evv")
  | (apply ev_isN; wtm_at "evw")
  | (apply ev_ntN; wtm_at "evw")
  | (apply ev_isi_lst true; wtm_at "evw"; decide +kernel)
  | (apply ev_isi_lst false; wtm_at "evw"; decide +kernel)
  | (apply ev_isi_tup true; wtm_at "evw"; decide +kernel)
  | (apply ev_isi_tup false; wtm_at "evw"; decide +kernel)
  | (apply ev_isi_str true; wtm_at "evw"; decide +kernel)
  | (apply ev_isi_str false; wtm_at "evw"; decide +kernel)
  | (apply ev_isi_int true; wtm_at "evw"; decide +kernel)
  | (apply ev_isi_int false; wtm_at "evw"; decide +kernel)
  | (apply ev_isi_bl true; wtm_at "evw"; decide +kernel)
  | (apply ev_isi_bl false; wtm_at "evw"; decide +kernel)
  | (apply ev_isi_non true; wtm_at "evw"; decide +kernel)
  | (apply ev_isi_non false; wtm_at "evw"; decide +kernel)
  | (apply ev_isi_dk true; wtm_at "evw"; decide +kernel)
  | (apply ev_isi_dk false; wtm_at "evw"; decide +kernel)
  | (apply EvO.sc; wtm_at "evf1"; exact rfl))
/-! data that is a scalar: what is not made of scalars -/
local macro_rules | `(tactic| wtm_at "evf1") => `(tactic| first
  | (apply ev_ixT; wtm_at "evf"; wtm_at "evv"; wtm_at "ix")
  | (apply ev_ix; wtm_at "evl"; wtm_at "evv"; wtm_at "ix")
  | (apply ev_ixKT; wtm_at "evf"; wtm_at "evv"; wtm_at "ix")
  | (apply ev_get; wtm_at "evk"; wtm_at "evv"; wtm_at "evf")
  | (apply ev_call; wtm_at "eva"; wtm_at "rr")
  | (apply ev_callW; wtm_at "evaw"; wtm_at "rr"; wtm_at "sd"))
local macro_rules | `(tactic| wtm_at "mu") => `(tactic| first
  | assumption
  | (apply mul_ok_l; omega)
  | (apply mul_ok_r; omega))
local macro_rules | `(tactic| wtm_at "evt") => `(tactic| first
  | exact et_yes
  | (apply et_v; wtm_at "evv")
  | (apply et_b; wtm_at "evv")
  | (apply et_and; wtm_at "evt"; (intro _; wtm_at "evt"))
  | (apply et_or; wtm_at "evt"; (intro _; wtm_at "evt"))
  | (apply et_not; wtm_at "evt"))
/-! a name gets a value, and what follows -/
local macro_rules | `(tactic| wtm_at "ev") => `(tactic| first | wtm_at "evf" | wtm_at "evo")
/-! ### reached, road_to -/
def kN (n : Nat) : Key := .inl (n : Int)
theorem kN_inj {m n : Nat} : kN m = kN n ↔ m = n := by
  unfold kN
  constructor
  · intro h
    have := Sum.inl.inj h
    omega
  · rintro rfl; rfl
def enI (l : List Nat) : List (Key × D) := l.map fun n => (kN n, D.bl true)
theorem any_enI (l : List Nat) (v : Nat) : ((enI l).any fun kv => decide (kv.1 = kN v)) = decide (v ∈ l) := by
  induction l with
  | nil => rfl
  | cons x r ih =>
    show (decide (kN x = kN v) || (enI r).any _) = _
    rw [ih]
    by_cases h : x = v
    · subst h; simp
    · have h1 : ¬ v = x := fun z => h z.symm
      have h2 : ¬ kN x = kN v := fun z => h (kN_inj.mp z)
      simp [h1, h2]
theorem inI (l : List Nat) (v : Nat) : (vD (enI l) (kN v)).isSome = decide (v ∈ l) := by rw [← any_enI, vD_any]
theorem putI {l : List Nat} {v : Nat} (h : ¬ v ∈ l) : putD (enI l) (kN v) (.bl true) = enI (l ++ [v]) := by
  unfold putD
  rw [any_enI, if_neg (by simpa using h)]
  unfold enI
  rw [List.map_append]
  rfl
theorem len_enI (l : List Nat) : (enI l).length = l.length := by unfold enI; rw [List.length_map]
theorem bfs_at {p : Prog} {k : Nat} (h : k < (bfsIt p k).length) : ∃ b r, (bfsIt p k)[k]? = some (b, r) := ⟨_, _, List.getElem?_eq_getElem h⟩
theorem nodes_at {st : Bst} {k b : Nat} {r : List Int} (h : st[k]? = some (b, r)) : atI (intsN (nodes st)) (k : Int) = some (.int (b : Int)) := by
  unfold intsN nodes
  rw [List.map_map]
  exact atI_nat (by rw [List.getElem?_map, h]; rfl)
theorem len_nodes (st : Bst) : (intsN (nodes st)).length = st.length := by unfold intsN nodes; rw [List.length_map, List.length_map]
theorem bfsIt_le {p : Prog} (hp : Wf p) (k : Nat) : (bfsIt p k).length ≤ p.length := (bfsIt_bi hp k).le
theorem bfs_end {p : Prog} (hp : Wf p) {k : Nat} (h1 : k ≤ (bfsIt p k).length) (h2 : ¬ k < (bfsIt p k).length) : bfs p = bfsIt p k := by
  have := bfsIt_le hp k
  unfold bfs
  rw [show p.length = k + (p.length - k) by omega]
  exact bfsIt_stop (by omega) _
theorem visitN_le {p : Prog} (hp : Wf p) {k b : Nat} {r : List Int} (h : (bfsIt p k)[k]? = some (b, r)) {n : Nat} (hn : n ≤ (waysIn p b).length) : (visitN (waysIn p b) r (bfsIt p k) n).length ≤ p.length := (((bfsIt_bi hp k).turn hp h n hn).1).le
theorem visitN_grow (ws r : List Int) (st : Bst) : ∀ n, st.length ≤ (visitN ws r st n).length
  | 0 => Nat.le_refl _
  | n + 1 => by
    rw [visitN_succ]
    have := visitN_grow ws r st n
    split
    · exact this
    · rw [List.length_append]; omega
theorem bfsIt_succ {p : Prog} {k b : Nat} {r : List Int} (h : (bfsIt p k)[k]? = some (b, r)) : bfsIt p (k + 1) = visitN (waysIn p b) r (bfsIt p k) (waysIn p b).length := by
  show visit p (bfsIt p k) k = _
  unfold visit
  rw [h]
def R_reached : List D → Sl → Prop := fun ds s => ∃ p : Prog, ds = [en p] ∧ (Wf p ∧ p.length ≤ 63) ∧ s = .ow ((sortI ((nodes (bfs p)).map fun n : Nat => (n : Int))).map D.int)
def rd_reached (K : PySem.W.Frag) : TS :=
  (tSeq (tAsg (tDisp (((tC (.int 0)), (tC (.bl true))) :: [])) (gName 1))
    (tSeq (tAsg (tLst (tCons (tC (.int 0)) tNil)) (gName 2))
    (tSeq (tAsg (tC (.int 0)) (gName 3))
    (tSeq (tWhile (tTest (tOp rLtX (tVar 3) (tCB (rLenX K) (tCons (tVar 2) tNil)))) (tSeq (tFor (iX K (tOp (rIxX K) (tOp (rIxX K) (tVar 0) (tOp (rIxX K) (tVar 2) (tVar 3))) (tC (.int 1)))) (gName 4) (tIfS (tTest (tOp (rNiX K) (tVar 4) (tVar 1))) (tSeq (tAsg (tC (.bl true)) (gSub (tVar 1) (tVar 4) rSetX))
    (tDrop (tBM K "list" rAppend (tVar 2) (tCons (tVar 4) tNil)))) tNext))
    (tAsg (tOp (rAddX K) (tVar 3) (tC (.int 1))) (gName 3))))
    (tRet (tCB (rSortX K) (tCons (tVar 2) tNil)))))))
theorem sv_reached {K : PySem.W.Frag} : Keeps K R_reached 5 1 (rd_reached K) := by
  rintro ds s ⟨p, rfl, ⟨hp, h63⟩, rfl⟩
  refine ⟨rfl, ?_⟩
  show Sv K (rd_reached K) [.im (en p), .un, .un, .un, .un] _
  unfold rd_reached
  refine q_asg (s := .ok (enI [0])) (ev_disp (k := kN 0) (d := .bl true) evv_c (EvV.fb evv_c)) ?_
  refine q_asg (s := .ow (intsN [0])) (by wtm_at "ev") ?_
  refine q_asg (s := .im (.int ((0 : Nat) : Int))) (EvV.fi evv_c) ?_
  refine sv_seq (sv_while (fun m Γ => ∃ (k : Nat) (x : Sl), k ≤ (bfsIt p k).length ∧ m = p.length - k ∧ Γ = [.im (en p), .ok (enI (nodes (bfsIt p k))), .ow (intsN (nodes (bfsIt p k))), .im (.int (k : Int)), x]) (p.length - 0) ⟨0, _, Nat.zero_le _, rfl, rfl⟩ (fun m Γ' hG => ?_))
  obtain ⟨k, x, hk, rfl, rfl⟩ := hG
  have hle := bfsIt_le hp k
  refine ⟨decide ((k : Int) < (intsN (nodes (bfsIt p k))).length), et_v (ev_lt (evv_int rfl) (ev_lenW (EvL.w (evl_var rfl)))), fun h => ?_, fun h => ?_⟩
  · have hlt : k < (bfsIt p k).length := by
      have := of_decide_eq_true h
      rw [len_nodes] at this
      omega
    obtain ⟨b, r, hb⟩ := bfs_at hlt
    have hbp := (bfsIt_bi hp k).lt _ (List.mem_of_getElem? hb)
    refine sv_seq (sv_forL (ds := (waysIn p b).map D.int) (fun n Γ => ∃ x, Γ = [.im (en p), .ok (enI (nodes (visitN (waysIn p b) r (bfsIt p k) n))), .ow (intsN (nodes (visitN (waysIn p b) r (bfsIt p k) n))), .im (.int (k : Int)), x])
      (ev_ways (k := b) (evf_var rfl) (EvO.sc (ev_ix (evl_var rfl) (evv_int rfl) (nodes_at hb)) rfl) rfl hbp) ⟨_, rfl⟩ (fun n d Γ' hd hG => ?_) (fun Γ' hG => ?_))
    · obtain ⟨x, rfl⟩ := hG
      rw [List.getElem?_map] at hd
      obtain ⟨w, hw, rfl⟩ := Option.map_eq_some_iff.mp hd
      have hn := (List.getElem?_eq_some_iff.mp hw).1
      have hvl := visitN_le hp hb (n := n) (by omega)
      have hwr := hp.way w (List.mem_of_getElem? hw)
      have hp1 := hp.len
      rw [visitN_succ]
      have hg : (waysIn p b).getD n 0 = w := by rw [List.getD_eq_getElem?_getD, hw]; rfl
      rw [hg]
      obtain ⟨v, hv⟩ : ∃ v : Nat, w = v := ⟨w.toNat, by omega⟩
      subst hv
      rw [show ((v : Int)).toNat = v by omega]
      generalize visitN (waysIn p b) r (bfsIt p k) n = st at hvl
      refine sv_if (b := !decide (v ∈ nodes st)) (et_v ((ev_niK (k := kN v) (evv_int rfl) (evk_var rfl)).to (by rw [inI]))) (fun h => ?_) (fun h => ?_)
      · have h := nd_t h
        rw [if_neg h]
        refine sv_seq (sv_putK (i := 1) (kk := kN v) rfl (d := .bl true) (EvV.fb evv_c) (evv_int rfl) (by rw [len_enI]; unfold nodes; rw [List.length_map]; omega) ?_)
        rw [putI h]
        refine sv_app (i := 2) rfl (d := .int (v : Int)) (evf_var rfl) (by rw [len_nodes]; omega) ⟨.im (.int (v : Int)), ?_⟩
        unfold nodes intsN
        rw [List.map_append, List.map_append]
        rfl
      · rw [if_pos (nd_f h)]
        exact sv_next ⟨_, rfl⟩
    · obtain ⟨x, rfl⟩ := hG
      rw [List.length_map, ← bfsIt_succ hb]
      refine sv_asg (s := .im (.int ((k + 1 : Nat) : Int))) ((show EvO K _ _ (.im (.int ((k : Int) + 1))) by wtm_at "ev").to (by push_cast; rfl)) ⟨p.length - (k + 1), by omega, k + 1, x, ?_, rfl, rfl⟩
      rw [bfsIt_succ hb]
      exact Nat.le_trans hlt (visitN_grow _ _ _ _)
  · have hnl : ¬ k < (bfsIt p k).length := by
      have := of_decide_eq_false h
      rw [len_nodes] at this
      omega
    rw [bfs_end hp hk hnl]
    refine sv_ret (ev_sortI (ns := (nodes (bfsIt p k)).map fun n : Nat => (n : Int)) ((evl_var rfl).to (intsN_map _)) ?_) rfl
    unfold nodes
    rw [List.length_map, List.length_map]
    omega
/-! road_to -/
def enR (st : Bst) : List (Key × List D) := st.map fun x => (kN x.1, x.2.map D.int)
theorem vR (v : Nat) : ∀ st : Bst, vL (enR st) (kN v) = ((st.find? fun x => decide (x.1 = v)).map (·.2)).map fun r => r.map D.int
  | [] => rfl
  | x :: r => by
    show vL ((kN x.1, x.2.map D.int) :: enR r) _ = _
    rw [vL_cons, List.find?_cons, vR v r]
    by_cases h : x.1 = v
    · simp [h, kN_inj]
    · have : ¬ kN x.1 = kN v := fun z => h (kN_inj.mp z)
      simp [h, this]
theorem vR_none {st : Bst} {v : Nat} (h : ¬ v ∈ nodes st) : vL (enR st) (kN v) = none := by
  rw [vR, List.find?_eq_none.mpr]
  · rfl
  · intro x hx z
    have : x.1 = v := by simpa using z
    exact h (this ▸ mem_nodes hx)
theorem vR_isSome (st : Bst) (v : Nat) : (vL (enR st) (kN v)).isSome = decide (v ∈ nodes st) := by
  by_cases h : v ∈ nodes st
  · obtain ⟨y, hy, e⟩ := nodes_mem h
    rw [vR]
    cases z : st.find? fun x => decide (x.1 = v) with
    | none =>
      have := List.find?_eq_none.mp z y hy
      simp [e] at this
    | some q => simp [h]
  · rw [vR_none h]
    simp [h]
theorem vR_at {st : Bst} (nd : (nodes st).Nodup) {b : Nat} {r : List Int} (h : (b, r) ∈ st) : vL (enR st) (kN b) = some (r.map D.int) := by
  rw [vR]
  cases z : st.find? fun x => decide (x.1 = b) with
  | none =>
    have := List.find?_eq_none.mp z _ h
    simp at this
  | some q =>
    have h1 := List.mem_of_find?_eq_some z
    have h2 : q.1 = b := by simpa using List.find?_some z
    rw [nd_uniq nd h1 h h2]
    rfl
theorem len_enR (st : Bst) : (enR st).length = st.length := by unfold enR; rw [List.length_map]
def slR (o : Option (List Int)) : Sl := match o with | none => .im .non | some r => .ow (r.map D.int)
def R_road_to : List D → Sl → Prop := fun ds s => ∃ (p : Prog) (b : Nat), ds = [en p, .int (b : Int)] ∧ Wf p ∧ s = slR (roadB p b)
def rd_road_to (K : PySem.W.Frag) : TS :=
  (tSeq (tAsg (tDisp (((tC (.int 0)), (tLst tNil)) :: [])) (gName 2))
    (tSeq (tAsg (tLst (tCons (tC (.int 0)) tNil)) (gName 3))
    (tSeq (tAsg (tC (.int 0)) (gName 4))
    (tSeq (tWhile (tTest (tOp rLtX (tVar 4) (tCB (rLenX K) (tCons (tVar 3) tNil)))) (tSeq (tAsg (tOp (rIxX K) (tOp (rIxX K) (tVar 0) (tOp (rIxX K) (tVar 3) (tVar 4))) (tC (.int 1))) (gName 5))
    (tSeq (tFor (iRng1 (tCons (tCB (rLenX K) (tCons (tVar 5) tNil)) tNil)) (gName 6) (tIfS (tTest (tOp (rNiX K) (tOp (rIxX K) (tVar 5) (tVar 6)) (tVar 2))) (tSeq (tAsg (tOp (rAddX K) (tOp (rIxX K) (tVar 2) (tOp (rIxX K) (tVar 3) (tVar 4))) (tLst (tCons (tVar 6) tNil))) (gSub (tVar 2) (tOp (rIxX K) (tVar 5) (tVar 6)) rSetX))
    (tDrop (tBM K "list" rAppend (tVar 3) (tCons (tOp (rIxX K) (tVar 5) (tVar 6)) tNil)))) tNext))
    (tAsg (tOp (rAddX K) (tVar 4) (tC (.int 1))) (gName 4)))))
    (tRet (tDGet1 (tVar 2) (tVar 1)))))))
theorem sv_road_to {K : PySem.W.Frag} : Keeps K R_road_to 7 2 (rd_road_to K) := by
  rintro ds s ⟨p, b0, rfl, hp, rfl⟩
  refine ⟨rfl, ?_⟩
  show Sv K (rd_road_to K) [.im (en p), .im (.int (b0 : Int)), .un, .un, .un, .un, .un] _
  unfold rd_road_to
  refine q_asg (s := .kl (enR [(0, [])])) (ev_dispL (k := kN 0) (ds := []) evv_c (ev_lst ea_nil (by decide))) ?_
  refine q_asg (s := .ow (intsN [0])) (by wtm_at "ev") ?_
  refine q_asg (s := .im (.int ((0 : Nat) : Int))) (EvV.fi evv_c) ?_
  refine sv_seq (sv_while (fun m Γ => ∃ (k : Nat) (x y : Sl), k ≤ (bfsIt p k).length ∧ m = p.length - k ∧ Γ = [.im (en p), .im (.int (b0 : Int)), .kl (enR (bfsIt p k)), .ow (intsN (nodes (bfsIt p k))), .im (.int (k : Int)), x, y]) (p.length - 0) ⟨0, _, _, Nat.zero_le _, rfl, rfl⟩ (fun m Γ' hG => ?_))
  obtain ⟨k, x, y, hk, rfl, rfl⟩ := hG
  have hle := bfsIt_le hp k
  refine ⟨decide ((k : Int) < (intsN (nodes (bfsIt p k))).length), et_v (ev_lt (evv_int rfl) (ev_lenW (EvL.w (evl_var rfl)))), fun h => ?_, fun h => ?_⟩
  · have hlt : k < (bfsIt p k).length := by
      have := of_decide_eq_true h
      rw [len_nodes] at this
      omega
    obtain ⟨b, r, hb⟩ := bfs_at hlt
    have hbp := (bfsIt_bi hp k).lt _ (List.mem_of_getElem? hb)
    have hwl := hp.waysLe b
    have hp1 := hp.len
    refine q_asg (s := .im (en (waysIn p b))) (ev_ways (k := b) (evf_var rfl) (EvO.sc (ev_ix (evl_var rfl) (evv_int rfl) (nodes_at hb)) rfl) rfl hbp) ?_
    refine sv_seq (sv_forR (n := (waysIn p b).length) (fun n Γ => ∃ y, Γ = [.im (en p), .im (.int (b0 : Int)), .kl (enR (visitN (waysIn p b) r (bfsIt p k) n)), .ow (intsN (nodes (visitN (waysIn p b) r (bfsIt p k) n))), .im (.int (k : Int)), .im (en (waysIn p b)), y])
      (eav_cons (ev_lenE (EvO.w (evf_var rfl))) eav_nil) (by omega) ⟨_, rfl⟩ (fun n Γ' hn hG => ?_) (fun Γ' hG => ?_))
    · obtain ⟨y, rfl⟩ := hG
      obtain ⟨w, hw⟩ : ∃ w, (waysIn p b)[n]? = some w := ⟨_, List.getElem?_eq_getElem hn⟩
      obtain ⟨i1, i2, _⟩ := (bfsIt_bi hp k).turn hp hb n (by omega)
      have hvl := i1.le
      have hwr := hp.way w (List.mem_of_getElem? hw)
      rw [visitN_succ]
      have hg : (waysIn p b).getD n 0 = w := by rw [List.getD_eq_getElem?_getD, hw]; rfl
      rw [hg]
      obtain ⟨v, hv⟩ : ∃ v : Nat, w = v := ⟨w.toNat, by omega⟩
      subst hv
      rw [show ((v : Int)).toNat = v by omega]
      generalize visitN (waysIn p b) r (bfsIt p k) n = st at hvl i1 i2
      have hwx : atI ((waysIn p b).map D.int) (n : Int) = some (.int (v : Int)) := atI_nat (by rw [List.getElem?_map, hw]; rfl)
      have hwv : ∀ Γ : List Sl, Γ[5]? = some (.im (en (waysIn p b))) → Γ[6]? = some (.im (.int (n : Int))) → EvV K (tOp (rIxX K) (tVar 5) (tVar 6)) Γ (.int (v : Int)) := fun Γ h5 h6 => EvO.sc (ev_ix (ds := (waysIn p b).map D.int) (EvO.l (evf_var h5)) (evv_int h6) hwx) rfl
      refine sv_if (b := !decide (v ∈ nodes st)) (et_v ((ev_niL (k := kN v) rfl (hwv _ rfl rfl)).to (by rw [vR_isSome]))) (fun h => ?_) (fun h => ?_)
      · have h := nd_t h
        rw [if_neg h]
        have hbr : vL (enR st) (kN b) = some (r.map D.int) := vR_at i1.nd (List.mem_of_getElem? i2)
        have hnx : atI (intsN (nodes st)) (k : Int) = some (.int (b : Int)) := nodes_at i2
        have hrl : r.length ≤ 1000 := by
          have := i1.idx k _ i2
          dsimp only at this
          omega
        refine sv_seq (sv_putL (i := 2) (k := kN v) rfl (ds := r.map D.int ++ [.int (n : Int)]) (ev_addL (ev_ixL (k := kN b) rfl (EvO.sc (ev_ix (evl_var rfl) (evv_int rfl) hnx) rfl) hbr) (EvO.ll (ev_lst (ea_cons (evf_var rfl) ea_nil) (by simp))) (by rw [List.length_map]; simp; omega)) (hwv _ rfl rfl) (vR_none h) (by rw [len_enR]; omega) ?_)
        refine sv_app (i := 3) rfl (d := .int (v : Int)) (EvV.fi (hwv _ rfl rfl)) (by rw [len_nodes]; omega) ⟨.im (.int (n : Int)), ?_⟩
        unfold nodes intsN enR
        rw [List.map_append, List.map_append, List.map_append]
        simp only [List.map_cons, List.map_nil, List.map_append]
        rfl
      · rw [if_pos (nd_f h)]
        exact sv_next ⟨_, rfl⟩
    · obtain ⟨y, rfl⟩ := hG
      rw [← bfsIt_succ hb]
      refine sv_asg (s := .im (.int ((k + 1 : Nat) : Int))) ((show EvO K _ _ (.im (.int ((k : Int) + 1))) by wtm_at "ev").to (by push_cast; rfl)) ⟨p.length - (k + 1), by omega, k + 1, _, _, ?_, rfl, rfl⟩
      rw [bfsIt_succ hb]
      exact Nat.le_trans hlt (visitN_grow _ _ _ _)
  · have hnl : ¬ k < (bfsIt p k).length := by
      have := of_decide_eq_false h
      rw [len_nodes] at this
      omega
    refine sv_retL1 (i := 2) (j := 1) (k := kN b0) rfl (evv_int rfl) ?_
    unfold roadB
    rw [bfs_end hp hk hnl, vR]
    cases ((bfsIt p k).find? fun x => decide (x.1 = b0)).map (·.2) <;> rfl
theorem sorted_nodes {p : Prog} (hp : Wf p) : sortI ((nodes (bfs p)).map fun n : Nat => (n : Int)) = ((List.range p.length).filter fun v => (distB p v).isSome).map fun n : Nat => (n : Int) := by
  have h := bfs_bi hp
  refine int_up_unique ((sortI_perm _).trans ?_) (sortI_up _) ?_
  · refine List.Perm.map _ ?_
    refine (List.perm_ext_iff_of_nodup h.nd ((List.nodup_range).filter _)).mpr fun v => ?_
    constructor
    · intro hv
      obtain ⟨y, hy, rfl⟩ := nodes_mem hv
      refine List.mem_filter.mpr ⟨List.mem_range.mpr (h.lt y hy), ?_⟩
      unfold distB
      rw [roadB_of hp hy]
      rfl
    · intro hv
      have := (List.mem_filter.mp hv).2
      unfold distB at this
      cases e : roadB p v with
      | none => rw [e] at this; cases this
      | some r => exact mem_nodes (roadB_mem e)
  · rw [List.pairwise_map]
    refine ((List.pairwise_lt_range).filter _).imp fun h => by omega
end Sf

namespace Sf
open PySem PySem.Spec PyProof.Rows L2
/-! short words for evaluation: each closes its goal or fails -/
local macro_rules | `(tactic| wtm_at "sd") => `(tactic| first | assumption | exact trivial | omega | ((with_reducible show List.length _ ≤ _); simp only [List.length_cons, List.length_nil]; omega) | decide | rfl | ((with_reducible show sOk _); (show PyData.strOk _ = true); decide +kernel))
local macro_rules | `(tactic| wtm_at "ix") => `(tactic| first | assumption | exact rfl)
local macro_rules | `(tactic| wtm_at "rr") => `(tactic| assumption)
local macro_rules | `(tactic| wtm_at "evp") => `(tactic| first | exact ep_none | (apply ep_some; wtm_at "evv"))
local macro_rules | `(tactic| wtm_at "evav") => `(tactic| first | exact eav_nil | (apply eav_cons; wtm_at "evv"; wtm_at "evav"))
local macro_rules | `(tactic| wtm_at "eva") => `(tactic| first | exact ea_nil | (apply ea_cons; wtm_at "evf"; wtm_at "eva"))
local macro_rules | `(tactic| wtm_at "evaw") => `(tactic| first | exact eaw_nil | (apply eaw_cons; wtm_at "evw"; wtm_at "evaw"))
local macro_rules | `(tactic| wtm_at "evl") => `(tactic| first | exact evl_var rfl | (apply EvO.l; wtm_at "evf") | (apply EvO.ll; wtm_at "evo"))
local macro_rules | `(tactic| wtm_at "evk") => `(tactic| first | exact evk_var rfl | (apply EvO.k; wtm_at "evf"))
local macro_rules | `(tactic| wtm_at "evm") => `(tactic| first | exact evm_var rfl | (apply EvO.m; wtm_at "evf"))
local macro_rules | `(tactic| wtm_at "evw") => `(tactic| first
  | exact EvL.w (evl_var rfl) | exact EvK.w (evk_var rfl) | exact EvM.w (evm_var rfl)
  | (apply EvO.w; wtm_at "evf")
  | (apply EvL.w; wtm_at "evl"))
/-! what a slot may hold: fixed data -/
local macro_rules | `(tactic| wtm_at "evf") => `(tactic| first
  | exact evf_var rfl
  | (apply ev_ixT; wtm_at "evf"; wtm_at "evv"; wtm_at "ix")
  | (apply ev_ix; wtm_at "evl"; wtm_at "evv"; wtm_at "ix")
  | (apply ev_tup; wtm_at "eva"; wtm_at "sd")
  | (apply EvV.fi; wtm_at "evv")
  | (apply EvV.fs; wtm_at "evv")
  | (apply EvV.fb; wtm_at "evv")
  | (apply EvV.fn; wtm_at "evv")
  | (apply ev_call; wtm_at "eva"; wtm_at "rr")
  | (apply ev_callW; wtm_at "evaw"; wtm_at "rr"; wtm_at "sd")
  | (apply EvO.fixL; wtm_at "evo"))
/-! an owned list, a dict -/
local macro_rules | `(tactic| wtm_at "evo") => `(tactic| first
  | (apply ev_lst; wtm_at "eva"; wtm_at "sd")
  | exact ev_newK | exact ev_newT
  | (apply ev_listL; wtm_at "evl")
  | (apply ev_listT; wtm_at "evf")
  | (apply ev_dict; wtm_at "evk")
  | (apply ev_addL; wtm_at "evl"; wtm_at "evl"; wtm_at "sd")
  | (apply ev_slL; wtm_at "evl"; wtm_at "evp"; wtm_at "evp")
  | (apply ev_call; wtm_at "eva"; wtm_at "rr")
  | (apply ev_callW; wtm_at "evaw"; wtm_at "rr"; wtm_at "sd"))
local macro_rules | `(tactic| wtm_at "evv") => `(tactic| first
  | exact evv_c
  | exact evv_int rfl
  | exact evv_str rfl
  | exact evv_bl rfl
  | exact evv_non rfl
  | (apply ev_add; wtm_at "evv"; wtm_at "evv")
  | (apply ev_cat; wtm_at "evv"; wtm_at "evv"; wtm_at "sd")
  | (apply ev_sub; wtm_at "evv"; wtm_at "evv")
  | (apply ev_mul; wtm_at "evv"; wtm_at "evv"; wtm_at "mu")
  | (apply ev_div; wtm_at "evv"; wtm_at "evv"; wtm_at "sd")
  | (apply ev_mod; wtm_at "evv"; wtm_at "evv"; wtm_at "sd")
  | (apply ev_neg; wtm_at "evv")
  | (apply ev_lt; wtm_at "evv"; wtm_at "evv")
  | (apply ev_le; wtm_at "evv"; wtm_at "evv")
  | (apply ev_gt; wtm_at "evv"; wtm_at "evv")
  | (apply ev_ge; wtm_at "evv"; wtm_at "evv")
  | (apply ev_eqi; wtm_at "evv"; wtm_at "evv")
  | (apply ev_eqs; wtm_at "evv"; wtm_at "evv")
  | (apply ev_nei; wtm_at "evv"; wtm_at "evv")
  | (apply ev_nes; wtm_at "evv"; wtm_at "evv")
  | (apply ev_eqb; wtm_at "evv"; wtm_at "evv")
  | (apply ev_neb; wtm_at "evv"; wtm_at "evv")
  | (apply ev_min; wtm_at "evv"; wtm_at "evv")
  | (apply ev_max; wtm_at "evv"; wtm_at "evv")
  | (apply ev_intb; wtm_at "evv")
  | (apply ev_lens; wtm_at "evv"; wtm_at "sd")
  | (apply ev_lenR; wtm_at "evw")
  | (apply ev_lenW; wtm_at "evw")
  | (apply ev_lenT; wtm_at "evw")
  | (apply ev_ixR; wtm_at "evf"; wtm_at "evv"; wtm_at "ix")
  | (apply ev_ixS; wtm_at "evv"; wtm_at "evv"; wtm_at "sd"; wtm_at "ix")
  | (apply ev_slS; wtm_at "evv"; wtm_at "sd"; wtm_at "evp"; wtm_at "evp")
  | (apply ev_nis; wtm_at "evv"; wtm_at "evv")
  | (apply ev_ins; wtm_at "evv"; wtm_at "evv")
  | (apply ev_inK; wtm_at "evv"; wtm_at "evk")
  | (apply ev_niK; wtm_at "evv"; wtm_at "evk")
  | (apply ev_andV; wtm_at "evv"; (intro _; wtm_at "evv"))
  | (apply ev_orV; wtm_at "evv"; (intro _; wtm_at "evv"))
  | (apply ev_notV; wtm_at "evv")
  | (apply ev_isN; wtm_at "evw")
  | (apply ev_ntN; wtm_at "evw")
  | (apply ev_isi_lst true; wtm_at "evw"; decide +kernel)
  | (apply ev_isi_lst false; wtm_at "evw"; decide +kernel)
  | (apply ev_isi_tup true; wtm_at "evw"; decide +kernel)
  | (apply ev_isi_tup false; wtm_at "evw"; decide +kernel)
  | (apply ev_isi_str true; wtm_at "evw"; decide +kernel)
  | (apply ev_isi_str false; wtm_at "evw"; decide +kernel)
  | (apply ev_isi_int true; wtm_at "evw"; decide +kernel)
  | (apply ev_isi_int false; wtm_at "evw"; decide +kernel)
  | (apply ev_isi_bl true; wtm_at "evw"; decide +kernel)
  | (apply ev_isi_bl false; wtm_at "evw"; decide +kernel)
  | (apply ev_isi_non true; wtm_at "evw"; decide +kernel)
  | (apply ev_isi_non false; wtm_at "evw"; decide +kernel)
  | (apply ev_isi_dk true; wtm_at "evw"; decide +kernel)
  | (apply ev_isi_dk false; wtm_at "evw"; decide +kernel)
  | (apply EvO.sc; wtm_at "evf1"; exact rfl))
/-! data that is a scalar: what is not made of scalars -/
local macro_rules | `(tactic| wtm_at "evf1") => `(tactic| first
  | (apply ev_ixT; wtm_at "evf"; wtm_at "evv"; wtm_at "ix")
  | (apply ev_ix; wtm_at "evl"; wtm_at "evv"; wtm_at "ix")
  | (apply ev_ixKT; wtm_at "evf"; wtm_at "evv"; wtm_at "ix")
  | (apply ev_get; wtm_at "evk"; wtm_at "evv"; wtm_at "evf")
  | (apply ev_call; wtm_at "eva"; wtm_at "rr")
  | (apply ev_callW; wtm_at "evaw"; wtm_at "rr"; wtm_at "sd"))
local macro_rules | `(tactic| wtm_at "mu") => `(tactic| first
  | assumption
  | (apply mul_ok_l; omega)
  | (apply mul_ok_r; omega))
local macro_rules | `(tactic| wtm_at "evt") => `(tactic| first
  | exact et_yes
  | (apply et_v; wtm_at "evv")
  | (apply et_b; wtm_at "evv")
  | (apply et_and; wtm_at "evt"; (intro _; wtm_at "evt"))
  | (apply et_or; wtm_at "evt"; (intro _; wtm_at "evt"))
  | (apply et_not; wtm_at "evt"))
/-! a name gets a value, and what follows -/
local macro_rules | `(tactic| wtm_at "ev") => `(tactic| first | wtm_at "evf" | wtm_at "evo")
/-! ### standing -/
/-- what is held behind the last k rows -/
def heldB (rows : List Row) (behind : List Str) (k : Nat) : List Str := (rows.reverse.take k).foldl stepB (heldS behind)
def standsR (hs : List Str) : Row → Bool
  | .tell _ => true
  | .make s _ _ => decide (s ∈ hs)
/-- whether the row at a place stands -/
def stands (rows : List Row) (behind : List Str) (at' : Nat) : Bool := match rows[at']? with | none => false | some r => standsR (heldB rows behind (rows.length - 1 - at')) r
def standL (rows : List Row) (behind : List Str) : List Nat := (List.range rows.length).filter (stands rows behind)
/-- the places found going back, k rows done -/
def standD (rows : List Row) (behind : List Str) (k : Nat) : List Nat := ((List.range k).map fun j => rows.length - 1 - j).filter (stands rows behind)
theorem standD_succ (rows : List Row) (behind : List Str) (k : Nat) : standD rows behind (k + 1) = standD rows behind k ++ if stands rows behind (rows.length - 1 - k) = true then [rows.length - 1 - k] else [] := by
  unfold standD
  rw [List.range_succ, List.map_append, List.filter_append]
  by_cases h : stands rows behind (rows.length - 1 - k) = true <;> simp [h]
theorem standD_perm (rows : List Row) (behind : List Str) : (standD rows behind rows.length).Perm (standL rows behind) := by
  unfold standD standL
  refine List.Perm.filter _ ?_
  have : (List.range rows.length).map (fun j => rows.length - 1 - j) = (List.range rows.length).reverse := by
    refine List.ext_getElem (by simp) fun i h1 h2 => ?_
    simp at h1 h2 ⊢
  rw [this]
  exact List.reverse_perm _
theorem sorted_stand (rows : List Row) (behind : List Str) : sortI ((standD rows behind rows.length).map fun n : Nat => (n : Int)) = (standL rows behind).map fun n : Nat => (n : Int) := by
  refine int_up_unique ((sortI_perm _).trans ((standD_perm rows behind).map _)) (sortI_up _) ?_
  rw [List.pairwise_map]
  unfold standL
  exact ((List.pairwise_lt_range).filter _).imp fun h => by omega
def R_standing : List D → Sl → Prop := fun ds s => ∃ (pool : List Str) (rows : List Row) (behind : List Str), ds = [.lst (rows.map en), .lst (dS behind)] ∧ (Small pool rows behind ∧ rows.length ≤ 63) ∧ s = .ow (intsN (standL rows behind))
def rd_standing (K : PySem.W.Frag) : TS :=
  (tSeq (tAsg tDNewK (gName 2))
    (tSeq (tFor (iX K (tVar 1)) (gName 3) (tAsg (tC (.bl true)) (gSub (tVar 2) (tVar 3) rSetX)))
    (tSeq (tAsg (tLst tNil) (gName 4))
    (tSeq (tFor (iRng1 (tCons (tCB (rLenX K) (tCons (tVar 0) tNil)) tNil)) (gName 5) (tSeq (tAsg (tOp rSubX (tOp rSubX (tCB (rLenX K) (tCons (tVar 0) tNil)) (tC (.int 1))) (tVar 5)) (gName 6))
    (tSeq (tAsg (tOp (rIxX K) (tVar 0) (tVar 6)) (gName 7))
    (tIfS (tTest (tOp (rEqX K) (tOp (rIxX K) (tVar 7) (tC (.int 0))) (tC (.str "tell")))) (tSeq (tAsg (tC (.bl true)) (gSub (tVar 2) (tOp (rIxX K) (tVar 7) (tC (.int 1))) rSetX))
    (tDrop (tBM K "list" rAppend (tVar 4) (tCons (tVar 6) tNil)))) (tIfS (tTest (tOp (rInX K) (tOp (rIxX K) (tVar 7) (tC (.int 1))) (tVar 2))) (tSeq (tDrop (tDPop1 (tVar 2) (tOp (rIxX K) (tVar 7) (tC (.int 1)))))
    (tSeq (tFor (iX K (tOp (rIxX K) (tVar 7) (tC (.int 3)))) (gName 3) (tAsg (tC (.bl true)) (gSub (tVar 2) (tVar 3) rSetX)))
    (tDrop (tBM K "list" rAppend (tVar 4) (tCons (tVar 6) tNil))))) tNext)))))
    (tRet (tCB (rSortX K) (tCons (tVar 4) tNil)))))))
theorem sv_standing {K : PySem.W.Frag} : Keeps K R_standing 8 2 (rd_standing K) := by
  rintro ds s ⟨pool, rows, behind, rfl, ⟨hS, hn⟩, rfl⟩
  refine ⟨rfl, ?_⟩
  show Sv K (rd_standing K) [.im (.lst (rows.map en)), .im (.lst (behind.map D.str)), .un, .un, .un, .un, .un, .un] _
  unfold rd_standing
  refine q_asg (s := .ok (enH [])) ev_newK ?_
  have hp := hS.le
  refine sv_seq (sv_holdL (hs := []) (ss := behind) (by decide) rfl rfl (by wtm_at "evf") (fun k => ?_) (fun x => ?_))
  · have := (Hin.nil.adds (pool := pool) (ss := behind.take k) fun x hx => hS.behind x (List.mem_of_mem_take hx)).le
    omega
  refine q_asg (s := .ow []) (by wtm_at "ev") ?_
  have hlen : ∀ Γ : List Sl, Γ[0]? = some (.im (.lst (rows.map en))) → EvV K (tCB (rLenX K) (tCons (tVar 0) tNil)) Γ (.int rows.length) := fun Γ h => (ev_lenW (ds := rows.map en) (EvO.w (evf_var h))).to (by rw [List.length_map])
  refine sv_seq (sv_forR (n := rows.length) (fun i Γ => ∃ x y z w, Γ = [.im (.lst (rows.map en)), .im (.lst (behind.map D.str)), .ok (enH (heldB rows behind i)), x, .ow (intsN (standD rows behind i)), y, z, w])
    (eav_cons (hlen _ rfl) eav_nil) (by omega) ⟨_, _, _, _, rfl⟩ (fun i Γ' hlt hG => ?_) (fun Γ' hG => ?_))
  · obtain ⟨x, y, z, w, rfl⟩ := hG
    obtain ⟨r, hr, hm⟩ := rev_some hlt
    have hi := hS.hin i
    have hl := hS.le' hi
    have hri := hS.rows r hm
    have hb : ((rows.length : Int) - 1 - i) = ((rows.length - 1 - i : Nat) : Int) := by omega
    have hat : rows[rows.length - 1 - i]? = some r := by
      rw [List.getElem?_reverse hlt] at hr
      exact hr
    have hst : stands rows behind (rows.length - 1 - i) = standsR (heldB rows behind i) r := by
      unfold stands
      rw [hat, show rows.length - 1 - (rows.length - 1 - i) = i by omega]
    have hnx : heldB rows behind (i + 1) = stepB (heldB rows behind i) r := steps_take _ _ _ hr
    have hdl : (intsN (standD rows behind i)).length < 100000 := by
      unfold intsN standD
      rw [List.length_map]
      have := List.length_filter_le (stands rows behind) ((List.range i).map fun j => rows.length - 1 - j)
      rw [List.length_map, List.length_range] at this
      omega
    rw [standD_succ, hst, hnx]
    have hx : atI (rows.map en) (((rows.length - 1 - i : Nat)) : Int) = some (en r) := atI_nat (by rw [List.getElem?_map, hat]; rfl)
    refine q_asg (s := .im (.int ((rows.length - 1 - i : Nat) : Int))) ((show EvO K _ _ (.im (.int ((rows.length : Int) - 1 - i))) from EvV.fi (ev_sub (ev_sub (hlen _ rfl) evv_c) (evv_int rfl))).to (by rw [hb])) ?_
    refine q_asg (s := .im (en r)) (ev_ix (EvO.l (evf_var rfl)) (evv_int rfl) hx) ?_
    have hi' : Hin pool (heldB rows behind i) := hi
    have hl' : (heldB rows behind i).length ≤ 63 := hl
    generalize heldB rows behind i = hs at hi' hl'
    generalize standD rows behind i = fd at hdl
    generalize rows.length - 1 - i = a
    have app : intsN fd ++ [D.int (a : Int)] = intsN (fd ++ [a]) := by unfold intsN; rw [List.map_append]; rfl
    cases r with
    | tell s =>
      show Sv K _ [.im (.lst (rows.map en)), .im (.lst (behind.map D.str)), .ok (enH hs), x, .ow (intsN fd), .im (.int (i : Int)), .im (.int (a : Int)), .im (.tup [.str "tell", .str s])] _
      refine sv_if (b := decide (("tell" : Str) = "tell")) (by wtm_at "evt") (fun _ => ?_) (fun h => by rw [tell_t] at h; cases h)
      refine sv_seq (sv_putK (i := 2) (kk := .inr s) rfl (d := .bl true) (by wtm_at "evf") (show EvV K _ _ (.str s) by wtm_at "evv") (by rw [len_enH]; omega) ?_)
      rw [putH]
      refine sv_app (i := 4) rfl (d := .int (a : Int)) (evf_var rfl) hdl ?_
      rw [app]
      exact ⟨_, _, _, _, rfl⟩
    | make s g rs =>
      show Sv K _ [.im (.lst (rows.map en)), .im (.lst (behind.map D.str)), .ok (enH hs), x, .ow (intsN fd), .im (.int (i : Int)), .im (.int (a : Int)), .im (.tup [.str "make", .str s, .str g, .tup (rs.map D.str)])] _
      refine sv_if (b := decide (("make" : Str) = "tell")) (by wtm_at "evt") (fun h => by rw [tell_f] at h; cases h) (fun _ => ?_)
      refine sv_if (b := decide (s ∈ hs)) (et_v (ev_inH (by wtm_at "evv") (evk_var rfl))) (fun h => ?_) (fun h => ?_)
      · have h' := of_decide_eq_true h
        rw [stepB_in h', show standsR hs (.make s g rs) = true from h, if_pos rfl]
        refine sv_seq (sv_popK (i := 2) (kk := .inr s) rfl (show EvV K _ _ (.str s) by wtm_at "evv") (vH h') ?_)
        rw [dropH]
        refine sv_seq (sv_holdT (i := 2) (j := 3) (hs := hs.filter fun x => decide (x ≠ s)) (ss := rs) (by decide) rfl rfl (by wtm_at "evf") (fun k => ?_) (fun x => ?_))
        · have := ((hi'.drop s).adds (ss := rs.take k) fun x hx => hri.2 x (List.mem_of_mem_take hx)).le
          omega
        · refine sv_app (i := 4) rfl (d := .int (a : Int)) (evf_var rfl) hdl ?_
          rw [app]
          exact ⟨_, _, _, _, rfl⟩
      · rw [stepB_out (of_decide_eq_false h), show standsR hs (.make s g rs) = false from h, if_neg Bool.false_ne_true, List.append_nil]
        exact sv_next ⟨_, _, _, _, rfl⟩
  · obtain ⟨x, y, z, w, rfl⟩ := hG
    refine sv_ret ((ev_sortI (ns := (standD rows behind rows.length).map fun n : Nat => (n : Int)) ((evl_var rfl).to (intsN_map _)) ?_).to ?_) rfl
    · have := List.length_filter_le (stands rows behind) ((List.range rows.length).map fun j => rows.length - 1 - j)
      rw [List.length_map, List.length_range] at this
      unfold standD
      rw [List.length_map]
      omega
    · rw [sorted_stand, ← intsN_map]
/-! ### kept -/
abbrev Place := Nat × Nat
def dPl (q : Place) : D := .tup [.int (q.1 : Int), .int (q.2 : Int)]
def reachL (p : Prog) : List Nat := (List.range p.length).filter fun v => (distB p v).isSome
def keptIn (p : Prog) (nd : Needs) (b : Nat) : List Place := (standL (rowsIn p b) (behindOf nd (waysIn p b))).map fun a => (b, a)
def keptL (p : Prog) : List Place := ((reachL p).map (keptIn p (needOf p))).flatten
/-- a program on which kept is asked -/
structure Pk (pool : List Str) (p : Prog) : Prop where
  pn : Pn pool p
  len : p.length ≤ 63
  rows : ∀ k, (rowsIn p k).length ≤ 63
theorem Pk.small {pool : List Str} {p : Prog} (h : Pk pool p) (b : Nat) : Small pool (rowsIn p b) (behindOf (needOf p) (waysIn p b)) := live_small h.pn.pool (need_ni h.pn.pool).up b
theorem standL_len (rows : List Row) (behind : List Str) : (standL rows behind).length ≤ rows.length := by
  unfold standL
  have := List.length_filter_le (stands rows behind) (List.range rows.length)
  rwa [List.length_range] at this
theorem keptIn_len (p : Prog) (nd : Needs) (b : Nat) : (keptIn p nd b).length ≤ (rowsIn p b).length := by
  unfold keptIn
  rw [List.length_map]
  exact standL_len _ _
theorem flat_len {α : Type} {m : Nat} {f : Nat → List α} (h : ∀ b, (f b).length ≤ m) : ∀ l : List Nat, ((l.map f).flatten).length ≤ m * l.length
  | [] => Nat.le_refl _
  | b :: r => by
    have ih := flat_len h r
    have := h b
    rw [List.map_cons, List.flatten_cons, List.length_append, List.length_cons, Nat.mul_succ]
    omega
theorem reachL_len (p : Prog) : (reachL p).length ≤ p.length := by
  unfold reachL
  have := List.length_filter_le (fun v => (distB p v).isSome) (List.range p.length)
  rwa [List.length_range] at this
def dPls (l : List Place) : List D := l.map dPl
def R_kept : List D → Sl → Prop := fun ds s => ∃ (pool : List Str) (p : Prog), ds = [en p] ∧ Pk pool p ∧ s = .ow (dPls (keptL p))
def rd_kept (K : PySem.W.Frag) : TS :=
  (tSeq (tAsg (tCall (spF K R_needed) [] E0 (tCons (tVar 0) tNil)) (gName 1))
    (tSeq (tAsg (tLst tNil) (gName 2))
    (tSeq (tFor (iX K (tCall (spF K R_reached) [] E0 (tCons (tVar 0) tNil))) (gName 3) (tFor (iX K (tCall (spF K R_standing) [] E0 (tCons (tOp (rIxX K) (tOp (rIxX K) (tVar 0) (tVar 3)) (tC (.int 0))) (tCons (tCall (spF K R_behind_of) [] E0 (tCons (tVar 1) (tCons (tOp (rIxX K) (tOp (rIxX K) (tVar 0) (tVar 3)) (tC (.int 1))) tNil))) tNil)))) (gName 4) (tDrop (tBM K "list" rAppend (tVar 2) (tCons (tTup (tCons (tVar 3) (tCons (tVar 4) tNil))) tNil)))))
    (tRet (tVar 2)))))
theorem take_flat {α : Type} (f : Nat → List α) (l : List Nat) (i : Nat) {b : Nat} (h : l[i]? = some b) : ((l.take (i + 1)).map f).flatten = ((l.take i).map f).flatten ++ f b := by
  rw [List.take_add_one, h, List.map_append, List.flatten_append]
  simp
theorem sv_kept {K : PySem.W.Frag} : Keeps K R_kept 5 1 (rd_kept K) := by
  rintro ds s ⟨pool, p, rfl, hk, rfl⟩
  refine ⟨rfl, ?_⟩
  show Sv K (rd_kept K) [.im (en p), .un, .un, .un, .un] _
  unfold rd_kept
  have hP := hk.pn.pool
  have hp := hk.pn.wf
  have hni := need_ni hP
  have h63 : ∀ b, (ndAt (needOf p) b).length ≤ 63 := fun b => Nat.le_trans (hni.up b).le hP.le
  refine q_asg (s := .ll ((needOf p).map dS)) (ev_call (ea_cons (evf_var rfl) ea_nil) ⟨pool, p, rfl, hk.pn, rfl⟩) ?_
  refine q_asg (s := .ow (dPls [])) (ev_lst ea_nil (by decide)) ?_
  have hsm := hk.small
  have hkl : ∀ b, (keptIn p (needOf p) b).length ≤ 63 := fun b => Nat.le_trans (keptIn_len p _ b) (hk.rows b)
  have hrl := reachL_len p
  have hlen := hk.len
  unfold keptL
  have hin : ∀ i b, (reachL p)[i]? = some b → b < p.length := fun i b h => List.mem_range.mp (List.mem_filter.mp (List.mem_of_getElem? h)).1
  have hri : sortI ((nodes (bfs p)).map fun n : Nat => (n : Int)) = (reachL p).map fun n : Nat => (n : Int) := sorted_nodes hp
  generalize reachL p = rl at hrl hin hri
  generalize needOf p = nd at hni h63 hsm hkl
  have hnl := hni.len
  refine sv_seq (sv_forL (ds := intsN rl) (fun i Γ => ∃ x y, Γ = [.im (en p), .ll (nd.map dS), .ow (dPls ((rl.take i).map (keptIn p nd)).flatten), x, y])
    (EvO.fixL (ev_call (ea_cons (evf_var rfl) ea_nil) ⟨p, rfl, ⟨hp, hlen⟩, by rw [hri, ← intsN_map]⟩)) ⟨_, _, rfl⟩ (fun i d Γ' hd hG => ?_) (fun Γ' hG => ?_))
  · obtain ⟨x, y, rfl⟩ := hG
    unfold intsN at hd
    rw [List.getElem?_map] at hd
    obtain ⟨b, hb, rfl⟩ := Option.map_eq_some_iff.mp hd
    have hbp := hin i b hb
    have hil := (List.getElem?_eq_some_iff.mp hb).1
    rw [take_flat _ _ _ hb]
    have hfl := flat_len hkl (rl.take i)
    rw [List.length_take] at hfl
    generalize ((rl.take i).map (keptIn p nd)).flatten = pre at hfl
    have hpre : pre.length ≤ 5000 := by
      have : 63 * min i rl.length ≤ 63 * 63 := Nat.mul_le_mul_left _ (by omega)
      omega
    have hwl := hp.waysLe b
    have hsl := standL_len (rowsIn p b) (behindOf nd (waysIn p b))
    have hrb := hk.rows b
    unfold keptIn
    refine sv_forL (ds := intsN (standL (rowsIn p b) (behindOf nd (waysIn p b)))) (fun j Γ => ∃ y, Γ = [.im (en p), .ll (nd.map dS), .ow (dPls (pre ++ ((standL (rowsIn p b) (behindOf nd (waysIn p b))).take j).map fun a => (b, a))), .im (.int (b : Int)), y])
      (EvO.fixL (ev_call (ea_cons (ev_rows (k := b) (evf_var rfl) (evv_int rfl) rfl hbp) (ea_cons (EvO.fixL (ev_callW (eaw_cons (ev_llw rfl) (eaw_cons (EvO.w (ev_ways (k := b) (evf_var rfl) (evv_int rfl) rfl hbp)) eaw_nil)) ⟨nd, waysIn p b, by unfold dN; rw [List.map_map]; rfl, ⟨fun w hw => by rw [hnl]; exact hp.way w hw, hwl, h63⟩, rfl⟩ (sc_dS _))) ea_nil)) ⟨pool, rowsIn p b, behindOf nd (waysIn p b), rfl, ⟨hsm b, hrb⟩, rfl⟩)) ⟨_, by rw [List.take_zero, List.map_nil, List.append_nil]; rfl⟩ (fun j d Γ' hd hG => ?_) (fun Γ' hG => ?_)
    · obtain ⟨y, rfl⟩ := hG
      unfold intsN at hd
      rw [List.getElem?_map] at hd
      obtain ⟨a, ha, rfl⟩ := Option.map_eq_some_iff.mp hd
      have hj := (List.getElem?_eq_some_iff.mp ha).1
      rw [List.take_add_one, ha, List.map_append, ← List.append_assoc]
      refine sv_app (i := 2) rfl (d := dPl (b, a)) (ev_tup (ds := [.int (b : Int), .int (a : Int)]) (ea_cons (evf_var rfl) (ea_cons (evf_var rfl) ea_nil)) (by simp)) (by unfold dPls; rw [List.length_map, List.length_append, List.length_map, List.length_take]; omega) ?_
      rw [show dPls (pre ++ ((standL (rowsIn p b) (behindOf nd (waysIn p b))).take j).map fun a => (b, a)) ++ [dPl (b, a)] = dPls ((pre ++ ((standL (rowsIn p b) (behindOf nd (waysIn p b))).take j).map fun a => (b, a)) ++ [(b, a)]) by unfold dPls; rw [List.map_append (l₁ := pre ++ _)]; rfl]
      exact ⟨_, rfl⟩
    · obtain ⟨y, rfl⟩ := hG
      rw [show (intsN (standL (rowsIn p b) (behindOf nd (waysIn p b)))).length = (standL (rowsIn p b) (behindOf nd (waysIn p b))).length by unfold intsN; rw [List.length_map], List.take_length]
      exact ⟨_, _, rfl⟩
  · obtain ⟨x, y, rfl⟩ := hG
    rw [show (intsN rl).length = rl.length by unfold intsN; rw [List.length_map], List.take_length]
    exact sv_retL rfl rfl
end Sf

namespace Sf
open PySem PySem.Spec PyProof.Rows L2
/-! short words for evaluation: each closes its goal or fails -/
local macro_rules | `(tactic| wtm_at "sd") => `(tactic| first | assumption | exact trivial | omega | ((with_reducible show List.length _ ≤ _); simp only [List.length_cons, List.length_nil]; omega) | decide | rfl | ((with_reducible show sOk _); (show PyData.strOk _ = true); decide +kernel))
local macro_rules | `(tactic| wtm_at "ix") => `(tactic| first | assumption | exact rfl)
local macro_rules | `(tactic| wtm_at "rr") => `(tactic| assumption)
local macro_rules | `(tactic| wtm_at "evp") => `(tactic| first | exact ep_none | (apply ep_some; wtm_at "evv"))
local macro_rules | `(tactic| wtm_at "evav") => `(tactic| first | exact eav_nil | (apply eav_cons; wtm_at "evv"; wtm_at "evav"))
local macro_rules | `(tactic| wtm_at "eva") => `(tactic| first | exact ea_nil | (apply ea_cons; wtm_at "evf"; wtm_at "eva"))
local macro_rules | `(tactic| wtm_at "evaw") => `(tactic| first | exact eaw_nil | (apply eaw_cons; wtm_at "evw"; wtm_at "evaw"))
local macro_rules | `(tactic| wtm_at "evl") => `(tactic| first | exact evl_var rfl | (apply EvO.l; wtm_at "evf") | (apply EvO.ll; wtm_at "evo"))
local macro_rules | `(tactic| wtm_at "evk") => `(tactic| first | exact evk_var rfl | (apply EvO.k; wtm_at "evf"))
local macro_rules | `(tactic| wtm_at "evm") => `(tactic| first | exact evm_var rfl | (apply EvO.m; wtm_at "evf"))
local macro_rules | `(tactic| wtm_at "evw") => `(tactic| first
  | exact EvL.w (evl_var rfl) | exact EvK.w (evk_var rfl) | exact EvM.w (evm_var rfl)
  | (apply EvO.w; wtm_at "evf")
  | (apply EvL.w; wtm_at "evl"))
/-! what a slot may hold: fixed data -/
local macro_rules | `(tactic| wtm_at "evf") => `(tactic| first
  | exact evf_var rfl
  | (apply ev_ixT; wtm_at "evf"; wtm_at "evv"; wtm_at "ix")
  | (apply ev_ix; wtm_at "evl"; wtm_at "evv"; wtm_at "ix")
  | (apply ev_tup; wtm_at "eva"; wtm_at "sd")
  | (apply EvV.fi; wtm_at "evv")
  | (apply EvV.fs; wtm_at "evv")
  | (apply EvV.fb; wtm_at "evv")
  | (apply EvV.fn; wtm_at "evv")
  | (apply ev_call; wtm_at "eva"; wtm_at "rr")
  | (apply ev_callW; wtm_at "evaw"; wtm_at "rr"; wtm_at "sd")
  | (apply EvO.fixL; wtm_at "evo"))
/-! an owned list, a dict -/
local macro_rules | `(tactic| wtm_at "evo") => `(tactic| first
  | (apply ev_lst; wtm_at "eva"; wtm_at "sd")
  | exact ev_newK | exact ev_newT
  | (apply ev_listL; wtm_at "evl")
  | (apply ev_listT; wtm_at "evf")
  | (apply ev_dict; wtm_at "evk")
  | (apply ev_addL; wtm_at "evl"; wtm_at "evl"; wtm_at "sd")
  | (apply ev_slL; wtm_at "evl"; wtm_at "evp"; wtm_at "evp")
  | (apply ev_call; wtm_at "eva"; wtm_at "rr")
  | (apply ev_callW; wtm_at "evaw"; wtm_at "rr"; wtm_at "sd"))
local macro_rules | `(tactic| wtm_at "evv") => `(tactic| first
  | exact evv_c
  | exact evv_int rfl
  | exact evv_str rfl
  | exact evv_bl rfl
  | exact evv_non rfl
  | (apply ev_add; wtm_at "evv"; wtm_at "evv")
  | (apply ev_cat; wtm_at "evv"; wtm_at "evv"; wtm_at "sd")
  | (apply ev_sub; wtm_at "evv"; wtm_at "evv")
  | (apply ev_mul; wtm_at "evv"; wtm_at "evv"; wtm_at "mu")
  | (apply ev_div; wtm_at "evv"; wtm_at "evv"; wtm_at "sd")
  | (apply ev_mod; wtm_at "evv"; wtm_at "evv"; wtm_at "sd")
  | (apply ev_neg; wtm_at "evv")
  | (apply ev_lt; wtm_at "evv"; wtm_at "evv")
  | (apply ev_le; wtm_at "evv"; wtm_at "evv")
  | (apply ev_gt; wtm_at "evv"; wtm_at "evv")
  | (apply ev_ge; wtm_at "evv"; wtm_at "evv")
  | (apply ev_eqi; wtm_at "evv"; wtm_at "evv")
  | (apply ev_eqs; wtm_at "evv"; wtm_at "evv")
  | (apply ev_nei; wtm_at "evv"; wtm_at "evv")
  | (apply ev_nes; wtm_at "evv"; wtm_at "evv")
  | (apply ev_eqb; wtm_at "evv"; wtm_at "evv")
  | (apply ev_neb; wtm_at "evv"; wtm_at "evv")
  | (apply ev_min; wtm_at "evv"; wtm_at "evv")
  | (apply ev_max; wtm_at "evv"; wtm_at "evv")
  | (apply ev_intb; wtm_at "evv")
  | (apply ev_lens; wtm_at "evv"; wtm_at "sd")
  | (apply ev_lenR; wtm_at "evw")
  | (apply ev_lenW; wtm_at "evw")
  | (apply ev_lenT; wtm_at "evw")
  | (apply ev_ixR; wtm_at "evf"; wtm_at "evv"; wtm_at "ix")
  | (apply ev_ixS; wtm_at "evv"; wtm_at "evv"; wtm_at "sd"; wtm_at "ix")
  | (apply ev_slS; wtm_at "evv"; wtm_at "sd"; wtm_at "evp"; wtm_at "evp")
  | (apply ev_nis; wtm_at "evv"; wtm_at "evv")
  | (apply ev_ins; wtm_at "evv"; wtm_at "evv")
  | (apply ev_inK; wtm_at "evv"; wtm_at "evk")
  | (apply ev_niK; wtm_at "evv"; wtm_at "evk")
  | (apply ev_andV; wtm_at "evv"; (intro _; wtm_at "evv"))
  | (apply ev_orV; wtm_at "evv"; (intro _; wtm_at "evv"))
  | (apply ev_notV; wtm_at "evv")
  | (apply ev_isN; wtm_at "evw")
  | (apply ev_ntN; wtm_at "evw")
  | (apply ev_isi_lst true; wtm_at "evw"; decide +kernel)
  | (apply ev_isi_lst false; wtm_at "evw"; decide +kernel)
  | (apply ev_isi_tup true; wtm_at "evw"; decide +kernel)
  | (apply ev_isi_tup false; wtm_at "evw"; decide +kernel)
  | (apply ev_isi_str true; wtm_at "evw"; decide +kernel)
  | (apply ev_isi_str false; wtm_at "evw"; decide +kernel)
  | (apply ev_isi_int true; wtm_at "evw"; decide +kernel)
  | (apply ev_isi_int false; wtm_at "evw"; decide +kernel)
  | (apply ev_isi_bl true; wtm_at "evw"; decide +kernel)
  | (apply ev_isi_bl false; wtm_at "evw"; decide +kernel)
  | (apply ev_isi_non true; wtm_at "evw"; decide +kernel)
  | (apply ev_isi_non false; wtm_at "evw"; decide +kernel)
  | (apply ev_isi_dk true; wtm_at "evw"; decide +kernel)
  | (apply ev_isi_dk false; wtm_at "evw"; decide +kernel)
  | (apply EvO.sc; wtm_at "evf1"; exact rfl))
/-! data that is a scalar: what is not made of scalars -/
local macro_rules | `(tactic| wtm_at "evf1") => `(tactic| first
  | (apply ev_ixT; wtm_at "evf"; wtm_at "evv"; wtm_at "ix")
  | (apply ev_ix; wtm_at "evl"; wtm_at "evv"; wtm_at "ix")
  | (apply ev_ixKT; wtm_at "evf"; wtm_at "evv"; wtm_at "ix")
  | (apply ev_get; wtm_at "evk"; wtm_at "evv"; wtm_at "evf")
  | (apply ev_call; wtm_at "eva"; wtm_at "rr")
  | (apply ev_callW; wtm_at "evaw"; wtm_at "rr"; wtm_at "sd"))
local macro_rules | `(tactic| wtm_at "mu") => `(tactic| first
  | assumption
  | (apply mul_ok_l; omega)
  | (apply mul_ok_r; omega))
local macro_rules | `(tactic| wtm_at "evt") => `(tactic| first
  | exact et_yes
  | (apply et_v; wtm_at "evv")
  | (apply et_b; wtm_at "evv")
  | (apply et_and; wtm_at "evt"; (intro _; wtm_at "evt"))
  | (apply et_or; wtm_at "evt"; (intro _; wtm_at "evt"))
  | (apply et_not; wtm_at "evt"))
/-! a name gets a value, and what follows -/
local macro_rules | `(tactic| wtm_at "ev") => `(tactic| first | wtm_at "evf" | wtm_at "evo")
/-! ### cut -/
def rowAt (p : Prog) (q : Place) : Row := (rowsIn p q.1).getD q.2 (.tell "")
def rowsOf (p : Prog) (ks : List Place) (b : Nat) : List Row := (ks.filter fun q => decide (q.1 = b)).map (rowAt p)
def cutOn (p : Prog) (ks : List Place) : Prog := (List.range p.length).map fun b => (rowsOf p ks b, waysIn p b)
/-- a place at which a row stands -/
def PlOk (p : Prog) (q : Place) : Prop := q.1 < p.length ∧ q.2 < (rowsIn p q.1).length
theorem cutOn_len (p : Prog) (ks : List Place) : (cutOn p ks).length = p.length := by unfold cutOn; rw [List.length_map, List.length_range]
theorem cutOn_at {p : Prog} (ks : List Place) {b : Nat} (h : b < p.length) : (cutOn p ks)[b]? = some (rowsOf p ks b, waysIn p b) := by
  unfold cutOn
  rw [List.getElem?_map, List.getElem?_range h]
  rfl
theorem cutOn_snoc {p : Prog} (ks : List Place) {q : Place} (h : q.1 < p.length) : (cutOn p ks).set q.1 (rowsOf p ks q.1 ++ [rowAt p q], waysIn p q.1) = cutOn p (ks ++ [q]) := by
  apply List.ext_getElem?
  intro b
  by_cases hb : b < p.length
  · rw [cutOn_at _ hb]
    by_cases e : b = q.1
    · subst e
      rw [List.getElem?_set_self (by rw [cutOn_len]; exact hb)]
      unfold rowsOf
      rw [List.filter_append, List.map_append]
      simp
    · rw [List.getElem?_set_ne (fun z => e z.symm), cutOn_at _ hb]
      unfold rowsOf
      rw [List.filter_append]
      have : ¬ q.1 = b := fun z => e z.symm
      simp [this]
  · rw [List.getElem?_eq_none_iff.mpr (by rw [List.length_set, cutOn_len]; omega), List.getElem?_eq_none_iff.mpr (by rw [cutOn_len]; omega)]
theorem rowAt_some {p : Prog} {q : Place} (h : PlOk p q) : (rowsIn p q.1)[q.2]? = some (rowAt p q) := by
  unfold rowAt
  rw [List.getD_eq_getElem?_getD, List.getElem?_eq_getElem h.2]
  rfl
theorem standL_lt {rows : List Row} {behind : List Str} {a : Nat} (h : a ∈ standL rows behind) : a < rows.length := List.mem_range.mp (List.mem_filter.mp h).1
theorem keptL_ok {p : Prog} {q : Place} (h : q ∈ keptL p) : PlOk p q := by
  obtain ⟨l, hl, hq⟩ := List.mem_flatten.mp h
  obtain ⟨b, hb, rfl⟩ := List.mem_map.mp hl
  obtain ⟨a, ha, rfl⟩ := List.mem_map.mp hq
  exact ⟨List.mem_range.mp (List.mem_filter.mp hb).1, standL_lt ha⟩
theorem keptL_len {p : Prog} (h : ∀ k, (rowsIn p k).length ≤ 63) (hl : p.length ≤ 63) : (keptL p).length ≤ 5000 := by
  have h1 := flat_len (m := 63) (f := keptIn p (needOf p)) (fun b => Nat.le_trans (keptIn_len p _ b) (h b)) (reachL p)
  have h2 := reachL_len p
  have : 63 * (reachL p).length ≤ 63 * 63 := Nat.mul_le_mul_left _ (by omega)
  unfold keptL
  omega
theorem rowsOf_len (p : Prog) (ks : List Place) (b : Nat) : (rowsOf p ks b).length ≤ ks.length := by
  unfold rowsOf
  rw [List.length_map]
  exact List.length_filter_le _ _
def R_cut : List D → Sl → Prop := fun ds s => ∃ (pool : List Str) (p : Prog), ds = [en p] ∧ Pk pool p ∧ s = .pg ((cutOn p (keptL p)).map bkOf)
def rd_cut (K : PySem.W.Frag) : TS :=
  (tSeq (tAsg (tLc (iX K (tVar 0)) (gName 3) tYes (tTup (tCons (tLst tNil) (tCons (tCB (rListX K) (tCons (tOp (rIxX K) (tVar 3) (tC (.int 1))) tNil)) tNil))) [3]) (gName 1))
    (tSeq (tFor (iX K (tCall (spF K R_kept) [] E0 (tCons (tVar 0) tNil))) (gName 2) (tDrop (tBM K "list" rAppend (tOp (rIxX K) (tOp (rIxX K) (tVar 1) (tOp (rIxX K) (tVar 2) (tC (.int 0)))) (tC (.int 0))) (tCons (tOp (rIxX K) (tOp (rIxX K) (tOp (rIxX K) (tVar 0) (tOp (rIxX K) (tVar 2) (tC (.int 0)))) (tC (.int 0))) (tOp (rIxX K) (tVar 2) (tC (.int 1)))) tNil))))
    (tRet (tVar 1))))
theorem sv_cut_def {K : PySem.W.Frag} : Keeps K R_cut 4 1 (rd_cut K) := by
  rintro ds s ⟨pool, p, rfl, hk, rfl⟩
  refine ⟨rfl, ?_⟩
  show Sv K (rd_cut K) [.im (en p), .un, .un, .un] _
  unfold rd_cut
  have hlen := hk.len
  have hkl := keptL_len hk.rows hk.len
  refine q_asg (s := .pg ((cutOn p []).map bkOf)) ((ev_pgL (ds := p.map en) (fun d => ([], (bkD d).2)) (by wtm_at "evl") (by rw [List.length_map]; omega) (fun d hd => ?_)).to ?_) ?_
  · obtain ⟨b, hb, rfl⟩ := List.mem_map.mp hd
    obtain ⟨rows, ways⟩ := b
    show EvG K _ [.im (.lst (p.map en)), .un, .un, .im (.tup [.lst (rows.map en), .lst (ways.map en)])] ([], ways.map en)
    exact ev_pair (ds := []) (ev_lst ea_nil (by decide)) (ev_listL (by wtm_at "evl"))
  · rw [List.map_map]
    congr 1
    refine List.ext_getElem (by simp [cutOn_len]) fun i h1 h2 => ?_
    simp only [List.getElem_map, cutOn, List.getElem_range]
    rw [List.length_map] at h1
    have : p[i] = (rowsIn p i, waysIn p i) := Option.some.inj ((List.getElem?_eq_getElem h1).symm.trans (rowsIn_some h1))
    show ([], ((bkD (en p[i])).2 : List D)) = _
    rw [this]
    rfl
  have hok : ∀ q ∈ keptL p, PlOk p q := fun q hq => keptL_ok hq
  have hkept : ∀ Γ : List Sl, Γ[0]? = some (.im (en p)) → EvO K (tCall (spF K R_kept) [] E0 (tCons (tVar 0) tNil)) Γ (.ow (dPls (keptL p))) := fun Γ h => ev_call (ea_cons (evf_var h) ea_nil) ⟨pool, p, rfl, hk, rfl⟩
  generalize keptL p = kl at hkl hok hkept
  refine sv_seq (sv_forL (ds := dPls kl) (fun i Γ => ∃ x y, Γ = [.im (en p), .pg ((cutOn p (kl.take i)).map bkOf), x, y]) (EvO.fixL (hkept _ rfl)) ⟨_, _, rfl⟩ (fun i d Γ' hd hG => ?_) (fun Γ' hG => ?_))
  · obtain ⟨x, y, rfl⟩ := hG
    unfold dPls at hd
    rw [List.getElem?_map] at hd
    obtain ⟨q, hq, rfl⟩ := Option.map_eq_some_iff.mp hd
    have hqo := hok q (List.mem_of_getElem? hq)
    have hrl := rowsOf_len p (kl.take i) q.1
    rw [List.length_take] at hrl
    rw [List.take_add_one, hq]
    show Sv K _ _ ⟨fun Γ => ∃ x y, Γ = [.im (en p), .pg ((cutOn p (kl.take i ++ [q])).map bkOf), x, y], _, fun Γ => ∃ x y, Γ = [.im (en p), .pg ((cutOn p (kl.take i ++ [q])).map bkOf), x, y], _⟩
    rw [← cutOn_snoc _ hqo.1]
    have hb : ((cutOn p (kl.take i)).map bkOf)[q.1]? = some ((rowsOf p (kl.take i) q.1).map en, (waysIn p q.1).map D.int) := by rw [List.getElem?_map, cutOn_at _ hqo.1]; rfl
    have hq0 : ∀ Γ : List Sl, Γ[2]? = some (.im (dPl q)) → EvV K (tOp (rIxX K) (tVar 2) (tC (.int 0))) Γ (.int (q.1 : Int)) := fun Γ h => EvO.sc (ev_ixT (ds := [.int (q.1 : Int), .int (q.2 : Int)]) (evf_var h) evv_c rfl) rfl
    have hq1 : ∀ Γ : List Sl, Γ[2]? = some (.im (dPl q)) → EvV K (tOp (rIxX K) (tVar 2) (tC (.int 1))) Γ (.int (q.2 : Int)) := fun Γ h => EvO.sc (ev_ixT (ds := [.int (q.1 : Int), .int (q.2 : Int)]) (evf_var h) evv_c rfl) rfl
    refine sv_appG (i := 1) (k := q.1) rfl (ev_recv rfl (hq0 _ rfl) (by rw [List.length_map, cutOn_len]; exact hqo.1)) hb (d := en (rowAt p q)) (ev_ix (ds := (rowsIn p q.1).map en) (EvO.l (ev_rows (k := q.1) (evf_var rfl) (hq0 _ rfl) rfl hqo.1)) (hq1 _ rfl) (atI_nat (by rw [List.getElem?_map, rowAt_some hqo]; rfl))) (by rw [List.length_map]; omega) ?_
    rw [show (rowsOf p (kl.take i) q.1).map en ++ [en (rowAt p q)] = (rowsOf p (kl.take i) q.1 ++ [rowAt p q]).map en by rw [List.map_append]; rfl, bk_set]
    exact ⟨_, _, rfl⟩
  · obtain ⟨x, y, rfl⟩ := hG
    rw [show (dPls kl).length = kl.length by unfold dPls; rw [List.length_map], List.take_length]
    exact sv_retP rfl rfl
/-- the name under which the def's promise goes into a law -/
abbrev R_cutD := R_cut
abbrev rd_cutD := rd_cut
theorem sv_cutD {K : PySem.W.Frag} : Keeps K R_cutD 4 1 (rd_cutD K) := sv_cut_def
/-! ### without -/
def leftRows (p : Prog) (ps : List Place) (b : Nat) : List Row := ((List.range (rowsIn p b).length).filter fun a => !decide ((b, a) ∈ ps)).map fun a => rowAt p (b, a)
def withoutP (p : Prog) (ps : List Place) : Prog := (List.range p.length).map fun b => (leftRows p ps b, waysIn p b)
def kT (q : Place) : List Key := [.inl (q.1 : Int), .inl (q.2 : Int)]
theorem kT_inj {q r : Place} : kT q = kT r ↔ q = r := by
  unfold kT
  constructor
  · intro h
    simp only [List.cons.injEq, Sum.inl.injEq, and_true] at h
    obtain ⟨a, b⟩ := q
    obtain ⟨c, d⟩ := r
    simp only [Prod.mk.injEq]
    dsimp only at h
    omega
  · rintro rfl; rfl
def R_without : List D → Sl → Prop := fun ds s => ∃ (p : Prog) (ps : List Place), ds = [en p, .lst (dPls ps)] ∧ ((∀ q ∈ ps, PlOk p q) ∧ Wf p ∧ ps.length ≤ 10000) ∧ s = .pg ((withoutP p ps).map bkOf)
def rd_without (K : PySem.W.Frag) : TS :=
  (tSeq (tAsg tDNewT (gName 2))
    (tSeq (tFor (iX K (tVar 1)) (gName 3) (tSeq (tIfS (tOr (tTest (tOp rLtX (tOp (rIxX K) (tVar 3) (tC (.int 0))) (tC (.int 0)))) (tTest (tOp rGeX (tOp (rIxX K) (tVar 3) (tC (.int 0))) (tCB (rLenX K) (tCons (tVar 0) tNil))))) tNever tNext)
    (tSeq (tIfS (tOr (tTest (tOp rLtX (tOp (rIxX K) (tVar 3) (tC (.int 1))) (tC (.int 0)))) (tTest (tOp rGeX (tOp (rIxX K) (tVar 3) (tC (.int 1))) (tCB (rLenX K) (tCons (tOp (rIxX K) (tOp (rIxX K) (tVar 0) (tOp (rIxX K) (tVar 3) (tC (.int 0)))) (tC (.int 0))) tNil))))) tNever tNext)
    (tAsg (tC (.bl true)) (gSub (tVar 2) (tVar 3) rSetX)))))
    (tSeq (tAsg (tLst tNil) (gName 4))
    (tSeq (tFor (iRng1 (tCons (tCB (rLenX K) (tCons (tVar 0) tNil)) tNil)) (gName 5) (tSeq (tAsg (tOp (rIxX K) (tOp (rIxX K) (tVar 0) (tVar 5)) (tC (.int 0))) (gName 6))
    (tSeq (tAsg (tLc (iRng1 (tCons (tCB (rLenX K) (tCons (tVar 6) tNil)) tNil)) (gName 8) (tTest (tOp (rNiX K) (tTup (tCons (tVar 5) (tCons (tVar 8) tNil))) (tVar 2))) (tOp (rIxX K) (tVar 6) (tVar 8)) [8]) (gName 7))
    (tDrop (tBM K "list" rAppend (tVar 4) (tCons (tTup (tCons (tVar 7) (tCons (tCB (rListX K) (tCons (tOp (rIxX K) (tOp (rIxX K) (tVar 0) (tVar 5)) (tC (.int 1))) tNil)) tNil))) tNil))))))
    (tRet (tVar 4))))))
theorem sv_without {K : PySem.W.Frag} : Keeps K R_without 9 2 (rd_without K) := by
  rintro ds s ⟨p, ps, rfl, ⟨hq, hp, hl⟩, rfl⟩
  refine ⟨rfl, ?_⟩
  show Sv K (rd_without K) [.im (en p), .im (.lst (dPls ps)), .un, .un, .un, .un, .un, .un, .un] _
  unfold rd_without
  have hpl := hp.len
  have hlen : ∀ Γ : List Sl, Γ[0]? = some (.im (en p)) → EvV K (tCB (rLenX K) (tCons (tVar 0) tNil)) Γ (.int p.length) := fun Γ h => ev_lenE (EvO.w (evf_var h))
  refine q_asg (s := .ot []) ev_newT ?_
  refine sv_cut (fun Γ => ∃ kvs x, (∀ q, (vD kvs (kT q)).isSome = decide (q ∈ ps)) ∧ Γ = [.im (en p), .im (.lst (dPls ps)), .ot kvs, x, .un, .un, .un, .un, .un]) ?_ ?_
  · refine sv_forL (ds := dPls ps) (fun i Γ => ∃ kvs x, kvs.length ≤ i ∧ (∀ q, (vD kvs (kT q)).isSome = decide (q ∈ ps.take i)) ∧ Γ = [.im (en p), .im (.lst (dPls ps)), .ot kvs, x, .un, .un, .un, .un, .un]) (evf_var rfl) ⟨[], _, Nat.le_refl _, fun q => by simp [vD_nil], rfl⟩ (fun i d Γ' hd hG => ?_) (fun Γ' hG => ?_)
    · obtain ⟨kvs, x, hkl, hk, rfl⟩ := hG
      unfold dPls at hd
      rw [List.getElem?_map] at hd
      obtain ⟨q, hqi, rfl⟩ := Option.map_eq_some_iff.mp hd
      have hi := (List.getElem?_eq_some_iff.mp hqi).1
      have hqo := hq q (List.mem_of_getElem? hqi)
      have hq0 : ∀ Γ : List Sl, Γ[3]? = some (.im (dPl q)) → EvV K (tOp (rIxX K) (tVar 3) (tC (.int 0))) Γ (.int (q.1 : Int)) := fun Γ h => EvO.sc (ev_ixT (ds := [.int (q.1 : Int), .int (q.2 : Int)]) (evf_var h) evv_c rfl) rfl
      have hq1 : ∀ Γ : List Sl, Γ[3]? = some (.im (dPl q)) → EvV K (tOp (rIxX K) (tVar 3) (tC (.int 1))) Γ (.int (q.2 : Int)) := fun Γ h => EvO.sc (ev_ixT (ds := [.int (q.1 : Int), .int (q.2 : Int)]) (evf_var h) evv_c rfl) rfl
      refine q_when (b := decide ((q.1 : Int) < 0) || decide ((p.length : Int) ≤ (q.1 : Int))) (et_or (et_v (ev_lt (hq0 _ rfl) evv_c)) fun _ => et_v (ev_ge (hq0 _ rfl) (hlen _ rfl))) (fun h => ?_) (fun _ => ?_)
      · have := hqo.1
        simp only [Bool.or_eq_true, decide_eq_true_eq] at h
        omega
      refine q_when (b := decide ((q.2 : Int) < 0) || decide (((rowsIn p q.1).length : Int) ≤ (q.2 : Int))) (et_or (et_v (ev_lt (hq1 _ rfl) evv_c)) fun _ => et_v (ev_ge (hq1 _ rfl) (ev_lenE (EvO.w (ev_rows (k := q.1) (evf_var rfl) (hq0 _ rfl) rfl hqo.1))))) (fun h => ?_) (fun _ => ?_)
      · have := hqo.2
        simp only [Bool.or_eq_true, decide_eq_true_eq] at h
        omega
      refine sv_putT (i := 2) (kk := kT q) rfl (d := .bl true) (EvV.fb evv_c) (evf_var rfl) (by omega) ⟨putD kvs (kT q) (.bl true), _, ?_, fun r => ?_, rfl⟩
      · have := length_putD kvs (kT q) (.bl true)
        omega
      · rw [vD_put, List.take_add_one, hqi]
        by_cases e : r = q
        · subst e; simp
        · have : ¬ kT r = kT q := fun z => e (kT_inj.mp z)
          rw [if_neg this, hk]
          simp [e]
    · obtain ⟨kvs, x, _, hk, rfl⟩ := hG
      refine ⟨kvs, x, fun q => ?_, rfl⟩
      rw [hk, show (dPls ps).length = ps.length by unfold dPls; rw [List.length_map], List.take_length]
  rintro Γ' ⟨kvs, x, hk, rfl⟩
  refine q_asg (s := .pg (((List.range 0).map fun b => (leftRows p ps b, waysIn p b)).map bkOf)) ev_pg0 ?_
  refine sv_seq (sv_forR (n := p.length) (fun i Γ => ∃ y z w v, Γ = [.im (en p), .im (.lst (dPls ps)), .ot kvs, x, .pg (((List.range i).map fun b => (leftRows p ps b, waysIn p b)).map bkOf), y, z, w, v]) (eav_cons (hlen _ rfl) eav_nil) (by omega) ⟨_, _, _, _, rfl⟩ (fun b Γ' hb hG => ?_) (fun Γ' hG => ?_))
  · obtain ⟨y, z, w, v, rfl⟩ := hG
    have hrl := hp.rowsLe b
    refine q_asg (s := .im (en (rowsIn p b))) (ev_rows (k := b) (evf_var rfl) (evv_int rfl) rfl hb) ?_
    refine q_asg (s := .ow ((leftRows p ps b).map en)) ((ev_lcR (n := (rowsIn p b).length) (fun a => !decide ((b, a) ∈ ps)) (fun a => en (rowAt p (b, a))) (eav_cons (ev_lenE (EvO.w (evf_var rfl))) eav_nil) (by omega) (fun a ha => et_v ((ev_niT (k := kT (b, a)) (ev_tup (ds := [.int (b : Int), .int (a : Int)]) (ea_cons (evf_var rfl) (ea_cons (evf_var rfl) ea_nil)) (by simp)) (evm_var rfl)).to (by rw [hk]))) (fun a ha _ => ev_ix (ds := (rowsIn p b).map en) (EvO.l (evf_var rfl)) (evv_int rfl) (atI_nat (by rw [List.getElem?_map, rowAt_some (q := (b, a)) ⟨hb, ha⟩]; rfl)))).to (by unfold leftRows; rw [List.map_map]; rfl)) ?_
    refine sv_movP (i := 4) (j := 7) (by decide) rfl rfl (es := (waysIn p b).map D.int) (ev_listL (EvO.l (ev_ways (k := b) (evf_var rfl) (evv_int rfl) rfl hb))) (by rw [List.length_map, List.length_map, List.length_range]; omega) ?_
    rw [List.range_succ, List.map_append, List.map_append]
    exact ⟨_, _, _, _, rfl⟩
  · obtain ⟨y, z, w, v, rfl⟩ := hG
    exact sv_retP rfl rfl
end Sf

namespace Sf
open PySem PySem.Spec PyProof.Rows L2
/-! short words for evaluation: each closes its goal or fails -/
local macro_rules | `(tactic| wtm_at "sd") => `(tactic| first | assumption | exact trivial | omega | ((with_reducible show List.length _ ≤ _); simp only [List.length_cons, List.length_nil]; omega) | decide | rfl | ((with_reducible show sOk _); (show PyData.strOk _ = true); decide +kernel))
local macro_rules | `(tactic| wtm_at "ix") => `(tactic| first | assumption | exact rfl)
local macro_rules | `(tactic| wtm_at "rr") => `(tactic| assumption)
local macro_rules | `(tactic| wtm_at "evp") => `(tactic| first | exact ep_none | (apply ep_some; wtm_at "evv"))
local macro_rules | `(tactic| wtm_at "evav") => `(tactic| first | exact eav_nil | (apply eav_cons; wtm_at "evv"; wtm_at "evav"))
local macro_rules | `(tactic| wtm_at "eva") => `(tactic| first | exact ea_nil | (apply ea_cons; wtm_at "evf"; wtm_at "eva"))
local macro_rules | `(tactic| wtm_at "evaw") => `(tactic| first | exact eaw_nil | (apply eaw_cons; wtm_at "evw"; wtm_at "evaw"))
local macro_rules | `(tactic| wtm_at "evl") => `(tactic| first | exact evl_var rfl | (apply EvO.l; wtm_at "evf") | (apply EvO.ll; wtm_at "evo"))
local macro_rules | `(tactic| wtm_at "evk") => `(tactic| first | exact evk_var rfl | (apply EvO.k; wtm_at "evf"))
local macro_rules | `(tactic| wtm_at "evm") => `(tactic| first | exact evm_var rfl | (apply EvO.m; wtm_at "evf"))
local macro_rules | `(tactic| wtm_at "evw") => `(tactic| first
  | exact EvL.w (evl_var rfl) | exact EvK.w (evk_var rfl) | exact EvM.w (evm_var rfl)
  | (apply EvO.w; wtm_at "evf")
  | (apply EvL.w; wtm_at "evl"))
/-! what a slot may hold: fixed data -/
local macro_rules | `(tactic| wtm_at "evf") => `(tactic| first
  | exact evf_var rfl
  | (apply ev_ixT; wtm_at "evf"; wtm_at "evv"; wtm_at "ix")
  | (apply ev_ix; wtm_at "evl"; wtm_at "evv"; wtm_at "ix")
  | (apply ev_tup; wtm_at "eva"; wtm_at "sd")
  | (apply EvV.fi; wtm_at "evv")
  | (apply EvV.fs; wtm_at "evv")
  | (apply EvV.fb; wtm_at "evv")
  | (apply EvV.fn; wtm_at "evv")
  | (apply ev_call; wtm_at "eva"; wtm_at "rr")
  | (apply ev_callW; wtm_at "evaw"; wtm_at "rr"; wtm_at "sd")
  | (apply EvO.fixL; wtm_at "evo"))
/-! an owned list, a dict -/
local macro_rules | `(tactic| wtm_at "evo") => `(tactic| first
  | (apply ev_lst; wtm_at "eva"; wtm_at "sd")
  | exact ev_newK | exact ev_newT
  | (apply ev_listL; wtm_at "evl")
  | (apply ev_listT; wtm_at "evf")
  | (apply ev_dict; wtm_at "evk")
  | (apply ev_addL; wtm_at "evl"; wtm_at "evl"; wtm_at "sd")
  | (apply ev_slL; wtm_at "evl"; wtm_at "evp"; wtm_at "evp")
  | (apply ev_call; wtm_at "eva"; wtm_at "rr")
  | (apply ev_callW; wtm_at "evaw"; wtm_at "rr"; wtm_at "sd"))
local macro_rules | `(tactic| wtm_at "evv") => `(tactic| first
  | exact evv_c
  | exact evv_int rfl
  | exact evv_str rfl
  | exact evv_bl rfl
  | exact evv_non rfl
  | (apply ev_add; wtm_at "evv"; wtm_at "evv")
  | (apply ev_cat; wtm_at "evv"; wtm_at "evv"; wtm_at "sd")
  | (apply ev_sub; wtm_at "evv"; wtm_at "evv")
  | (apply ev_mul; wtm_at "evv"; wtm_at "evv"; wtm_at "mu")
  | (apply ev_div; wtm_at "evv"; wtm_at "evv"; wtm_at "sd")
  | (apply ev_mod; wtm_at "evv"; wtm_at "evv"; wtm_at "sd")
  | (apply ev_neg; wtm_at "evv")
  | (apply ev_lt; wtm_at "evv"; wtm_at "evv")
  | (apply ev_le; wtm_at "evv"; wtm_at "evv")
  | (apply ev_gt; wtm_at "evv"; wtm_at "evv")
  | (apply ev_ge; wtm_at "evv"; wtm_at "evv")
  | (apply ev_eqi; wtm_at "evv"; wtm_at "evv")
  | (apply ev_eqs; wtm_at "evv"; wtm_at "evv")
  | (apply ev_nei; wtm_at "evv"; wtm_at "evv")
  | (apply ev_nes; wtm_at "evv"; wtm_at "evv")
  | (apply ev_eqb; wtm_at "evv"; wtm_at "evv")
  | (apply ev_neb; wtm_at "evv"; wtm_at "evv")
  | (apply ev_min; wtm_at "evv"; wtm_at "evv")
  | (apply ev_max; wtm_at "evv"; wtm_at "evv")
  | (apply ev_intb; wtm_at "evv")
  | (apply ev_lens; wtm_at "evv"; wtm_at "sd")
  | (apply ev_lenR; wtm_at "evw")
  | (apply ev_lenW; wtm_at "evw")
  | (apply ev_lenT; wtm_at "evw")
  | (apply ev_ixR; wtm_at "evf"; wtm_at "evv"; wtm_at "ix")
  | (apply ev_ixS; wtm_at "evv"; wtm_at "evv"; wtm_at "sd"; wtm_at "ix")
  | (apply ev_slS; wtm_at "evv"; wtm_at "sd"; wtm_at "evp"; wtm_at "evp")
  | (apply ev_nis; wtm_at "evv"; wtm_at "evv")
  | (apply ev_ins; wtm_at "evv"; wtm_at "evv")
  | (apply ev_inK; wtm_at "evv"; wtm_at "evk")
  | (apply ev_niK; wtm_at "evv"; wtm_at "evk")
  | (apply ev_andV; wtm_at "evv"; (intro _; wtm_at "evv"))
  | (apply ev_orV; wtm_at "evv"; (intro _; wtm_at "evv"))
  | (apply ev_notV; wtm_at "evv")
  | (apply ev_isN; wtm_at "evw")
  | (apply ev_ntN; wtm_at "evw")
  | (apply ev_isi_lst true; wtm_at "evw"; decide +kernel)
  | (apply ev_isi_lst false; wtm_at "evw"; decide +kernel)
  | (apply ev_isi_tup true; wtm_at "evw"; decide +kernel)
  | (apply ev_isi_tup false; wtm_at "evw"; decide +kernel)
  | (apply ev_isi_str true; wtm_at "evw"; decide +kernel)
  | (apply ev_isi_str false; wtm_at "evw"; decide +kernel)
  | (apply ev_isi_int true; wtm_at "evw"; decide +kernel)
  | (apply ev_isi_int false; wtm_at "evw"; decide +kernel)
  | (apply ev_isi_bl true; wtm_at "evw"; decide +kernel)
  | (apply ev_isi_bl false; wtm_at "evw"; decide +kernel)
  | (apply ev_isi_non true; wtm_at "evw"; decide +kernel)
  | (apply ev_isi_non false; wtm_at "evw"; decide +kernel)
  | (apply ev_isi_dk true; wtm_at "evw"; decide +kernel)
  | (apply ev_isi_dk false; wtm_at "evw"; decide +kernel)
  | (apply EvO.sc; wtm_at "evf1"; exact rfl))
/-! data that is a scalar: what is not made of scalars -/
local macro_rules | `(tactic| wtm_at "evf1") => `(tactic| first
  | (apply ev_ixT; wtm_at "evf"; wtm_at "evv"; wtm_at "ix")
  | (apply ev_ix; wtm_at "evl"; wtm_at "evv"; wtm_at "ix")
  | (apply ev_ixKT; wtm_at "evf"; wtm_at "evv"; wtm_at "ix")
  | (apply ev_get; wtm_at "evk"; wtm_at "evv"; wtm_at "evf")
  | (apply ev_call; wtm_at "eva"; wtm_at "rr")
  | (apply ev_callW; wtm_at "evaw"; wtm_at "rr"; wtm_at "sd"))
local macro_rules | `(tactic| wtm_at "mu") => `(tactic| first
  | assumption
  | (apply mul_ok_l; omega)
  | (apply mul_ok_r; omega))
local macro_rules | `(tactic| wtm_at "evt") => `(tactic| first
  | exact et_yes
  | (apply et_v; wtm_at "evv")
  | (apply et_b; wtm_at "evv")
  | (apply et_and; wtm_at "evt"; (intro _; wtm_at "evt"))
  | (apply et_or; wtm_at "evt"; (intro _; wtm_at "evt"))
  | (apply et_not; wtm_at "evt"))
/-! a name gets a value, and what follows -/
local macro_rules | `(tactic| wtm_at "ev") => `(tactic| first | wtm_at "evf" | wtm_at "evo")
/-! ### _law_places, _law_pairs, _law_without_by -/
def placesIn (p : Prog) (b : Nat) : List Place := (List.range (rowsIn p b).length).map fun a => (b, a)
def placesL (p : Prog) : List Place := ((List.range p.length).map (placesIn p)).flatten
theorem dPls_en (l : List Place) : dPls l = l.map en := rfl
theorem placesL_ok {p : Prog} {q : Place} : q ∈ placesL p ↔ PlOk p q := by
  constructor
  · intro h
    obtain ⟨l, hl, hq⟩ := List.mem_flatten.mp h
    obtain ⟨b, hb, rfl⟩ := List.mem_map.mp hl
    obtain ⟨a, ha, rfl⟩ := List.mem_map.mp hq
    exact ⟨List.mem_range.mp hb, List.mem_range.mp ha⟩
  · intro h
    exact List.mem_flatten.mpr ⟨placesIn p q.1, List.mem_map.mpr ⟨q.1, List.mem_range.mpr h.1, rfl⟩, List.mem_map.mpr ⟨q.2, List.mem_range.mpr h.2, rfl⟩⟩
theorem range_get {n i : Nat} (h : i < n) : (List.range n)[i]? = some i := List.getElem?_range h
/-- a program of a size that lists of its places are short -/
structure Pq (p : Prog) : Prop where
  wf : Wf p
  len : p.length ≤ 63
  rows : ∀ k, (rowsIn p k).length ≤ 63
theorem placesIn_len (p : Prog) (b : Nat) : (placesIn p b).length = (rowsIn p b).length := by unfold placesIn; rw [List.length_map, List.length_range]
theorem Pq.places {p : Prog} (h : Pq p) (i : Nat) : (((List.range i).map (placesIn p)).flatten).length ≤ 63 * i := by
  have := flat_len (m := 63) (f := placesIn p) (fun b => by rw [placesIn_len]; exact h.rows b) (List.range i)
  rwa [List.length_range] at this
def R__law_places : List D → Sl → Prop := fun ds s => ∃ p : Prog, ds = [en p] ∧ Pq p ∧ s = .ow (dPls (placesL p))
def rd__law_places (K : PySem.W.Frag) : TS :=
  (tSeq (tAsg (tLst tNil) (gName 1))
    (tSeq (tFor (iRng1 (tCons (tCB (rLenX K) (tCons (tVar 0) tNil)) tNil)) (gName 2) (tFor (iRng1 (tCons (tCB (rLenX K) (tCons (tOp (rIxX K) (tOp (rIxX K) (tVar 0) (tVar 2)) (tC (.int 0))) tNil)) tNil)) (gName 3) (tDrop (tBM K "list" rAppend (tVar 1) (tCons (tTup (tCons (tVar 2) (tCons (tVar 3) tNil))) tNil)))))
    (tRet (tVar 1))))
theorem sv__law_places {K : PySem.W.Frag} : Keeps K R__law_places 4 1 (rd__law_places K) := by
  rintro ds s ⟨p, rfl, hp, rfl⟩
  refine ⟨rfl, ?_⟩
  show Sv K (rd__law_places K) [.im (en p), .un, .un, .un] _
  unfold rd__law_places
  have hl := hp.len
  have hlen : ∀ Γ : List Sl, Γ[0]? = some (.im (en p)) → EvV K (tCB (rLenX K) (tCons (tVar 0) tNil)) Γ (.int p.length) := fun Γ h => ev_lenE (EvO.w (evf_var h))
  refine q_asg (s := .ow (dPls [])) (ev_lst ea_nil (by decide)) ?_
  unfold placesL
  refine sv_seq (sv_forR (n := p.length) (fun i Γ => ∃ x y, Γ = [.im (en p), .ow (dPls ((List.range i).map (placesIn p)).flatten), x, y]) (eav_cons (hlen _ rfl) eav_nil) (by omega) ⟨_, _, rfl⟩ (fun b Γ' hb hG => ?_) (fun Γ' hG => ?_))
  · obtain ⟨x, y, rfl⟩ := hG
    have hrl := hp.rows b
    have hpl := hp.places b
    rw [List.range_succ, List.map_append, List.flatten_append]
    show Sv K _ _ ⟨fun Γ => ∃ x y, Γ = [.im (en p), .ow (dPls (((List.range b).map (placesIn p)).flatten ++ (placesIn p b ++ []))), x, y], _, fun Γ => ∃ x y, Γ = [.im (en p), .ow (dPls (((List.range b).map (placesIn p)).flatten ++ (placesIn p b ++ []))), x, y], _⟩
    rw [List.append_nil]
    generalize ((List.range b).map (placesIn p)).flatten = pre at hpl
    unfold placesIn
    refine sv_forR (n := (rowsIn p b).length) (fun j Γ => ∃ y, Γ = [.im (en p), .ow (dPls (pre ++ (List.range j).map fun a => (b, a))), .im (.int (b : Int)), y]) (eav_cons (ev_lenE (EvO.w (ev_rows (k := b) (evf_var rfl) (evv_int rfl) rfl hb))) eav_nil) (by omega) ⟨_, by simp; rfl⟩ (fun j Γ' hj hG => ?_) (fun Γ' hG => ?_)
    · obtain ⟨y, rfl⟩ := hG
      rw [List.range_succ, List.map_append, ← List.append_assoc]
      refine sv_app (i := 1) rfl (d := dPl (b, j)) (ev_tup (ds := [.int (b : Int), .int (j : Int)]) (ea_cons (evf_var rfl) (ea_cons (evf_var rfl) ea_nil)) (by simp)) (by unfold dPls; rw [List.length_map, List.length_append, List.length_map, List.length_range]; omega) ?_
      rw [show dPls (pre ++ (List.range j).map fun a => (b, a)) ++ [dPl (b, j)] = dPls ((pre ++ (List.range j).map fun a => (b, a)) ++ [(b, j)]) by unfold dPls; rw [List.map_append (l₁ := pre ++ _)]; rfl]
      exact ⟨_, rfl⟩
    · obtain ⟨y, rfl⟩ := hG
      exact ⟨_, _, rfl⟩
  · obtain ⟨x, y, rfl⟩ := hG
    exact sv_retL rfl rfl
def R__law_pairs : List D → Sl → Prop := fun ds s => ∃ ps : List Place, ds = [.lst (dPls ps), .lst (dPls ps)] ∧ ps.length ≤ 40000 ∧ s = .im (.bl true)
def rd__law_pairs (K : PySem.W.Frag) : TS :=
  (tSeq (tIfS (tOr (tNot (tB (tCB (rIsi K) (tCons (tVar 0) (tCons (tC (.ty "list")) tNil))))) (tTest (tOp (rNeX K) (tVar 0) (tVar 1)))) (tRet (tC (.bl false))) tNext)
    (tRet (tCB (rAll K) (tCons (tLc (iX K (tVar 0)) (gName 2) tYes (tAndV (tCB (rIsi K) (tCons (tVar 2) (tCons (tC (.ty "tuple")) tNil))) (tAndV (tCall (spF K R__law_whole) [] E0 (tCons (tOp (rIxX K) (tVar 2) (tC (.int 0))) tNil)) (tCall (spF K R__law_whole) [] E0 (tCons (tOp (rIxX K) (tVar 2) (tC (.int 1))) tNil)))) [2]) tNil))))
theorem sv__law_pairs {K : PySem.W.Frag} : Keeps K R__law_pairs 3 2 (rd__law_pairs K) := by
  rintro ds s ⟨ps, rfl, hl, rfl⟩
  refine ⟨rfl, ?_⟩
  show Sv K (rd__law_pairs K) [.im (.lst (dPls ps)), .im (.lst (dPls ps)), .un] _
  unfold rd__law_pairs
  refine q_when (b := !true || !decide (ps = ps)) (et_or (by wtm_at "evt") fun _ => et_v (ev_ned (a := ps) (b := ps) (EvO.w (evf_var rfl)) (EvO.w (evf_var rfl)))) (fun h => by simp at h) (fun _ => ?_)
  refine sv_ret (s := .im (.bl ((ps.map fun _ => true).all id))) (EvV.fb (ev_all ?_)) (by rw [all_t])
  refine EvO.ll ((ev_lcL (ds := dPls ps) (fun _ => true) (fun _ => .bl true) (EvO.l (evf_var rfl)) (by unfold dPls; rw [List.length_map]; exact hl) (fun _ _ => et_yes) (fun d hd _ => ?_)).to (by rw [filt_true]; unfold dPls; rw [List.map_map, List.map_map]; rfl))
  obtain ⟨q, hq, rfl⟩ := List.mem_map.mp hd
  refine EvV.fb (n := true && (true && true)) (ev_andV ?_ fun _ => ev_andV (EvO.sc (ev_call (ea_cons (ev_ixT (ds := [.int (q.1 : Int), .int (q.2 : Int)]) (evf_var rfl) evv_c rfl) ea_nil) ⟨(q.1 : Int), rfl, rfl⟩) rfl) fun _ => EvO.sc (ev_call (ea_cons (ev_ixT (ds := [.int (q.1 : Int), .int (q.2 : Int)]) (evf_var rfl) evv_c rfl) ea_nil) ⟨(q.2 : Int), rfl, rfl⟩) rfl)
  apply ev_isi_tup true
  · exact EvO.w (d := .tup [.int (q.1 : Int), .int (q.2 : Int)]) (evf_var rfl)
  · decide +kernel
def R__law_without_by : List D → Sl → Prop := fun ds s => ∃ (p : Prog) (ps : List Place), ds = [en p, .lst (dPls ps)] ∧ Wf p ∧ s = .ow ((withoutP p ps).map en)
def rd__law_without_by (K : PySem.W.Frag) : TS :=
  (tSeq (tAsg (tLst tNil) (gName 2))
    (tSeq (tFor (iRng1 (tCons (tCB (rLenX K) (tCons (tVar 0) tNil)) tNil)) (gName 3) (tSeq (tAsg (tOp (rIxX K) (tOp (rIxX K) (tVar 0) (tVar 3)) (tC (.int 0))) (gName 4))
    (tSeq (tAsg (tLc (iRng1 (tCons (tCB (rLenX K) (tCons (tVar 4) tNil)) tNil)) (gName 6) (tTest (tOp (rNiX K) (tTup (tCons (tVar 3) (tCons (tVar 6) tNil))) (tVar 1))) (tOp (rIxX K) (tVar 4) (tVar 6)) [6]) (gName 5))
    (tDrop (tBM K "list" rAppend (tVar 2) (tCons (tTup (tCons (tVar 5) (tCons (tCB (rListX K) (tCons (tOp (rIxX K) (tOp (rIxX K) (tVar 0) (tVar 3)) (tC (.int 1))) tNil)) tNil))) tNil))))))
    (tRet (tVar 2))))
theorem sv__law_without_by {K : PySem.W.Frag} : Keeps K R__law_without_by 7 2 (rd__law_without_by K) := by
  rintro ds s ⟨p, ps, rfl, hp, rfl⟩
  refine ⟨rfl, ?_⟩
  show Sv K (rd__law_without_by K) [.im (en p), .im (.lst (dPls ps)), .un, .un, .un, .un, .un] _
  unfold rd__law_without_by
  have hpl := hp.len
  have hlen : ∀ Γ : List Sl, Γ[0]? = some (.im (en p)) → EvV K (tCB (rLenX K) (tCons (tVar 0) tNil)) Γ (.int p.length) := fun Γ h => ev_lenE (EvO.w (evf_var h))
  refine q_asg (s := .ow (((List.range 0).map fun b => (leftRows p ps b, waysIn p b)).map en)) (show EvO K _ _ (.ow []) from ev_lst ea_nil (by decide)) ?_
  refine sv_seq (sv_forR (n := p.length) (fun i Γ => ∃ y z w v, Γ = [.im (en p), .im (.lst (dPls ps)), .ow (((List.range i).map fun b => (leftRows p ps b, waysIn p b)).map en), y, z, w, v]) (eav_cons (hlen _ rfl) eav_nil) (by omega) ⟨_, _, _, _, rfl⟩ (fun b Γ' hb hG => ?_) (fun Γ' hG => ?_))
  · obtain ⟨y, z, w, v, rfl⟩ := hG
    have hrl := hp.rowsLe b
    refine q_asg (s := .im (en (rowsIn p b))) (ev_rows (k := b) (evf_var rfl) (evv_int rfl) rfl hb) ?_
    refine q_asg (s := .im (en (leftRows p ps b))) ((EvO.fixL (ev_lcR (n := (rowsIn p b).length) (fun a => !decide ((b, a) ∈ ps)) (fun a => en (rowAt p (b, a))) (eav_cons (ev_lenE (EvO.w (evf_var rfl))) eav_nil) (by omega) (fun a ha => et_v ((ev_nid (a := ((b, a) : Place)) (l := ps) (EvO.w (d := .tup [.int (b : Int), .int (a : Int)]) (ev_tup (ea_cons (evf_var rfl) (ea_cons (evf_var rfl) ea_nil)) (by simp))) (EvO.w (evf_var rfl))).to (by congr 2; exact decide_eq_decide.mpr Iff.rfl))) (fun a ha _ => ev_ix (ds := (rowsIn p b).map en) (EvO.l (evf_var rfl)) (evv_int rfl) (atI_nat (by rw [List.getElem?_map, rowAt_some (q := (b, a)) ⟨hb, ha⟩]; rfl))))).to (by unfold leftRows; show Sl.im (D.lst _) = Sl.im (D.lst ((_ : List Row).map en)); rw [List.map_map]; rfl)) ?_
    refine sv_app (i := 2) rfl (d := en (leftRows p ps b, waysIn p b)) (ev_tup (ds := [en (leftRows p ps b), en (waysIn p b)]) (ea_cons (evf_var rfl) (ea_cons (EvO.fixL (ev_listL (EvO.l (ev_ways (k := b) (evf_var rfl) (evv_int rfl) rfl hb)))) ea_nil)) (by simp)) (by rw [List.length_map, List.length_map, List.length_range]; omega) ?_
    rw [List.range_succ, List.map_append, List.map_append]
    exact ⟨_, _, _, _, rfl⟩
  · obtain ⟨y, z, w, v, rfl⟩ := hG
    exact sv_retL rfl rfl
end Sf

namespace Sf
open PySem PySem.Spec PyProof.Rows L2
/-! short words for evaluation: each closes its goal or fails -/
local macro_rules | `(tactic| wtm_at "sd") => `(tactic| first | assumption | exact trivial | omega | ((with_reducible show List.length _ ≤ _); simp only [List.length_cons, List.length_nil]; omega) | decide | rfl | ((with_reducible show sOk _); (show PyData.strOk _ = true); decide +kernel))
local macro_rules | `(tactic| wtm_at "ix") => `(tactic| first | assumption | exact rfl)
local macro_rules | `(tactic| wtm_at "rr") => `(tactic| assumption)
local macro_rules | `(tactic| wtm_at "evp") => `(tactic| first | exact ep_none | (apply ep_some; wtm_at "evv"))
local macro_rules | `(tactic| wtm_at "evav") => `(tactic| first | exact eav_nil | (apply eav_cons; wtm_at "evv"; wtm_at "evav"))
local macro_rules | `(tactic| wtm_at "eva") => `(tactic| first | exact ea_nil | (apply ea_cons; wtm_at "evf"; wtm_at "eva"))
local macro_rules | `(tactic| wtm_at "evaw") => `(tactic| first | exact eaw_nil | (apply eaw_cons; wtm_at "evw"; wtm_at "evaw"))
local macro_rules | `(tactic| wtm_at "evl") => `(tactic| first | exact evl_var rfl | (apply EvO.l; wtm_at "evf") | (apply EvO.ll; wtm_at "evo"))
local macro_rules | `(tactic| wtm_at "evk") => `(tactic| first | exact evk_var rfl | (apply EvO.k; wtm_at "evf"))
local macro_rules | `(tactic| wtm_at "evm") => `(tactic| first | exact evm_var rfl | (apply EvO.m; wtm_at "evf"))
local macro_rules | `(tactic| wtm_at "evw") => `(tactic| first
  | exact EvL.w (evl_var rfl) | exact EvK.w (evk_var rfl) | exact EvM.w (evm_var rfl)
  | (apply EvO.w; wtm_at "evf")
  | (apply EvL.w; wtm_at "evl"))
/-! what a slot may hold: fixed data -/
local macro_rules | `(tactic| wtm_at "evf") => `(tactic| first
  | exact evf_var rfl
  | (apply ev_ixT; wtm_at "evf"; wtm_at "evv"; wtm_at "ix")
  | (apply ev_ix; wtm_at "evl"; wtm_at "evv"; wtm_at "ix")
  | (apply ev_tup; wtm_at "eva"; wtm_at "sd")
  | (apply EvV.fi; wtm_at "evv")
  | (apply EvV.fs; wtm_at "evv")
  | (apply EvV.fb; wtm_at "evv")
  | (apply EvV.fn; wtm_at "evv")
  | (apply ev_call; wtm_at "eva"; wtm_at "rr")
  | (apply ev_callW; wtm_at "evaw"; wtm_at "rr"; wtm_at "sd")
  | (apply EvO.fixL; wtm_at "evo"))
/-! an owned list, a dict -/
local macro_rules | `(tactic| wtm_at "evo") => `(tactic| first
  | (apply ev_lst; wtm_at "eva"; wtm_at "sd")
  | exact ev_newK | exact ev_newT
  | (apply ev_listL; wtm_at "evl")
  | (apply ev_listT; wtm_at "evf")
  | (apply ev_dict; wtm_at "evk")
  | (apply ev_addL; wtm_at "evl"; wtm_at "evl"; wtm_at "sd")
  | (apply ev_slL; wtm_at "evl"; wtm_at "evp"; wtm_at "evp")
  | (apply ev_call; wtm_at "eva"; wtm_at "rr")
  | (apply ev_callW; wtm_at "evaw"; wtm_at "rr"; wtm_at "sd"))
local macro_rules | `(tactic| wtm_at "evv") => `(tactic| first
  | exact evv_c
  | exact evv_int rfl
  | exact evv_str rfl
  | exact evv_bl rfl
  | exact evv_non rfl
  | (apply ev_add; wtm_at "evv"; wtm_at "evv")
  | (apply ev_cat; wtm_at "evv"; wtm_at "evv"; wtm_at "sd")
  | (apply ev_sub; wtm_at "evv"; wtm_at "evv")
  | (apply ev_mul; wtm_at "evv"; wtm_at "evv"; wtm_at "mu")
  | (apply ev_div; wtm_at "evv"; wtm_at "evv"; wtm_at "sd")
  | (apply ev_mod; wtm_at "evv"; wtm_at "evv"; wtm_at "sd")
  | (apply ev_neg; wtm_at "evv")
  | (apply ev_lt; wtm_at "evv"; wtm_at "evv")
  | (apply ev_le; wtm_at "evv"; wtm_at "evv")
  | (apply ev_gt; wtm_at "evv"; wtm_at "evv")
  | (apply ev_ge; wtm_at "evv"; wtm_at "evv")
  | (apply ev_eqi; wtm_at "evv"; wtm_at "evv")
  | (apply ev_eqs; wtm_at "evv"; wtm_at "evv")
  | (apply ev_nei; wtm_at "evv"; wtm_at "evv")
  | (apply ev_nes; wtm_at "evv"; wtm_at "evv")
  | (apply ev_eqb; wtm_at "evv"; wtm_at "evv")
  | (apply ev_neb; wtm_at "evv"; wtm_at "evv")
  | (apply ev_min; wtm_at "evv"; wtm_at "evv")
  | (apply ev_max; wtm_at "evv"; wtm_at "evv")
  | (apply ev_intb; wtm_at "evv")
  | (apply ev_lens; wtm_at "evv"; wtm_at "sd")
  | (apply ev_lenR; wtm_at "evw")
  | (apply ev_lenW; wtm_at "evw")
  | (apply ev_lenT; wtm_at "evw")
  | (apply ev_ixR; wtm_at "evf"; wtm_at "evv"; wtm_at "ix")
  | (apply ev_ixS; wtm_at "evv"; wtm_at "evv"; wtm_at "sd"; wtm_at "ix")
  | (apply ev_slS; wtm_at "evv"; wtm_at "sd"; wtm_at "evp"; wtm_at "evp")
  | (apply ev_nis; wtm_at "evv"; wtm_at "evv")
  | (apply ev_ins; wtm_at "evv"; wtm_at "evv")
  | (apply ev_inK; wtm_at "evv"; wtm_at "evk")
  | (apply ev_niK; wtm_at "evv"; wtm_at "evk")
  | (apply ev_andV; wtm_at "evv"; (intro _; wtm_at "evv"))
  | (apply ev_orV; wtm_at "evv"; (intro _; wtm_at "evv"))
  | (apply ev_notV; wtm_at "evv")
  | (apply ev_isN; wtm_at "evw")
  | (apply ev_ntN; wtm_at "evw")
  | (apply ev_isi_lst true; wtm_at "evw"; decide +kernel)
  | (apply ev_isi_lst false; wtm_at "evw"; decide +kernel)
  | (apply ev_isi_tup true; wtm_at "evw"; decide +kernel)
  | (apply ev_isi_tup false; wtm_at "evw"; decide +kernel)
  | (apply ev_isi_str true; wtm_at "evw"; decide +kernel)
  | (apply ev_isi_str false; wtm_at "evw"; decide +kernel)
  | (apply ev_isi_int true; wtm_at "evw"; decide +kernel)
  | (apply ev_isi_int false; wtm_at "evw"; decide +kernel)
  | (apply ev_isi_bl true; wtm_at "evw"; decide +kernel)
  | (apply ev_isi_bl false; wtm_at "evw"; decide +kernel)
  | (apply ev_isi_non true; wtm_at "evw"; decide +kernel)
  | (apply ev_isi_non false; wtm_at "evw"; decide +kernel)
  | (apply ev_isi_dk true; wtm_at "evw"; decide +kernel)
  | (apply ev_isi_dk false; wtm_at "evw"; decide +kernel)
  | (apply EvO.sc; wtm_at "evf1"; exact rfl))
/-! data that is a scalar: what is not made of scalars -/
local macro_rules | `(tactic| wtm_at "evf1") => `(tactic| first
  | (apply ev_ixT; wtm_at "evf"; wtm_at "evv"; wtm_at "ix")
  | (apply ev_ix; wtm_at "evl"; wtm_at "evv"; wtm_at "ix")
  | (apply ev_ixKT; wtm_at "evf"; wtm_at "evv"; wtm_at "ix")
  | (apply ev_get; wtm_at "evk"; wtm_at "evv"; wtm_at "evf")
  | (apply ev_call; wtm_at "eva"; wtm_at "rr")
  | (apply ev_callW; wtm_at "evaw"; wtm_at "rr"; wtm_at "sd"))
local macro_rules | `(tactic| wtm_at "mu") => `(tactic| first
  | assumption
  | (apply mul_ok_l; omega)
  | (apply mul_ok_r; omega))
local macro_rules | `(tactic| wtm_at "evt") => `(tactic| first
  | exact et_yes
  | (apply et_v; wtm_at "evv")
  | (apply et_b; wtm_at "evv")
  | (apply et_and; wtm_at "evt"; (intro _; wtm_at "evt"))
  | (apply et_or; wtm_at "evt"; (intro _; wtm_at "evt"))
  | (apply et_not; wtm_at "evt"))
/-! a name gets a value, and what follows -/
local macro_rules | `(tactic| wtm_at "ev") => `(tactic| first | wtm_at "evf" | wtm_at "evo")
/-! ### _law_kept_by -/
theorem rev_take_drop {α : Type} (rows : List α) {a : Nat} (h : a < rows.length) : rows.reverse.take (rows.length - 1 - a) = (rows.drop (a + 1)).reverse := by
  rw [List.take_reverse]
  congr 2
  omega
def standsM (rows : List Row) (behind : List Str) (a : Nat) : Row → Bool
  | .tell _ => true
  | .make s _ _ => decide (s ∈ aheadL (rows.drop (a + 1)) behind)
theorem stands_eq (rows : List Row) (behind : List Str) {a : Nat} {r : Row} (h : rows[a]? = some r) : stands rows behind a = standsM rows behind a r := by
  have ha := (List.getElem?_eq_some_iff.mp h).1
  unfold stands
  rw [h]
  cases r with
  | tell s => rfl
  | make s g rs =>
    show decide (s ∈ heldB rows behind (rows.length - 1 - a)) = _
    have : (s ∈ heldB rows behind (rows.length - 1 - a)) ↔ s ∈ aheadL (rows.drop (a + 1)) behind := by
      unfold aheadL
      rw [sortS_mem]
      unfold aheadH heldB
      rw [rev_take_drop rows ha]
    exact decide_eq_decide.mpr this
/-- the blocks seen, in the law's own order -/
theorem seen_turn {p : Prog} (hp : Wf p) (t : Nat) : ∃ b r, (bfsIt p t)[min t ((bfsIt p t).length - 1)]? = some (b, r) ∧ bfsIt p (t + 1) = visitN (waysIn p b) r (bfsIt p t) (waysIn p b).length := by
  have h := bfsIt_bi hp t
  have h0 : 0 < (bfsIt p t).length := (List.getElem?_eq_some_iff.mp h.hd).1
  by_cases ht : t < (bfsIt p t).length
  · obtain ⟨b, r, hb⟩ := bfs_at ht
    exact ⟨b, r, by rw [Nat.min_eq_left (by omega)]; exact hb, bfsIt_succ hb⟩
  · have hl : (bfsIt p t).length - 1 < (bfsIt p t).length := by omega
    obtain ⟨b, r, hb⟩ : ∃ b r, (bfsIt p t)[(bfsIt p t).length - 1]? = some (b, r) := ⟨_, _, List.getElem?_eq_getElem hl⟩
    refine ⟨b, r, by rw [Nat.min_eq_right (by omega)]; exact hb, ?_⟩
    have e1 : bfsIt p (t + 1) = bfsIt p t := bfsIt_stop (by omega) 1
    rw [e1]
    have all : ∀ n, n ≤ (waysIn p b).length → visitN (waysIn p b) r (bfsIt p t) n = bfsIt p t := fun n => by
      induction n with
      | zero => intro _; rfl
      | succ n ih =>
        intro hn
        rw [visitN_succ, ih (by omega), if_pos]
        have hm : (waysIn p b).getD n 0 ∈ waysIn p b := by
          rw [List.getD_eq_getElem?_getD, List.getElem?_eq_getElem (by omega)]
          exact List.getElem_mem _
        obtain ⟨y, hy, e, _⟩ := h.done _ (b, r) (by omega) hb _ hm
        rw [← e]
        exact mem_nodes hy
    exact (all _ (Nat.le_refl _)).symm
def R__law_kept_by : List D → Sl → Prop := fun ds s => ∃ (pool : List Str) (p : Prog), ds = [en p] ∧ Pk pool p ∧ s = .ow (dPls (keptL p))
def rd__law_kept_by (K : PySem.W.Frag) : TS :=
  (tSeq (tAsg (tLst (tCons (tC (.int 0)) tNil)) (gName 1))
    (tSeq (tFor (iRng1 (tCons (tCB (rLenX K) (tCons (tVar 0) tNil)) tNil)) (gName 2) (tFor (iX K (tOp (rIxX K) (tOp (rIxX K) (tVar 0) (tOp (rIxX K) (tVar 1) (tCB rMinX (tCons (tVar 2) (tCons (tOp rSubX (tCB (rLenX K) (tCons (tVar 1) tNil)) (tC (.int 1))) tNil))))) (tC (.int 1)))) (gName 3) (tIfS (tTest (tOp (rNiX K) (tVar 3) (tVar 1))) (tAsg (tOp (rAddX K) (tVar 1) (tLst (tCons (tVar 3) tNil))) (gName 1)) tNext)))
    (tSeq (tAsg (tCall (spF K R__law_needed_by) [] E0 (tCons (tVar 0) tNil)) (gName 4))
    (tSeq (tAsg (tLst tNil) (gName 5))
    (tSeq (tFor (iX K (tCB (rSortX K) (tCons (tVar 1) tNil))) (gName 6) (tSeq (tAsg (tLst tNil) (gName 7))
    (tSeq (tFor (iX K (tOp (rIxX K) (tOp (rIxX K) (tVar 0) (tVar 6)) (tC (.int 1)))) (gName 3) (tAsg (tOp (rAddX K) (tVar 7) (tOp (rIxX K) (tVar 4) (tVar 3))) (gName 7)))
    (tSeq (tAsg (tOp (rIxX K) (tOp (rIxX K) (tVar 0) (tVar 6)) (tC (.int 0))) (gName 8))
    (tFor (iRng1 (tCons (tCB (rLenX K) (tCons (tVar 8) tNil)) tNil)) (gName 9) (tIfS (tOr (tTest (tOp (rEqX K) (tOp (rIxX K) (tOp (rIxX K) (tVar 8) (tVar 9)) (tC (.int 0))) (tC (.str "tell")))) (tTest (tOp (rInX K) (tOp (rIxX K) (tOp (rIxX K) (tVar 8) (tVar 9)) (tC (.int 1))) (tCall (spF K R__law_ahead_by) [] E0 (tCons (tSl (rSlX K) (tVar 8) (tPart (tOp (rAddX K) (tVar 9) (tC (.int 1)))) tNoPart) (tCons (tVar 7) tNil)))))) (tDrop (tBM K "list" rAppend (tVar 5) (tCons (tTup (tCons (tVar 6) (tCons (tVar 9) tNil))) tNil))) tNext))))))
    (tRet (tVar 5)))))))
theorem at_minus (n m : Nat) (h : 0 < m) : (if ((m : Int) - 1) < (n : Int) then ((m : Int) - 1) else (n : Int)) = ((min n (m - 1) : Nat) : Int) := by
  by_cases e : ((m : Int) - 1) < (n : Int)
  · rw [if_pos e]; omega
  · rw [if_neg e]; omega
theorem mem_ints {v : Nat} {l : List Nat} : ((v : Int) ∈ l.map fun n : Nat => (n : Int)) ↔ v ∈ l := by
  constructor
  · intro h
    obtain ⟨x, hx, e⟩ := List.mem_map.mp h
    have : x = v := by omega
    rw [← this]; exact hx
  · intro h
    exact List.mem_map.mpr ⟨v, h, rfl⟩
theorem sv__law_kept_by {K : PySem.W.Frag} : Keeps K R__law_kept_by 10 1 (rd__law_kept_by K) := by
  rintro ds s ⟨pool, p, rfl, hk, rfl⟩
  refine ⟨rfl, ?_⟩
  show Sv K (rd__law_kept_by K) [.im (en p), .un, .un, .un, .un, .un, .un, .un, .un, .un] _
  unfold rd__law_kept_by
  have hP := hk.pn.pool
  have hp := hk.pn.wf
  have hl63 := hk.len
  have hlen : ∀ Γ : List Sl, Γ[0]? = some (.im (en p)) → EvV K (tCB (rLenX K) (tCons (tVar 0) tNil)) Γ (.int p.length) := fun Γ h => ev_lenE (EvO.w (evf_var h))
  have seen_en : ∀ (l : List Nat) (Γ : List Sl), Γ[1]? = some (.ow (intsN l)) → EvW K (tVar 1) Γ (en (l.map fun n : Nat => (n : Int))) := fun l Γ h => by
    have := EvL.w (evl_var (K := K) h)
    rw [intsN_map] at this
    exact this
  refine q_asg (s := .ow (intsN [0])) (by wtm_at "ev") ?_
  refine sv_seq (sv_forR (n := p.length) (fun t Γ => ∃ x y, Γ = [.im (en p), .ow (intsN (nodes (bfsIt p t))), x, y, .un, .un, .un, .un, .un, .un]) (eav_cons (hlen _ rfl) eav_nil) (by omega) ⟨_, _, rfl⟩ (fun t Γ' ht hG => ?_) (fun Γ' hG => ?_))
  · obtain ⟨x, y, rfl⟩ := hG
    obtain ⟨b, r, hb, hnx⟩ := seen_turn hp t
    have hle := bfsIt_le hp t
    have hbi := bfsIt_bi hp t
    have hbm := List.mem_of_getElem? hb
    have hbp := hbi.lt _ hbm
    have hb0 : 0 < (bfsIt p t).length := (List.getElem?_eq_some_iff.mp hbi.hd).1
    have hnl : ((intsN (nodes (bfsIt p t))).length : Int) = (bfsIt p t).length := by rw [len_nodes]
    have hix : atI (intsN (nodes (bfsIt p t))) (if ((intsN (nodes (bfsIt p t))).length : Int) - 1 < (t : Int) then ((intsN (nodes (bfsIt p t))).length : Int) - 1 else (t : Int)) = some (.int (b : Int)) := by
      rw [hnl, at_minus _ _ hb0]
      exact nodes_at hb
    rw [hnx]
    have hvle : ∀ n, n ≤ (waysIn p b).length → (visitN (waysIn p b) r (bfsIt p t) n).length ≤ 2000 := fun n hn => by
      have hw := hp.waysLe b
      have : ∀ n, (visitN (waysIn p b) r (bfsIt p t) n).length ≤ (bfsIt p t).length + n := fun n => by
        induction n with
        | zero => exact Nat.le_refl _
        | succ n ih =>
          rw [visitN_succ]
          split
          · omega
          · rw [List.length_append, List.length_singleton]; omega
      have := this n
      omega
    refine sv_forL (ds := (waysIn p b).map D.int) (fun n Γ => ∃ y, Γ = [.im (en p), .ow (intsN (nodes (visitN (waysIn p b) r (bfsIt p t) n))), .im (.int (t : Int)), y, .un, .un, .un, .un, .un, .un])
      (ev_ways (k := b) (evf_var rfl) (EvO.sc (ev_ix (evl_var rfl) (ev_min (evv_int rfl) (ev_sub (ev_lenW (EvL.w (evl_var rfl))) evv_c)) hix) rfl) rfl hbp) ⟨_, rfl⟩ (fun n d Γ' hd hG => ?_) (fun Γ' hG => ?_)
    · obtain ⟨y, rfl⟩ := hG
      rw [List.getElem?_map] at hd
      obtain ⟨w, hw, rfl⟩ := Option.map_eq_some_iff.mp hd
      have hn := (List.getElem?_eq_some_iff.mp hw).1
      have hwr := hp.way w (List.mem_of_getElem? hw)
      have hvl := hvle n (by omega)
      rw [visitN_succ]
      have hg : (waysIn p b).getD n 0 = w := by rw [List.getD_eq_getElem?_getD, hw]; rfl
      rw [hg]
      obtain ⟨v, hv⟩ : ∃ v : Nat, w = v := ⟨w.toNat, by omega⟩
      subst hv
      rw [show ((v : Int)).toNat = v by omega]
      generalize visitN (waysIn p b) r (bfsIt p t) n = st at hvl
      refine sv_if (b := !decide ((v : Int) ∈ (nodes st).map fun n : Nat => (n : Int))) (et_v (ev_nid (a := (v : Int)) (l := (nodes st).map fun n : Nat => (n : Int)) ((evv_int rfl).w rfl) (seen_en _ _ rfl))) (fun h => ?_) (fun h => ?_)
      · have h := nd_t h
        rw [mem_ints] at h
        rw [if_neg h]
        refine sv_asg (s := .ow (intsN (nodes (st ++ [(v, r ++ [(n : Int)])])))) ((ev_addL (evl_var rfl) (EvO.ll (ev_lst (ea_cons (evf_var rfl) ea_nil) (by simp))) (by rw [len_nodes]; simp; omega)).to (by unfold nodes intsN; rw [List.map_append, List.map_append]; rfl)) ⟨_, rfl⟩
      · have h := nd_f h
        rw [mem_ints] at h
        rw [if_pos h]
        exact sv_next ⟨_, rfl⟩
    · obtain ⟨y, rfl⟩ := hG
      rw [List.length_map]
      exact ⟨_, _, rfl⟩
  obtain ⟨x, y, rfl⟩ := hG
  have hni := need_ni hP
  have h63 : ∀ b, (ndAt (needOf p) b).length ≤ 63 := fun b => Nat.le_trans (hni.up b).le hP.le
  refine q_asg (s := .im (.lst ((needOf p).map fun l => D.lst (dS l)))) (EvO.fixL (ev_call (ea_cons (evf_var rfl) ea_nil) ⟨pool, p, rfl, ⟨hk.pn, by omega⟩, rfl⟩)) ?_
  refine q_asg (s := .ow (dPls [])) (ev_lst ea_nil (by decide)) ?_
  have hsm := hk.small
  have hkl : ∀ b, (keptIn p (needOf p) b).length ≤ 63 := fun b => Nat.le_trans (keptIn_len p _ b) (hk.rows b)
  have hrl := reachL_len p
  unfold keptL
  have hin : ∀ i b, (reachL p)[i]? = some b → b < p.length := fun i b h => List.mem_range.mp (List.mem_filter.mp (List.mem_of_getElem? h)).1
  have hri : sortI ((nodes (bfs p)).map fun n : Nat => (n : Int)) = (reachL p).map fun n : Nat => (n : Int) := sorted_nodes hp
  have hbl : (bfs p).length ≤ 63 := Nat.le_trans (bfs_bi hp).le hl63
  generalize reachL p = rl at hrl hin hri
  generalize needOf p = nd at hni h63 hsm hkl
  have hnl := hni.len
  show Sv K _ [.im (en p), .ow (intsN (nodes (bfs p))), x, y, .im (.lst (nd.map fun l => D.lst (dS l))), .ow (dPls []), .un, .un, .un, .un] _
  refine sv_seq (sv_forL (ds := intsN rl) (fun i Γ => ∃ y s6 s7 s8 s9, Γ = [.im (en p), .ow (intsN (nodes (bfs p))), x, y, .im (.lst (nd.map fun l => D.lst (dS l))), .ow (dPls ((rl.take i).map (keptIn p nd)).flatten), s6, s7, s8, s9])
    (EvO.fixL ((ev_sortI (ns := (nodes (bfs p)).map fun n : Nat => (n : Int)) ((evl_var rfl).to (intsN_map _)) (by unfold nodes; rw [List.length_map, List.length_map]; omega)).to (by rw [hri, ← intsN_map]))) ⟨_, _, _, _, _, rfl⟩ (fun i d Γ' hd hG => ?_) (fun Γ' hG => ?_))
  · obtain ⟨y, s6, s7, s8, s9, rfl⟩ := hG
    unfold intsN at hd
    rw [List.getElem?_map] at hd
    obtain ⟨b, hb, rfl⟩ := Option.map_eq_some_iff.mp hd
    have hbp := hin i b hb
    have hil := (List.getElem?_eq_some_iff.mp hb).1
    rw [take_flat _ _ _ hb]
    have hfl := flat_len hkl (rl.take i)
    rw [List.length_take] at hfl
    generalize ((rl.take i).map (keptIn p nd)).flatten = pre at hfl
    have hpre : pre.length ≤ 5000 := by
      have : 63 * min i rl.length ≤ 63 * 63 := Nat.mul_le_mul_left _ (by omega)
      omega
    have hwl := hp.waysLe b
    have hrb := hk.rows b
    refine q_asg (s := .ow (dS [])) (ev_lst ea_nil (by decide)) ?_
    refine sv_cut (fun Γ => ∃ y, Γ = [.im (en p), .ow (intsN (nodes (bfs p))), x, y, .im (.lst (nd.map fun l => D.lst (dS l))), .ow (dPls pre), .im (.int (b : Int)), .ow (dS (behindOf nd (waysIn p b))), s8, s9]) ?_ ?_
    · refine sv_forL (ds := (waysIn p b).map D.int) (fun j Γ => ∃ y, Γ = [.im (en p), .ow (intsN (nodes (bfs p))), x, y, .im (.lst (nd.map fun l => D.lst (dS l))), .ow (dPls pre), .im (.int (b : Int)), .ow (dS (behindOf nd ((waysIn p b).take j))), s8, s9])
        (ev_ways (k := b) (evf_var rfl) (evv_int rfl) rfl hbp) ⟨_, rfl⟩ (fun j d Γ' hd hG => ?_) (fun Γ' hG => ?_)
      · obtain ⟨y, rfl⟩ := hG
        rw [List.getElem?_map] at hd
        obtain ⟨w, hwi, rfl⟩ := Option.map_eq_some_iff.mp hd
        have hwr := hp.way w (List.mem_of_getElem? hwi)
        obtain ⟨v, hv⟩ : ∃ v : Nat, w = v := ⟨w.toNat, by omega⟩
        subst hv
        rw [behind_take nd _ j hwi, show ((v : Int)).toNat = v by omega]
        have h1 := behind_len h63 ((waysIn p b).take j)
        have h2 := h63 v
        have h3 : ((waysIn p b).take j).length ≤ 1000 := by rw [List.length_take]; omega
        refine sv_asg (s := .ow (dS (behindOf nd ((waysIn p b).take j) ++ ndAt nd v))) ((ev_addL (evl_var rfl) (EvO.l (ev_ix (ds := nd.map fun l => D.lst (dS l)) (EvO.l (evf_var rfl)) (evv_int rfl) (dN_at (by omega)))) (by unfold dS; rw [List.length_map, List.length_map]; omega)).to (by unfold dS; rw [List.map_append])) ⟨_, rfl⟩
      · obtain ⟨y, rfl⟩ := hG
        rw [List.length_map, List.take_length]
        exact ⟨_, rfl⟩
    rintro Γ' ⟨y, rfl⟩
    have hS := hsm b
    refine q_asg (s := .im (en (rowsIn p b))) (ev_rows (k := b) (evf_var rfl) (evv_int rfl) rfl hbp) ?_
    unfold keptIn standL
    generalize behindOf nd (waysIn p b) = bh at hS
    generalize rowsIn p b = rows at hrb hS
    refine sv_forR (n := rows.length) (fun j Γ => ∃ s9, Γ = [.im (en p), .ow (intsN (nodes (bfs p))), x, y, .im (.lst (nd.map fun l => D.lst (dS l))), .ow (dPls (pre ++ ((List.range j).filter (stands rows bh)).map fun a => (b, a))), .im (.int (b : Int)), .ow (dS bh), .im (en rows), s9])
      (eav_cons (ev_lenE (EvO.w (evf_var rfl))) eav_nil) (by omega) ⟨_, by simp; rfl⟩ (fun j Γ' hj hG => ?_) (fun Γ' hG => ?_)
    · obtain ⟨s9, rfl⟩ := hG
      obtain ⟨r, hr⟩ : ∃ r, rows[j]? = some r := ⟨_, List.getElem?_eq_getElem hj⟩
      have hst := stands_eq rows bh hr
      have hx : atI (rows.map en) (j : Int) = some (en r) := atI_nat (by rw [List.getElem?_map, hr]; rfl)
      rw [List.range_succ, List.filter_append, List.map_append, ← List.append_assoc]
      have hfl2 := List.length_filter_le (stands rows bh) (List.range j)
      rw [List.length_range] at hfl2
      generalize hpp : pre ++ ((List.range j).filter (stands rows bh)).map (fun a => (b, a)) = pp
      have hpl : pp.length ≤ 6000 := by rw [← hpp, List.length_append, List.length_map]; omega
      have yes : stands rows bh j = true → dPls (pp ++ ([j].filter (stands rows bh)).map fun a => (b, a)) = dPls pp ++ [dPl (b, j)] := fun h => by
        rw [List.filter_cons_of_pos (by simpa using h)]
        unfold dPls
        rw [List.map_append]
        rfl
      have no : stands rows bh j = false → dPls (pp ++ ([j].filter (stands rows bh)).map fun a => (b, a)) = dPls pp := fun h => by
        rw [List.filter_cons_of_neg (by simp [h])]
        simp
      have cutR : cutD (rows.map en) (some ((j : Int) + 1)) none = (rows.drop (j + 1)).map en := by
        unfold cutD
        rw [show (j : Int) + 1 = ((j + 1 : Nat) : Int) by omega, HT.sIx_none, HT.sIx_nat, Nat.min_eq_left (by rw [List.length_map]; omega), List.map_drop]
        exact List.take_of_length_le (by rw [List.length_drop]; exact Nat.le_refl _)
      have hS2 : Small pool (rows.drop (j + 1)) bh := ⟨hS.le, hS.ok, fun r hr => hS.rows r (List.mem_of_mem_drop hr), hS.behind⟩
      have hdl : (rows.drop (j + 1)).length ≤ 100000 := by rw [List.length_drop]; omega
      have hahead : ∀ Γ : List Sl, Γ[8]? = some (.im (en rows)) → Γ[9]? = some (.im (.int (j : Int))) → Γ[7]? = some (.ow (dS bh)) → EvW K (tCall (spF K R__law_ahead_by) [] E0 (tCons (tSl (rSlX K) (tVar 8) (tPart (tOp (rAddX K) (tVar 9) (tC (.int 1)))) tNoPart) (tCons (tVar 7) tNil))) Γ (en (aheadL (rows.drop (j + 1)) bh)) := fun Γ h8 h9 h7 => by
        have q := EvL.w (EvO.ll (ev_slL (EvO.l (ds := rows.map en) (evf_var (K := K) h8)) (ep_some (ev_add (tb := tC (.int 1)) (n := 1) (evv_int h9) evv_c)) ep_none))
        rw [cutR] at q
        exact EvL.w (EvO.ll (ev_callW (eaw_cons q (eaw_cons (EvL.w (evl_var h7)) eaw_nil)) ⟨pool, rows.drop (j + 1), bh, rfl, ⟨hS2, hdl⟩, rfl⟩ (sc_dS _)))
      cases r with
      | tell s =>
        have hy : stands rows bh j = true := hst
        rw [yes hy]
        refine sv_if (b := decide (("tell" : Str) = "tell") || false) (et_or (et_v (ev_eqs (EvO.sc (ev_ixT (ds := [.str "tell", .str s]) (ev_ix (EvO.l (evf_var rfl)) (evv_int rfl) hx) evv_c rfl) rfl) evv_c)) (fun h => by rw [tell_t] at h; cases h)) (fun _ => ?_) (fun h => by rw [tell_t] at h; cases h)
        exact sv_app (i := 5) rfl (d := dPl (b, j)) (ev_tup (ds := [.int (b : Int), .int (j : Int)]) (ea_cons (evf_var rfl) (ea_cons (evf_var rfl) ea_nil)) (by simp)) (by unfold dPls; rw [List.length_map]; omega) ⟨_, rfl⟩
      | make s g rs =>
        have hst : stands rows bh j = decide (s ∈ aheadL (rows.drop (j + 1)) bh) := hst
        refine sv_if (b := decide (("make" : Str) = "tell") || decide (s ∈ aheadL (rows.drop (j + 1)) bh)) (et_or (et_v (ev_eqs (EvO.sc (ev_ixT (ds := [.str "make", .str s, .str g, .tup (rs.map D.str)]) (ev_ix (EvO.l (evf_var rfl)) (evv_int rfl) hx) evv_c rfl) rfl) evv_c)) (fun _ => et_v (ev_ind (a := s) (l := aheadL (rows.drop (j + 1)) bh) (EvO.w (ev_ixT (ds := [.str "make", .str s, .str g, .tup (rs.map D.str)]) (ev_ix (EvO.l (evf_var rfl)) (evv_int rfl) hx) evv_c rfl)) (hahead _ rfl rfl rfl)))) (fun h => ?_) (fun h => ?_)
        · rw [tell_f, Bool.false_or] at h
          rw [yes (hst.trans h)]
          exact sv_app (i := 5) rfl (d := dPl (b, j)) (ev_tup (ds := [.int (b : Int), .int (j : Int)]) (ea_cons (evf_var rfl) (ea_cons (evf_var rfl) ea_nil)) (by simp)) (by unfold dPls; rw [List.length_map]; omega) ⟨_, rfl⟩
        · rw [tell_f, Bool.false_or] at h
          rw [no (hst.trans h)]
          exact sv_next ⟨_, rfl⟩
    · obtain ⟨s9, rfl⟩ := hG
      exact ⟨_, _, _, _, _, rfl⟩
  · obtain ⟨y, s6, s7, s8, s9, rfl⟩ := hG
    rw [show (intsN rl).length = rl.length by unfold intsN; rw [List.length_map], List.take_length]
    exact sv_retL rfl rfl
end Sf

namespace Sf
open PySem PySem.Spec PyProof.Rows L2
/-! ### rows that do not stand, taken out: plain -/
theorem aheadH_cons (r : Row) (rs : List Row) (b : List Str) : aheadH (r :: rs) b = stepB (aheadH rs b) r := by
  unfold aheadH
  rw [List.reverse_cons, List.foldl_append]
  rfl
/-- the rows that stand -/
def stRows (b : List Str) : List Row → List Row
  | [] => []
  | r :: rs => if standsR (aheadH rs b) r = true then r :: stRows b rs else stRows b rs
/-- rows of which some that do not stand are taken out -/
inductive Thin (b : List Str) : List Row → List Row → Prop
  | nil : Thin b [] []
  | keep {r : Row} {rs rs' : List Row} : Thin b rs rs' → Thin b (r :: rs) (r :: rs')
  | skip {r : Row} {rs rs' : List Row} : standsR (aheadH rs b) r = false → Thin b rs rs' → Thin b (r :: rs) rs'
theorem dead_step {hs : List Str} {r : Row} (h : standsR hs r = false) : stepB hs r = hs := by
  cases r with
  | tell s => cases h
  | make s g rs => exact stepB_out (of_decide_eq_false h)
theorem dead_sub {hs hs' : List Str} {r : Row} (h : standsR hs' r = false) (k : ∀ x ∈ hs, x ∈ hs') : standsR hs r = false := by
  cases r with
  | tell s => cases h
  | make s g rs => exact decide_eq_false fun z => of_decide_eq_false h (k s z)
theorem Thin.ahead {b : List Str} : ∀ {rs rs' : List Row}, Thin b rs rs' → aheadH rs' b = aheadH rs b
  | _, _, .nil => rfl
  | _, _, .keep t => by rw [aheadH_cons, aheadH_cons, t.ahead]
  | _, _, .skip h t => by rw [aheadH_cons, dead_step h, t.ahead]
theorem Thin.rows {b : List Str} : ∀ {rs rs' : List Row}, Thin b rs rs' → stRows b rs' = stRows b rs
  | _, _, .nil => rfl
  | _, _, .keep t => by
    unfold stRows
    rw [t.ahead, t.rows]
  | _, _, .skip (r := r) (rs := rs) h t => by
    rw [t.rows]
    show _ = if standsR (aheadH rs b) r = true then _ else _
    rw [if_neg (by rw [h]; exact Bool.false_ne_true)]
theorem thin_st (b : List Str) : ∀ rs, Thin b rs (stRows b rs)
  | [] => .nil
  | r :: rs => by
    unfold stRows
    by_cases h : standsR (aheadH rs b) r = true
    · rw [if_pos h]; exact .keep (thin_st b rs)
    · rw [if_neg h]; exact .skip (by simpa using h) (thin_st b rs)
theorem mem_heldS {x : Str} {b : List Str} : x ∈ heldS b ↔ x ∈ b := by unfold heldS; rw [mem_adds]; simp
theorem aheadH_nil (b : List Str) : aheadH [] b = heldS b := rfl
theorem aheadH_mono {s t : List Str} (h : ∀ x ∈ s, x ∈ t) : ∀ rs : List Row, ∀ x ∈ aheadH rs s, x ∈ aheadH rs t
  | [] => fun x hx => mem_heldS.mpr (h x (mem_heldS.mp hx))
  | r :: rs => by
    rw [aheadH_cons, aheadH_cons]
    exact step_mono (aheadH_mono h rs) r
/-- what fewer names behind need ahead is needed through the thin rows, too -/
theorem Thin.sub {b : List Str} {s t : List Str} (h1 : ∀ x ∈ s, x ∈ b) (h2 : ∀ x ∈ s, x ∈ t) : ∀ {rs rs' : List Row}, Thin b rs rs' → ∀ x ∈ aheadH rs s, x ∈ aheadH rs' t
  | _, _, .nil => fun x hx => mem_heldS.mpr (h2 x (mem_heldS.mp hx))
  | _, _, .keep th => by
    rw [aheadH_cons, aheadH_cons]
    exact step_mono (th.sub h1 h2) _
  | _, _, .skip (r := r) (rs := rs) h th => by
    rw [aheadH_cons, dead_step (dead_sub h (aheadH_mono h1 rs))]
    exact th.sub h1 h2
theorem ahead_st {b : List Str} {rs : List Row} : ∀ {pre : List Row} {r : Row} {post : List Row}, rs = pre ++ r :: post → True := fun _ => trivial
/-- all rows that are left stand -/
theorem stRows_self (b : List Str) (rs : List Row) : stRows b (stRows b rs) = stRows b rs := (thin_st b rs).rows
/-! programs -/
/-- q is p with rows taken out: in blocks that are reached only such as do not stand -/
structure ThinP (p q : Prog) : Prop where
  len : q.length = p.length
  ways : ∀ b, waysIn q b = waysIn p b
  thin : ∀ b, (distB p b).isSome = true → Thin (behindOf (needOf p) (waysIn p b)) (rowsIn p b) (rowsIn q b)
theorem visit_ways {p q : Prog} (h : ∀ b, waysIn q b = waysIn p b) (st : Bst) (m : Nat) : visit q st m = visit p st m := by
  unfold visit
  cases st[m]? with
  | none => rfl
  | some b => simp only [h]
theorem bfsIt_ways {p q : Prog} (h : ∀ b, waysIn q b = waysIn p b) : ∀ m, bfsIt q m = bfsIt p m
  | 0 => rfl
  | m + 1 => by
    show visit q (bfsIt q m) m = visit p (bfsIt p m) m
    rw [bfsIt_ways h m, visit_ways h]
theorem ThinP.dist {p q : Prog} (h : ThinP p q) (b : Nat) : distB q b = distB p b := by
  unfold distB roadB bfs
  rw [h.len, bfsIt_ways h.ways]
theorem ThinP.reach {p q : Prog} (h : ThinP p q) : reachL q = reachL p := by
  unfold reachL
  rw [h.len]
  exact List.filter_congr fun b _ => by rw [h.dist]
theorem reach_way {p : Prog} (hp : Wf p) {b : Nat} (h : (distB p b).isSome = true) {w : Int} (hw : w ∈ waysIn p b) : (distB p w.toNat).isSome = true := by
  obtain ⟨t, ht⟩ := Option.isSome_iff_exists.mp h
  obtain ⟨d, hd, _⟩ := dist_edge hp ht hw
  rw [hd]
  rfl
theorem reach_lt {p : Prog} (hp : Wf p) {b : Nat} (h : (distB p b).isSome = true) : b < p.length := by
  unfold distB at h
  cases e : roadB p b with
  | none => rw [e] at h; cases h
  | some r => exact roadB_lt hp e
theorem mem_behind {nd : Needs} {ws : List Int} {x : Str} : x ∈ behindOf nd ws ↔ ∃ w ∈ ws, x ∈ ndAt nd w.toNat := by
  unfold behindOf
  constructor
  · intro h
    obtain ⟨l, hl, hx⟩ := List.mem_flatten.mp h
    obtain ⟨w, hw, rfl⟩ := List.mem_map.mp hl
    exact ⟨w, hw, hx⟩
  · rintro ⟨w, hw, hx⟩
    exact List.mem_flatten.mpr ⟨_, List.mem_map.mpr ⟨w, hw, rfl⟩, hx⟩
theorem mem_liveF {p : Prog} {nd : Needs} {b : Nat} {x : Str} : x ∈ liveF p nd b ↔ x ∈ aheadH (rowsIn p b) (behindOf nd (waysIn p b)) := by
  unfold liveF aheadL
  exact sortS_mem
/-- what one pass after the other finds in q, where it is reached, stays within what p needs; and the other way round -/
theorem pass_sub {p : Prog} {G : Nat → Str → Prop} (hp : Wf p) {nd : Needs} (hl : nd.length = p.length) (h : ∀ b, (distB p b).isSome = true → ∀ x ∈ ndAt nd b, G b x)
    (step : ∀ (md : Needs), (∀ b, (distB p b).isSome = true → ∀ x ∈ ndAt md b, G b x) → ∀ b, (distB p b).isSome = true → ∀ x ∈ liveF p md b, G b x) :
    ∀ k, k ≤ p.length → (passN p nd k).length = p.length ∧ ∀ b, (distB p b).isSome = true → ∀ x ∈ ndAt (passN p nd k) b, G b x
  | 0, _ => ⟨hl, h⟩
  | k + 1, hk => by
    obtain ⟨i1, i2⟩ := pass_sub hp hl h step k (by omega)
    refine ⟨by show ((passN p nd k).set _ _).length = _; rw [List.length_set, i1], fun b hb x hx => ?_⟩
    have hx2 : x ∈ ndAt ((passN p nd k).set (p.length - 1 - k) (liveF p (passN p nd k) (p.length - 1 - k))) b := hx
    clear hx
    rw [ndAt_set (by rw [i1]; omega)] at hx2
    split at hx2
    · rename_i e
      subst e
      exact step _ i2 _ hb x hx2
    · exact i2 b hb x hx2
theorem round_sub {p : Prog} {G : Nat → Str → Prop} (hp : Wf p) (step : ∀ (md : Needs), (∀ b, (distB p b).isSome = true → ∀ x ∈ ndAt md b, G b x) → ∀ b, (distB p b).isSome = true → ∀ x ∈ liveF p md b, G b x) :
    ∀ n, (roundN p n).length = p.length ∧ ∀ b, (distB p b).isSome = true → ∀ x ∈ ndAt (roundN p n) b, G b x
  | 0 => ⟨by show (nd0 p).length = _; unfold nd0; rw [List.length_map], fun b _ x hx => by
    have : ndAt (nd0 p) b = [] := by
      unfold ndAt nd0
      rw [List.getElem?_map]
      cases p[b]? <;> rfl
    rw [show roundN p 0 = nd0 p from rfl, this] at hx
    cases hx⟩
  | n + 1 => by
    obtain ⟨i1, i2⟩ := round_sub hp step n
    exact pass_sub hp i1 i2 step _ (Nat.le_refl _)
section
variable {pool pool' : List Str} {p q : Prog}
/-- the needs of both, where it is reached -/
theorem ThinP.needs (h : ThinP p q) (hP : Pool pool p) (hp : Wf p) (hQ : Pool pool' q) (hq : Wf q) : ∀ b, (distB p b).isSome = true → ndAt (needOf q) b = ndAt (needOf p) b := by
  -- q's within p's
  have s1 : ∀ b, (distB p b).isSome = true → ∀ x ∈ ndAt (needOf q) b, x ∈ ndAt (needOf p) b := by
    have := (round_sub (p := q) (G := fun b x => x ∈ ndAt (needOf p) b) hq (fun md hmd b hb x hx => ?_) (63 * q.length + 1)).2
    · intro b hb x hx
      exact this b (by rw [h.dist]; exact hb) x hx
    · have hb' : (distB p b).isSome = true := by rw [← h.dist]; exact hb
      rw [need_live hP (reach_lt hp hb'), mem_liveF]
      rw [mem_liveF, h.ways] at hx
      rw [← (h.thin b hb').ahead]
      refine aheadH_mono (fun y hy => ?_) _ x hx
      obtain ⟨w, hw, hy⟩ := mem_behind.mp hy
      exact mem_behind.mpr ⟨w, hw, hmd w.toNat (by rw [h.dist]; exact reach_way hp hb' hw) y hy⟩
  have s2 : ∀ b, (distB p b).isSome = true → ∀ x ∈ ndAt (needOf p) b, x ∈ ndAt (needOf q) b ∧ x ∈ ndAt (needOf p) b := by
    refine (round_sub (p := p) (G := fun b x => x ∈ ndAt (needOf q) b ∧ x ∈ ndAt (needOf p) b) hp (fun md hmd b hb x hx => ?_) (63 * p.length + 1)).2
    have hbp := reach_lt hp hb
    rw [need_live hP hbp, mem_liveF, need_live hQ (by rw [h.len]; exact hbp), mem_liveF, h.ways]
    rw [mem_liveF] at hx
    have a1 : ∀ y ∈ behindOf md (waysIn p b), y ∈ behindOf (needOf p) (waysIn p b) := fun y hy => by
      obtain ⟨w, hw, hy⟩ := mem_behind.mp hy
      exact mem_behind.mpr ⟨w, hw, (hmd w.toNat (reach_way hp hb hw) y hy).2⟩
    have a2 : ∀ y ∈ behindOf md (waysIn p b), y ∈ behindOf (needOf q) (waysIn p b) := fun y hy => by
      obtain ⟨w, hw, hy⟩ := mem_behind.mp hy
      exact mem_behind.mpr ⟨w, hw, (hmd w.toNat (reach_way hp hb hw) y hy).1⟩
    exact ⟨(h.thin b hb).sub a1 a2 x hx, aheadH_mono a1 _ x hx⟩
  intro b hb
  have u1 := (need_ni hP).up b
  have u2 := (need_ni hQ).up b
  refine str_up_unique ?_ u2.2.2 u1.2.2
  exact (List.perm_ext_iff_of_nodup u2.1 u1.1).mpr fun x => ⟨s1 b hb x, fun hx => (s2 b hb x hx).1⟩
theorem ThinP.behind (h : ThinP p q) (hP : Pool pool p) (hp : Wf p) (hQ : Pool pool' q) (hq : Wf q) {b : Nat} (hb : (distB p b).isSome = true) : behindOf (needOf q) (waysIn q b) = behindOf (needOf p) (waysIn p b) := by
  rw [h.ways]
  unfold behindOf
  congr 1
  refine List.map_congr_left fun w hw => ?_
  exact h.needs hP hp hQ hq _ (reach_way hp hb hw)
end
end Sf

namespace Sf
open PySem PySem.Spec PyProof.Rows L2
/-! ### the cut, and programs without some rows, as thin programs -/
def maskRows (rows : List Row) (m : Nat → Bool) : List Row := ((List.range rows.length).filter m).map fun a => rows.getD a (.tell "")
theorem maskRows_cons (r : Row) (rs : List Row) (m : Nat → Bool) : maskRows (r :: rs) m = (if m 0 = true then [r] else []) ++ maskRows rs fun a => m (a + 1) := by
  unfold maskRows
  rw [List.length_cons, List.range_succ_eq_map, List.filter_cons]
  have e : ((List.map Nat.succ (List.range rs.length)).filter m).map (fun a => (r :: rs).getD a (.tell "")) = ((List.range rs.length).filter fun a => m (a + 1)).map fun a => rs.getD a (.tell "") := by
    rw [List.filter_map, List.map_map]
    rfl
  by_cases h : m 0 = true
  · rw [if_pos h, if_pos h, List.map_cons, e]
    rfl
  · rw [if_neg h, if_neg h, e]
    rfl
theorem maskRows_congr {rows : List Row} {m m' : Nat → Bool} (h : ∀ a, a < rows.length → m a = m' a) : maskRows rows m = maskRows rows m' := by
  unfold maskRows
  rw [List.filter_congr fun a ha => h a (List.mem_range.mp ha)]
theorem stands_drop (rows : List Row) (b : List Str) {a : Nat} {r : Row} (h : rows[a]? = some r) : stands rows b a = standsR (aheadH (rows.drop (a + 1)) b) r := by
  have ha := (List.getElem?_eq_some_iff.mp h).1
  unfold stands
  rw [h]
  show standsR (heldB rows b (rows.length - 1 - a)) r = _
  unfold heldB aheadH
  rw [List.take_reverse]
  congr 4
  omega
theorem stands_zero (r : Row) (rs : List Row) (b : List Str) : stands (r :: rs) b 0 = standsR (aheadH rs b) r := stands_drop (r :: rs) b rfl
theorem stands_succ (r : Row) (rs : List Row) (b : List Str) (a : Nat) : stands (r :: rs) b (a + 1) = stands rs b a := by
  cases h : rs[a]? with
  | none =>
    unfold stands
    rw [show (r :: rs)[a + 1]? = rs[a]? from rfl, h]
  | some x => rw [stands_drop (r :: rs) b (show (r :: rs)[a + 1]? = some x from h), stands_drop rs b h]; rfl
theorem mask_st (b : List Str) : ∀ rows : List Row, maskRows rows (stands rows b) = stRows b rows
  | [] => rfl
  | r :: rs => by
    rw [maskRows_cons, stands_zero]
    have : (fun a => stands (r :: rs) b (a + 1)) = stands rs b := funext fun a => stands_succ r rs b a
    rw [this, mask_st b rs]
    show _ = if standsR (aheadH rs b) r = true then r :: stRows b rs else stRows b rs
    by_cases h : standsR (aheadH rs b) r = true
    · rw [if_pos h, if_pos h]; rfl
    · rw [if_neg h, if_neg h]; rfl
/-- rows left by a mask that takes out only such as do not stand -/
theorem mask_thin (b : List Str) : ∀ (rows : List Row) (m : Nat → Bool), (∀ a, a < rows.length → m a = false → stands rows b a = false) → Thin b rows (maskRows rows m)
  | [], _, _ => .nil
  | r :: rs, m, h => by
    rw [maskRows_cons]
    have ih := mask_thin b rs (fun a => m (a + 1)) fun a ha hm => by
      have := h (a + 1) (by rw [List.length_cons]; omega) hm
      rwa [stands_succ] at this
    by_cases e : m 0 = true
    · rw [if_pos e]; exact .keep ih
    · rw [if_neg e]
      refine .skip ?_ ih
      have := h 0 (by rw [List.length_cons]; omega) (by simpa using e)
      rwa [stands_zero] at this
theorem filt_flat {f : Nat → List Place} (hf : ∀ c, ∀ q ∈ f c, q.1 = c) (b : Nat) : ∀ l : List Nat, l.Nodup → ((l.map f).flatten).filter (fun q => decide (q.1 = b)) = if b ∈ l then f b else []
  | [], _ => by simp
  | c :: l, nd => by
    rw [List.nodup_cons] at nd
    rw [List.map_cons, List.flatten_cons, List.filter_append, filt_flat hf b l nd.2]
    by_cases e : c = b
    · subst e
      have : (f c).filter (fun q => decide (q.1 = c)) = f c := List.filter_eq_self.mpr fun q hq => decide_eq_true (hf c q hq)
      rw [this]
      simp [nd.1]
    · have : (f c).filter (fun q => decide (q.1 = b)) = [] := List.filter_eq_nil_iff.mpr fun q hq => by
        have := hf c q hq
        simp [this, e]
      rw [this]
      have : ¬ b = c := fun z => e z.symm
      simp [this]
theorem keptIn_fst (p : Prog) (nd : Needs) (c : Nat) : ∀ q ∈ keptIn p nd c, q.1 = c := fun q hq => by
  obtain ⟨a, _, rfl⟩ := List.mem_map.mp hq
  rfl
theorem reachL_nd (p : Prog) : (reachL p).Nodup := (List.nodup_range).filter _
theorem mem_reachL {p : Prog} (hp : Wf p) {b : Nat} : b ∈ reachL p ↔ (distB p b).isSome = true := by
  unfold reachL
  rw [List.mem_filter, List.mem_range]
  exact ⟨fun h => h.2, fun h => ⟨reach_lt hp h, h⟩⟩
def bhP (p : Prog) (b : Nat) : List Str := behindOf (needOf p) (waysIn p b)
theorem cut_rows {p : Prog} (hp : Wf p) (b : Nat) : rowsOf p (keptL p) b = if (distB p b).isSome = true then stRows (bhP p b) (rowsIn p b) else [] := by
  unfold rowsOf keptL
  rw [filt_flat (keptIn_fst p _) b _ (reachL_nd p)]
  by_cases h : (distB p b).isSome = true
  · rw [if_pos ((mem_reachL hp).mpr h), if_pos h, ← mask_st]
    unfold keptIn standL maskRows
    rw [List.map_map]
    rfl
  · rw [if_neg fun z => h ((mem_reachL hp).mp z), if_neg h]
    rfl
def cutP (p : Prog) : Prog := cutOn p (keptL p)
theorem rowsIn_at {p : Prog} {b : Nat} {x : Block} (h : p[b]? = some x) : rowsIn p b = x.1 ∧ waysIn p b = x.2 := by
  unfold rowsIn waysIn
  rw [h]
  exact ⟨rfl, rfl⟩
theorem out_rows {p : Prog} {b : Nat} (h : ¬ b < p.length) : rowsIn p b = [] ∧ waysIn p b = [] := by
  unfold rowsIn waysIn
  rw [List.getElem?_eq_none_iff.mpr (by omega)]
  exact ⟨rfl, rfl⟩
theorem cutOn_ways (p : Prog) (ks : List Place) (b : Nat) : waysIn (cutOn p ks) b = waysIn p b := by
  by_cases h : b < p.length
  · exact (rowsIn_at (cutOn_at ks h)).2
  · rw [(out_rows h).2, (out_rows (p := cutOn p ks) (by rw [cutOn_len]; exact h)).2]
theorem cutOn_rows {p : Prog} (ks : List Place) {b : Nat} (h : b < p.length) : rowsIn (cutOn p ks) b = rowsOf p ks b := (rowsIn_at (cutOn_at ks h)).1
theorem cutP_rows {p : Prog} (hp : Wf p) (b : Nat) : rowsIn (cutP p) b = if (distB p b).isSome = true then stRows (bhP p b) (rowsIn p b) else [] := by
  by_cases h : b < p.length
  · unfold cutP
    rw [cutOn_rows _ h, cut_rows hp]
  · rw [(out_rows (p := cutP p) (by unfold cutP; rw [cutOn_len]; exact h)).1, if_neg fun z => h (reach_lt hp z)]
theorem cutP_thin {p : Prog} (hp : Wf p) : ThinP p (cutP p) where
  len := cutOn_len p _
  ways := cutOn_ways p _
  thin := fun b hb => by
    rw [cutP_rows hp, if_pos hb]
    exact thin_st _ _
theorem withoutP_len (p : Prog) (ps : List Place) : (withoutP p ps).length = p.length := by unfold withoutP; rw [List.length_map, List.length_range]
theorem withoutP_at {p : Prog} (ps : List Place) {b : Nat} (h : b < p.length) : (withoutP p ps)[b]? = some (leftRows p ps b, waysIn p b) := by
  unfold withoutP
  rw [List.getElem?_map, List.getElem?_range h]
  rfl
theorem withoutP_ways (p : Prog) (ps : List Place) (b : Nat) : waysIn (withoutP p ps) b = waysIn p b := by
  by_cases h : b < p.length
  · exact (rowsIn_at (withoutP_at ps h)).2
  · rw [(out_rows h).2, (out_rows (p := withoutP p ps) (by rw [withoutP_len]; exact h)).2]
theorem leftRows_mask (p : Prog) (ps : List Place) (b : Nat) : leftRows p ps b = maskRows (rowsIn p b) fun a => !decide ((b, a) ∈ ps) := rfl
theorem withoutP_rows {p : Prog} (ps : List Place) {b : Nat} (h : b < p.length) : rowsIn (withoutP p ps) b = leftRows p ps b := (rowsIn_at (withoutP_at ps h)).1
theorem withoutP_thin {p : Prog} (hp : Wf p) {ps : List Place} (h : ∀ q ∈ ps, ¬ q ∈ keptL p) : ThinP p (withoutP p ps) where
  len := withoutP_len p ps
  ways := withoutP_ways p ps
  thin := fun b hb => by
    rw [withoutP_rows ps (reach_lt hp hb), leftRows_mask]
    refine mask_thin _ _ _ fun a ha hm => ?_
    have hm : (b, a) ∈ ps := by simpa using hm
    cases e : stands (rowsIn p b) (behindOf (needOf p) (waysIn p b)) a with
    | false => rfl
    | true =>
      refine absurd ?_ (h _ hm)
      unfold keptL
      refine List.mem_flatten.mpr ⟨keptIn p (needOf p) b, List.mem_map.mpr ⟨b, (mem_reachL hp).mpr hb, rfl⟩, List.mem_map.mpr ⟨a, List.mem_filter.mpr ⟨List.mem_range.mpr ha, e⟩, rfl⟩⟩
/-- a thin program has the same cut -/
theorem ThinP.cut {pool pool' : List Str} {p q : Prog} (h : ThinP p q) (hP : Pool pool p) (hp : Wf p) (hQ : Pool pool' q) (hq : Wf q) : cutP q = cutP p := by
  apply List.ext_getElem?
  intro b
  by_cases hb : b < p.length
  · unfold cutP
    rw [cutOn_at _ (by rw [h.len]; exact hb), cutOn_at _ hb, h.ways, cut_rows hq, cut_rows hp, h.dist]
    by_cases hd : (distB p b).isSome = true
    · rw [if_pos hd, if_pos hd]
      unfold bhP
      rw [h.behind hP hp hQ hq hd, (h.thin b hd).rows]
    · rw [if_neg hd, if_neg hd]
  · rw [List.getElem?_eq_none_iff.mpr (by unfold cutP; rw [cutOn_len, h.len]; omega), List.getElem?_eq_none_iff.mpr (by unfold cutP; rw [cutOn_len]; omega)]
end Sf

namespace Sf
open PySem PySem.Spec PyProof.Rows L2
/-! ### programs with fewer rows keep to all bounds -/
structure SubP (p q : Prog) : Prop where
  len : q.length = p.length
  ways : ∀ b, waysIn q b = waysIn p b
  mem : ∀ b, ∀ r ∈ rowsIn q b, r ∈ rowsIn p b
  le : ∀ b, (rowsIn q b).length ≤ (rowsIn p b).length
theorem blk_in {p : Prog} {b : Block} (h : b ∈ p) : ∃ i, i < p.length ∧ b = (rowsIn p i, waysIn p i) := by
  obtain ⟨i, hi⟩ := List.mem_iff_getElem?.mp h
  have hl := (List.getElem?_eq_some_iff.mp hi).1
  refine ⟨i, hl, ?_⟩
  have := rowsIn_some hl
  rw [hi] at this
  exact Option.some.inj this
theorem SubP.wf {p q : Prog} (h : SubP p q) (hp : Wf p) : Wf q := by
  refine ⟨by rw [h.len]; exact hp.pos, by rw [h.len]; exact hp.len, fun b hb => ?_, fun b hb => ?_, fun b hb w hw => ?_, fun b hb r hr => ?_⟩
  · obtain ⟨i, _, rfl⟩ := blk_in hb
    exact Nat.le_trans (h.le i) (hp.rowsLe i)
  · obtain ⟨i, _, rfl⟩ := blk_in hb
    show (waysIn q i).length ≤ 1000
    rw [h.ways]; exact hp.waysLe i
  · obtain ⟨i, _, rfl⟩ := blk_in hb
    rw [h.len]
    have hw : w ∈ waysIn q i := hw
    rw [h.ways] at hw
    exact hp.way w hw
  · obtain ⟨i, _, rfl⟩ := blk_in hb
    exact hp.rowsRd r (h.mem i r hr)
theorem SubP.pool {pool : List Str} {p q : Prog} (h : SubP p q) (hp : Pool pool p) : Pool pool q := by
  refine ⟨hp.le, hp.ok, fun b hb r hr => ?_⟩
  obtain ⟨i, _, rfl⟩ := blk_in hb
  exact hp.rowsIn r (h.mem i r hr)
theorem SubP.pk {pool : List Str} {p q : Prog} (h : SubP p q) (hp : Pk pool p) : Pk pool q := ⟨⟨h.pool hp.pn.pool, h.wf hp.pn.wf⟩, by rw [h.len]; exact hp.len, fun k => Nat.le_trans (h.le k) (hp.rows k)⟩
theorem stRows_mem (b : List Str) : ∀ rows : List Row, (∀ r ∈ stRows b rows, r ∈ rows) ∧ (stRows b rows).length ≤ rows.length
  | [] => ⟨fun _ h => h, Nat.le_refl _⟩
  | x :: rs => by
    obtain ⟨i1, i2⟩ := stRows_mem b rs
    have e : stRows b (x :: rs) = if standsR (aheadH rs b) x = true then x :: stRows b rs else stRows b rs := rfl
    rw [e]
    split
    · refine ⟨fun r hr => ?_, by rw [List.length_cons, List.length_cons]; omega⟩
      rcases List.mem_cons.mp hr with rfl | hr
      · exact List.mem_cons_self
      · exact List.mem_cons_of_mem _ (i1 r hr)
    · exact ⟨fun r hr => List.mem_cons_of_mem _ (i1 r hr), by rw [List.length_cons]; omega⟩
theorem cutP_sub {p : Prog} (hp : Wf p) : SubP p (cutP p) := by
  refine ⟨cutOn_len p _, cutOn_ways p _, fun b r hr => ?_, fun b => ?_⟩
  · rw [cutP_rows hp] at hr
    split at hr
    · exact (stRows_mem _ _).1 r hr
    · cases hr
  · rw [cutP_rows hp]
    split
    · exact (stRows_mem _ _).2
    · exact Nat.zero_le _
theorem mask_mem (rows : List Row) (m : Nat → Bool) : (∀ r ∈ maskRows rows m, r ∈ rows) ∧ (maskRows rows m).length ≤ rows.length := by
  constructor
  · intro r hr
    obtain ⟨a, ha, rfl⟩ := List.mem_map.mp hr
    have ha := List.mem_range.mp (List.mem_filter.mp ha).1
    rw [List.getD_eq_getElem?_getD, List.getElem?_eq_getElem ha]
    exact List.getElem_mem ha
  · unfold maskRows
    rw [List.length_map]
    have := List.length_filter_le m (List.range rows.length)
    rwa [List.length_range] at this
theorem withoutP_sub (p : Prog) (ps : List Place) : SubP p (withoutP p ps) := by
  have key : ∀ b, rowsIn (withoutP p ps) b = maskRows (rowsIn p b) fun a => !decide ((b, a) ∈ ps) := fun b => by
    by_cases h : b < p.length
    · rw [withoutP_rows ps h, leftRows_mask]
    · rw [(out_rows (p := withoutP p ps) (by rw [withoutP_len]; exact h)).1, (out_rows h).1]
      rfl
  exact ⟨withoutP_len p ps, withoutP_ways p ps, fun b r hr => by rw [key] at hr; exact (mask_mem _ _).1 r hr, fun b => by rw [key]; exact (mask_mem _ _).2⟩
/-! every row of a cut stands in it -/
theorem st_all (b : List Str) : ∀ (rows : List Row), stRows b rows = rows → ∀ a, a < rows.length → stands rows b a = true
  | [], _, a, ha => absurd ha (by simp)
  | r :: rs, h, a, ha => by
    have e : stRows b (r :: rs) = if standsR (aheadH rs b) r = true then r :: stRows b rs else stRows b rs := rfl
    rw [e] at h
    split at h
    · rename_i hr
      have h2 : stRows b rs = rs := (List.cons.inj h).2
      cases a with
      | zero => rw [stands_zero]; exact hr
      | succ a =>
        rw [stands_succ]
        exact st_all b rs h2 a (by simpa using ha)
    · have := (stRows_mem b rs).2
      rw [h, List.length_cons] at this
      omega
theorem cut_cut {pool : List Str} {p : Prog} (hk : Pk pool p) : cutP (cutP p) = cutP p :=
  (cutP_thin hk.pn.wf).cut hk.pn.pool hk.pn.wf ((cutP_sub hk.pn.wf).pool hk.pn.pool) ((cutP_sub hk.pn.wf).wf hk.pn.wf)
theorem flat_filter {f g : Nat → List Place} {l : List Nat} {m : Nat → Bool} (h1 : ∀ b ∈ l, m b = true → f b = g b) (h2 : ∀ b ∈ l, m b = false → g b = []) : ((l.filter m).map f).flatten = (l.map g).flatten := by
  induction l with
  | nil => rfl
  | cons b r ih =>
    have ih := ih (fun x hx => h1 x (List.mem_cons_of_mem _ hx)) (fun x hx => h2 x (List.mem_cons_of_mem _ hx))
    cases e : m b with
    | true =>
      rw [List.filter_cons_of_pos (by simpa using e), List.map_cons, List.map_cons, List.flatten_cons, List.flatten_cons, ih, h1 b List.mem_cons_self e]
    | false =>
      rw [List.filter_cons_of_neg (by simp [e]), List.map_cons, List.flatten_cons, ih, h2 b List.mem_cons_self e]
      rfl
theorem cut_kept {pool : List Str} {p : Prog} (hk : Pk pool p) : keptL (cutP p) = placesL (cutP p) := by
  have hp := hk.pn.wf
  have hS := cutP_sub hp
  have hT := cutP_thin hp
  unfold keptL placesL reachL
  refine flat_filter (fun b hb hd => ?_) (fun b hb hd => ?_)
  · have hd' : (distB p b).isSome = true := by rw [← hT.dist]; exact hd
    have e : stRows (behindOf (needOf (cutP p)) (waysIn (cutP p) b)) (rowsIn (cutP p) b) = rowsIn (cutP p) b := by
      rw [hT.behind hk.pn.pool hp (hS.pool hk.pn.pool) (hS.wf hp) hd', cutP_rows hp, if_pos hd']
      exact stRows_self _ _
    unfold keptIn placesIn standL
    congr 1
    exact List.filter_eq_self.mpr fun a ha => st_all _ _ e a (List.mem_range.mp ha)
  · have hd' : ¬ (distB p b).isSome = true := by rw [← hT.dist, hd]; exact Bool.false_ne_true
    unfold placesIn
    rw [cutP_rows hp, if_neg hd']
    rfl
end Sf

namespace Sf
open PySem PySem.Spec PyProof.Rows L2
/-! ### the cut is the program without the rows that do not stand -/
theorem mem_kept {p : Prog} (hp : Wf p) {b a : Nat} (ha : a < (rowsIn p b).length) : (b, a) ∈ keptL p ↔ (distB p b).isSome = true ∧ stands (rowsIn p b) (bhP p b) a = true := by
  unfold keptL
  constructor
  · intro h
    obtain ⟨l, hl, hq⟩ := List.mem_flatten.mp h
    obtain ⟨c, hc, rfl⟩ := List.mem_map.mp hl
    have e : c = b := (keptIn_fst p _ c _ hq).symm
    subst e
    obtain ⟨a', ha', e⟩ := List.mem_map.mp hq
    have e2 : a' = a := (Prod.mk.inj e).2
    subst e2
    exact ⟨(mem_reachL hp).mp hc, (List.mem_filter.mp ha').2⟩
  · rintro ⟨h1, h2⟩
    exact List.mem_flatten.mpr ⟨keptIn p (needOf p) b, List.mem_map.mpr ⟨b, (mem_reachL hp).mpr h1, rfl⟩, List.mem_map.mpr ⟨a, List.mem_filter.mpr ⟨List.mem_range.mpr ha, h2⟩, rfl⟩⟩
theorem mask_none {rows : List Row} {m : Nat → Bool} (h : ∀ a, a < rows.length → m a = false) : maskRows rows m = [] := by
  unfold maskRows
  rw [List.filter_eq_nil_iff.mpr fun a ha => by rw [h a (List.mem_range.mp ha)]; exact Bool.false_ne_true]
  rfl
theorem cut_without {p : Prog} (hp : Wf p) : cutP p = withoutP p ((placesL p).filter fun q => !decide (q ∈ keptL p)) := by
  unfold cutP cutOn withoutP
  refine List.map_congr_left fun b hb => ?_
  have hb := List.mem_range.mp hb
  congr 1
  rw [cut_rows hp, leftRows_mask]
  have key : ∀ a, a < (rowsIn p b).length → (!decide ((b, a) ∈ (placesL p).filter fun q => !decide (q ∈ keptL p))) = decide ((b, a) ∈ keptL p) := fun a ha => by
    have : (b, a) ∈ (placesL p).filter (fun q => !decide (q ∈ keptL p)) ↔ ¬ (b, a) ∈ keptL p := by
      rw [List.mem_filter, placesL_ok]
      exact ⟨fun h => nd_t h.2, fun h => ⟨⟨hb, ha⟩, by simp [h]⟩⟩
    by_cases h : (b, a) ∈ keptL p
    · have h2 : ¬ (b, a) ∈ (placesL p).filter (fun q => !decide (q ∈ keptL p)) := fun z => this.mp z h
      rw [decide_eq_true h, decide_eq_false h2]
      rfl
    · rw [decide_eq_false h, decide_eq_true (this.mpr h)]
      rfl
  rw [maskRows_congr key]
  by_cases hd : (distB p b).isSome = true
  · rw [if_pos hd, ← mask_st]
    refine maskRows_congr fun a ha => ?_
    cases e : stands (rowsIn p b) (bhP p b) a with
    | true => exact (decide_eq_true ((mem_kept hp ha).mpr ⟨hd, e⟩)).symm
    | false => exact (decide_eq_false fun z => by have := ((mem_kept hp ha).mp z).2; rw [e] at this; cases this).symm
  · rw [if_neg hd]
    exact (mask_none fun a ha => decide_eq_false fun z => hd ((mem_kept hp ha).mp z).1).symm
end Sf

namespace Sf
open PySem PySem.Spec PyProof.Rows L2
/-! short words for evaluation: each closes its goal or fails -/
local macro_rules | `(tactic| wtm_at "sd") => `(tactic| first | assumption | exact trivial | omega | ((with_reducible show List.length _ ≤ _); simp only [List.length_cons, List.length_nil]; omega) | decide | rfl | ((with_reducible show sOk _); (show PyData.strOk _ = true); decide +kernel))
local macro_rules | `(tactic| wtm_at "ix") => `(tactic| first | assumption | exact rfl)
local macro_rules | `(tactic| wtm_at "rr") => `(tactic| assumption)
local macro_rules | `(tactic| wtm_at "evp") => `(tactic| first | exact ep_none | (apply ep_some; wtm_at "evv"))
local macro_rules | `(tactic| wtm_at "evav") => `(tactic| first | exact eav_nil | (apply eav_cons; wtm_at "evv"; wtm_at "evav"))
local macro_rules | `(tactic| wtm_at "eva") => `(tactic| first | exact ea_nil | (apply ea_cons; wtm_at "evf"; wtm_at "eva"))
local macro_rules | `(tactic| wtm_at "evaw") => `(tactic| first | exact eaw_nil | (apply eaw_cons; wtm_at "evw"; wtm_at "evaw"))
local macro_rules | `(tactic| wtm_at "evl") => `(tactic| first | exact evl_var rfl | (apply EvO.l; wtm_at "evf") | (apply EvO.ll; wtm_at "evo"))
local macro_rules | `(tactic| wtm_at "evk") => `(tactic| first | exact evk_var rfl | (apply EvO.k; wtm_at "evf"))
local macro_rules | `(tactic| wtm_at "evm") => `(tactic| first | exact evm_var rfl | (apply EvO.m; wtm_at "evf"))
local macro_rules | `(tactic| wtm_at "evw") => `(tactic| first
  | exact EvL.w (evl_var rfl) | exact EvK.w (evk_var rfl) | exact EvM.w (evm_var rfl)
  | (apply EvO.w; wtm_at "evf")
  | (apply EvL.w; wtm_at "evl"))
/-! what a slot may hold: fixed data -/
local macro_rules | `(tactic| wtm_at "evf") => `(tactic| first
  | exact evf_var rfl
  | (apply ev_ixT; wtm_at "evf"; wtm_at "evv"; wtm_at "ix")
  | (apply ev_ix; wtm_at "evl"; wtm_at "evv"; wtm_at "ix")
  | (apply ev_tup; wtm_at "eva"; wtm_at "sd")
  | (apply EvV.fi; wtm_at "evv")
  | (apply EvV.fs; wtm_at "evv")
  | (apply EvV.fb; wtm_at "evv")
  | (apply EvV.fn; wtm_at "evv")
  | (apply ev_call; wtm_at "eva"; wtm_at "rr")
  | (apply ev_callW; wtm_at "evaw"; wtm_at "rr"; wtm_at "sd")
  | (apply EvO.fixL; wtm_at "evo"))
/-! an owned list, a dict -/
local macro_rules | `(tactic| wtm_at "evo") => `(tactic| first
  | (apply ev_lst; wtm_at "eva"; wtm_at "sd")
  | exact ev_newK | exact ev_newT
  | (apply ev_listL; wtm_at "evl")
  | (apply ev_listT; wtm_at "evf")
  | (apply ev_dict; wtm_at "evk")
  | (apply ev_addL; wtm_at "evl"; wtm_at "evl"; wtm_at "sd")
  | (apply ev_slL; wtm_at "evl"; wtm_at "evp"; wtm_at "evp")
  | (apply ev_call; wtm_at "eva"; wtm_at "rr")
  | (apply ev_callW; wtm_at "evaw"; wtm_at "rr"; wtm_at "sd"))
local macro_rules | `(tactic| wtm_at "evv") => `(tactic| first
  | exact evv_c
  | exact evv_int rfl
  | exact evv_str rfl
  | exact evv_bl rfl
  | exact evv_non rfl
  | (apply ev_add; wtm_at "evv"; wtm_at "evv")
  | (apply ev_cat; wtm_at "evv"; wtm_at "evv"; wtm_at "sd")
  | (apply ev_sub; wtm_at "evv"; wtm_at "evv")
  | (apply ev_mul; wtm_at "evv"; wtm_at "evv"; wtm_at "mu")
  | (apply ev_div; wtm_at "evv"; wtm_at "evv"; wtm_at "sd")
  | (apply ev_mod; wtm_at "evv"; wtm_at "evv"; wtm_at "sd")
  | (apply ev_neg; wtm_at "evv")
  | (apply ev_lt; wtm_at "evv"; wtm_at "evv")
  | (apply ev_le; wtm_at "evv"; wtm_at "evv")
  | (apply ev_gt; wtm_at "evv"; wtm_at "evv")
  | (apply ev_ge; wtm_at "evv"; wtm_at "evv")
  | (apply ev_eqi; wtm_at "evv"; wtm_at "evv")
  | (apply ev_eqs; wtm_at "evv"; wtm_at "evv")
  | (apply ev_nei; wtm_at "evv"; wtm_at "evv")
  | (apply ev_nes; wtm_at "evv"; wtm_at "evv")
  | (apply ev_eqb; wtm_at "evv"; wtm_at "evv")
  | (apply ev_neb; wtm_at "evv"; wtm_at "evv")
  | (apply ev_min; wtm_at "evv"; wtm_at "evv")
  | (apply ev_max; wtm_at "evv"; wtm_at "evv")
  | (apply ev_intb; wtm_at "evv")
  | (apply ev_lens; wtm_at "evv"; wtm_at "sd")
  | (apply ev_lenR; wtm_at "evw")
  | (apply ev_lenW; wtm_at "evw")
  | (apply ev_lenT; wtm_at "evw")
  | (apply ev_ixR; wtm_at "evf"; wtm_at "evv"; wtm_at "ix")
  | (apply ev_ixS; wtm_at "evv"; wtm_at "evv"; wtm_at "sd"; wtm_at "ix")
  | (apply ev_slS; wtm_at "evv"; wtm_at "sd"; wtm_at "evp"; wtm_at "evp")
  | (apply ev_nis; wtm_at "evv"; wtm_at "evv")
  | (apply ev_ins; wtm_at "evv"; wtm_at "evv")
  | (apply ev_inK; wtm_at "evv"; wtm_at "evk")
  | (apply ev_niK; wtm_at "evv"; wtm_at "evk")
  | (apply ev_andV; wtm_at "evv"; (intro _; wtm_at "evv"))
  | (apply ev_orV; wtm_at "evv"; (intro _; wtm_at "evv"))
  | (apply ev_notV; wtm_at "evv")
  | (apply ev_isN; wtm_at "evw")
  | (apply ev_ntN; wtm_at "evw")
  | (apply ev_isi_lst true; wtm_at "evw"; decide +kernel)
  | (apply ev_isi_lst false; wtm_at "evw"; decide +kernel)
  | (apply ev_isi_tup true; wtm_at "evw"; decide +kernel)
  | (apply ev_isi_tup false; wtm_at "evw"; decide +kernel)
  | (apply ev_isi_str true; wtm_at "evw"; decide +kernel)
  | (apply ev_isi_str false; wtm_at "evw"; decide +kernel)
  | (apply ev_isi_int true; wtm_at "evw"; decide +kernel)
  | (apply ev_isi_int false; wtm_at "evw"; decide +kernel)
  | (apply ev_isi_bl true; wtm_at "evw"; decide +kernel)
  | (apply ev_isi_bl false; wtm_at "evw"; decide +kernel)
  | (apply ev_isi_non true; wtm_at "evw"; decide +kernel)
  | (apply ev_isi_non false; wtm_at "evw"; decide +kernel)
  | (apply ev_isi_dk true; wtm_at "evw"; decide +kernel)
  | (apply ev_isi_dk false; wtm_at "evw"; decide +kernel)
  | (apply EvO.sc; wtm_at "evf1"; exact rfl))
/-! data that is a scalar: what is not made of scalars -/
local macro_rules | `(tactic| wtm_at "evf1") => `(tactic| first
  | (apply ev_ixT; wtm_at "evf"; wtm_at "evv"; wtm_at "ix")
  | (apply ev_ix; wtm_at "evl"; wtm_at "evv"; wtm_at "ix")
  | (apply ev_ixKT; wtm_at "evf"; wtm_at "evv"; wtm_at "ix")
  | (apply ev_get; wtm_at "evk"; wtm_at "evv"; wtm_at "evf")
  | (apply ev_call; wtm_at "eva"; wtm_at "rr")
  | (apply ev_callW; wtm_at "evaw"; wtm_at "rr"; wtm_at "sd"))
local macro_rules | `(tactic| wtm_at "mu") => `(tactic| first
  | assumption
  | (apply mul_ok_l; omega)
  | (apply mul_ok_r; omega))
local macro_rules | `(tactic| wtm_at "evt") => `(tactic| first
  | exact et_yes
  | (apply et_v; wtm_at "evv")
  | (apply et_b; wtm_at "evv")
  | (apply et_and; wtm_at "evt"; (intro _; wtm_at "evt"))
  | (apply et_or; wtm_at "evt"; (intro _; wtm_at "evt"))
  | (apply et_not; wtm_at "evt"))
/-! a name gets a value, and what follows -/
local macro_rules | `(tactic| wtm_at "ev") => `(tactic| first | wtm_at "evf" | wtm_at "evo")
local macro_rules | `(tactic| wtm_at "rr") => `(tactic| exact ⟨_, _, rfl, (by omega), rfl⟩)
local macro_rules | `(tactic| wtm_at "rr") => `(tactic| exact ⟨_, rfl, rfl⟩)
def R_law : List D → Sl → Prop := fun ds s => ∃ ns : List Int, ds = [.scr ns] ∧ ns.length ≤ 63 ∧ s = .im (.bl true)
theorem drawn_pool {ns : List Int} {p : Prog} (h : Dp2 ns (namesBy ns) p) : Pool (namesBy ns) p := by
  refine ⟨Nat.le_trans (namesBy_le ns) (by decide), namesBy_ok ns, fun b hb r hr => ?_⟩
  obtain ⟨c, k, _, rfl⟩ := h.rows b hb r hr
  exact row_in (namesBy_ne ns) fun x hx => hx
theorem pszW {p : Prog} (w : Wf p) : Psz p := by
  refine ⟨by have := w.len; omega, fun b hb => by have := w.rows b hb; omega, fun b hb => by have := w.nways b hb; omega, fun b hb r hr => ?_⟩
  have := w.reads b hb r hr
  cases r with
  | tell s => exact Nat.zero_le _
  | make s g rs => exact Nat.le_trans (show rs.length ≤ 2 from this) (by decide)
def plAt (ps : List Place) (i : Int) : Place := ps.getD (i % (ps.length : Int)).toNat (0, 0)
theorem plAt_at {ps : List Place} (h : ps ≠ []) (i : Int) : plAt ps i ∈ ps ∧ atI (dPls ps) (i % ((dPls ps).length : Int)) = some (dPl (plAt ps i)) := by
  have h0 : 0 < ps.length := List.length_pos_iff.mpr h
  have hl : (dPls ps).length = ps.length := by unfold dPls; rw [List.length_map]
  have a := Int.emod_nonneg i (show (ps.length : Int) ≠ 0 by omega)
  have b := Int.emod_lt_of_pos i (show (0 : Int) < ps.length by omega)
  have e : plAt ps i = ps[(i % (ps.length : Int)).toNat]'(by omega) := by
    unfold plAt
    rw [List.getD_eq_getElem?_getD, List.getElem?_eq_getElem (by omega)]
    rfl
  refine ⟨by rw [e]; exact List.getElem_mem _, ?_⟩
  rw [hl, atI_nn a (by rw [hl]; exact b), e]
  simp only [dPls, List.getElem_map]
def plD : D → Place
  | .tup [.int a, .int b] => (a.toNat, b.toNat)
  | _ => (0, 0)
theorem plD_dPl (q : Place) : plD (dPl q) = q := rfl
theorem filt_pl (l ks : List Place) : (dPls l).filter (fun d => !decide (plD d ∈ ks)) = dPls (l.filter fun q => !decide (q ∈ ks)) := by
  unfold dPls
  rw [List.filter_map]
  congr 1
theorem rowIn_up {a b : List Str} (h : ∀ x ∈ a, x ∈ b) {r : Row} (k : rowIn a r) : rowIn b r := by
  cases r with
  | tell s => exact h _ k
  | make s g rs => exact ⟨h _ k.1, fun x hx => h x (k.2 x hx)⟩
theorem tup_dPls (l : List Place) : tupA (dPls l) = true := tupA_all fun d hd => by
  obtain ⟨q, _, rfl⟩ := List.mem_map.mp hd
  show tupD (.tup [.int _, .int _]) = true
  simp [tupD, tupA]
theorem tup_row (r : Row) : tupD (en r) = true := by
  cases r with
  | tell s => show tupD (.tup [.str _, .str _]) = true; simp [tupD, tupA]
  | make s g rs =>
    show tupD (.tup [.str _, .str _, .str _, .tup (rs.map D.str)]) = true
    have : tupA (rs.map D.str) = true := tupA_all fun d hd => by obtain ⟨q, _, rfl⟩ := List.mem_map.mp hd; rw [tupD]
    simp [tupD, tupA, this]
theorem tup_prog (p : Prog) : ∀ b ∈ p.map bkOf, tupA b.1 = true ∧ tupA b.2 = true := fun b hb => by
  obtain ⟨c, _, rfl⟩ := List.mem_map.mp hb
  refine ⟨tupA_all fun d hd => ?_, tupA_all fun d hd => ?_⟩
  · obtain ⟨r, _, rfl⟩ := List.mem_map.mp hd
    exact tup_row r
  · obtain ⟨r, _, rfl⟩ := List.mem_map.mp hd
    rw [tupD]
section
variable {K : PySem.W.Frag} {Γ : List Sl} {i : Nat} {p p' : Prog} {as : List D}
theorem ev_pgxen (h : Γ[i]? = some (.pg (p.map bkOf))) : EvX K (tVar i) Γ (en p) := by rw [← dP_en]; exact ev_pgx h
theorem ev_f3bp (h : Γ[i]? = some (.f3 as (p.map bkOf) (p'.map bkOf))) : EvW K (tOp (rIxX K) (tVar i) (tC (.int 1))) Γ (en p) := by rw [← dP_en]; exact ev_f3b h
theorem ev_f3cp (h : Γ[i]? = some (.f3 as (p.map bkOf) (p'.map bkOf))) : EvW K (tOp (rIxX K) (tVar i) (tC (.int 2))) Γ (en p') := by rw [← dP_en]; exact ev_f3c h
theorem bk_sz {p : Prog} (h : Pk pool p) (w : ∀ k, (waysIn p k).length ≤ 6000) : (p.map bkOf).length ≤ 6000 ∧ ∀ b ∈ p.map bkOf, b.1.length ≤ 6000 ∧ b.2.length ≤ 6000 := by
  refine ⟨by rw [List.length_map]; have := h.len; omega, fun b hb => ?_⟩
  obtain ⟨c, hc, rfl⟩ := List.mem_map.mp hb
  obtain ⟨k, hk⟩ := List.mem_iff_getElem?.mp hc
  have h1 := h.rows k
  have h2 := w k
  rw [rowsIn_of hk] at h1
  rw [waysIn_of hk] at h2
  show (c.1.map _).length ≤ 6000 ∧ (c.2.map _).length ≤ 6000
  rw [List.length_map, List.length_map]
  omega
end
def rd_law (K : PySem.W.Frag) : TS :=
  (tSeq (tAsg (tCall (spF K R__law_program_by) [] E0 (tCons (tVar 0) (tCons (tCall (spF K R__law_names_by) [] E0 (tCons (tVar 0) tNil)) tNil))) (gName 1))
    (tSeq (tAsg (tCall (spF K R__law_copy) [] E0 (tCons (tVar 1) tNil)) (gName 2))
    (tSeq (tAsg (tCall (spF K R__law_places) [] E0 (tCons (tVar 1) tNil)) (gName 3))
    (tSeq (tAsg (tCall (spF K R__law_kept_by) [] E0 (tCons (tVar 1) tNil)) (gName 4))
    (tSeq (tAsg (tLc (iX K (tVar 3)) (gName 11) (tTest (tOp (rNiX K) (tVar 11) (tVar 4))) (tVar 11) [11]) (gName 5))
    (tSeq (tAsg (tOp rMulX (tOp rModX (tCall (spF K R__law_drawn) [] E0 (tCons (tVar 0) (tCons (tC (.int 119)) tNil))) (tC (.int 10))) (tCB rIntX (tCons (tOp (rNeX K) (tVar 3) (tLst tNil)) tNil))) (gName 6))
    (tSeq (tAsg (tLc (iRng1 (tCons (tVar 6) tNil)) (gName 12) tYes (tOp (rIxX K) (tVar 3) (tOp rModX (tCall (spF K R__law_drawn) [] E0 (tCons (tVar 0) (tCons (tOp (rAddX K) (tC (.int 120)) (tVar 12)) tNil))) (tCB (rLenX K) (tCons (tVar 3) tNil)))) [12]) (gName 7))
    (tSeq (tAsg (tCB (rListX K) (tCons (tVar 7) tNil)) (gName 8))
    (tSeq (tAsg (tLst (tCons (tCall (spF K R_kept) [] E0 (tCons (tVar 2) tNil)) (tCons (tCall (spF K R_cutD) [] E0 (tCons (tVar 2) tNil)) (tCons (tCall (spF K R_without) [] E0 (tCons (tVar 2) (tCons (tVar 8) tNil))) tNil)))) (gName 9))
    (tSeq (tIfS (tOr (tNot (tB (tCall (spF K R__law_same) [] E0 (tCons (tVar 2) (tCons (tVar 1) tNil))))) (tOr (tTest (tOp (rNeX K) (tVar 8) (tVar 7))) (tNot (tB (tCall (spF K R__law_pairs) [] E0 (tCons (tOp (rIxX K) (tVar 9) (tC (.int 0))) (tCons (tVar 4) tNil))))))) (tRet (tC (.bl false))) tNext)
    (tSeq (tIfS (tNot (tB (tCall (spF K R__law_same) [] E0 (tCons (tOp (rIxX K) (tVar 9) (tC (.int 1))) (tCons (tCall (spF K R__law_without_by) [] E0 (tCons (tVar 1) (tCons (tVar 5) tNil))) tNil))))) (tRet (tC (.bl false))) tNext)
    (tSeq (tIfS (tNot (tB (tCall (spF K R__law_same) [] E0 (tCons (tOp (rIxX K) (tVar 9) (tC (.int 2))) (tCons (tCall (spF K R__law_without_by) [] E0 (tCons (tVar 1) (tCons (tVar 7) tNil))) tNil))))) (tRet (tC (.bl false))) tNext)
    (tSeq (tDrop (tBM K "list" rAppend (tOp (rIxX K) (tVar 9) (tC (.int 0))) (tCons (tTup (tCons (tC (.int 0)) (tCons (tC (.int 0)) tNil))) tNil)))
    (tSeq (tIfS (tTest (tOp rLtX (tCB (rLenX K) (tCons (tOp (rIxX K) (tOp (rIxX K) (tVar 1) (tC (.int 0))) (tC (.int 0))) tNil)) (tC (.int 40)))) (tSeq (tDrop (tBM K "list" rInsert (tOp (rIxX K) (tOp (rIxX K) (tVar 2) (tC (.int 0))) (tC (.int 0))) (tCons (tC (.int 0)) (tCons (tTup (tCons (tC (.str "tell")) (tCons (tC (.str "a")) tNil))) tNil))))
    (tSeq (tIfS (tNot (tB (tCall (spF K R__law_pairs) [] E0 (tCons (tCall (spF K R_kept) [] E0 (tCons (tVar 2) tNil)) (tCons (tCall (spF K R__law_kept_by) [] E0 (tCons (tVar 2) tNil)) tNil))))) (tRet (tC (.bl false))) tNext)
    (tDrop (tBM K "list" rPopAt (tOp (rIxX K) (tOp (rIxX K) (tVar 2) (tC (.int 0))) (tC (.int 0))) (tCons (tC (.int 0)) tNil))))) tNext)
    (tSeq (tIfS (tNot (tB (tCall (spF K R__law_pairs) [] E0 (tCons (tCall (spF K R_kept) [] E0 (tCons (tVar 2) tNil)) (tCons (tVar 4) tNil))))) (tRet (tC (.bl false))) tNext)
    (tSeq (tFor (iX K (tOp (rAddX K) (tOp (rAddX K) (tOp (rIxX K) (tVar 9) (tC (.int 1))) (tOp (rIxX K) (tVar 9) (tC (.int 2)))) (tCall (spF K R_without) [] E0 (tCons (tVar 2) (tCons (tLst tNil) tNil))))) (gName 10) (tSeq (tDrop (tBM K "list" rAppend (tOp (rIxX K) (tVar 10) (tC (.int 0))) (tCons (tTup (tCons (tC (.str "tell")) (tCons (tC (.str "a")) tNil))) tNil)))
    (tDrop (tBM K "list" rAppend (tOp (rIxX K) (tVar 10) (tC (.int 1))) (tCons (tC (.int 0)) tNil)))))
    (tRet (tCall (spF K R__law_same) [] E0 (tCons (tVar 2) (tCons (tVar 1) tNil))))))))))))))))))))
theorem sv_law {K : PySem.W.Frag} : Keeps K R_law 13 1 (rd_law K) := by
  rintro ds s ⟨ns, rfl, hns, rfl⟩
  refine ⟨rfl, ?_⟩
  show Sv K (rd_law K) [.im (.scr ns), .un, .un, .un, .un, .un, .un, .un, .un, .un, .un, .un, .un] _
  unfold rd_law
  have hnm : namesBy ns ≠ [] ∧ (namesBy ns).length ≤ 60 := ⟨namesBy_ne ns, namesBy_le ns⟩
  have hdp := programBy_dp ns (namesBy ns)
  have h40 := programBy_40 ns (namesBy ns)
  refine q_asg (s := .im (en (programBy ns (namesBy ns)))) ((EvO.fixP (bs := (programBy ns (namesBy ns)).map bkOf) (ev_call (ea_cons (evf_var rfl) (ea_cons (EvO.fixL (ev_call (ea_cons (evf_var rfl) ea_nil) ⟨ns, rfl, rfl⟩)) ea_nil)) ⟨ns, namesBy ns, rfl, ⟨hns, hnm⟩, rfl⟩)).to (by rw [dP_en])) ?_
  generalize programBy ns (namesBy ns) = p at hdp h40
  have hp := hdp.wf
  have hpl := hdp.len
  have hpos := hdp.pos
  have hk : Pk (namesBy ns) p := ⟨⟨drawn_pool hdp, hp⟩, by omega, fun k => Nat.le_trans (h40 k) (by decide)⟩
  have hq : Pq p := ⟨hp, hk.len, hk.rows⟩
  have hS := cutP_sub hp
  have hkc := hS.pk hk
  refine q_asg (s := .pg (p.map bkOf)) (ev_call (ea_cons (evf_var rfl) ea_nil) ⟨p, rfl, by omega, rfl⟩) ?_
  have hplen := hq.places p.length
  have hpl2 : (placesL p).length ≤ 4000 := by
    unfold placesL
    have : 63 * p.length ≤ 63 * 63 := Nat.mul_le_mul_left _ (by omega)
    omega
  refine q_asg (s := .im (.lst (dPls (placesL p)))) (EvO.fixL (ev_call (ea_cons (evf_var rfl) ea_nil) ⟨p, rfl, hq, rfl⟩)) ?_
  refine q_asg (s := .im (.lst (dPls (keptL p)))) (EvO.fixL (ev_call (ea_cons (evf_var rfl) ea_nil) ⟨namesBy ns, p, rfl, hk, rfl⟩)) ?_
  refine q_asg (s := .im (.lst (dPls ((placesL p).filter fun q => !decide (q ∈ keptL p))))) ((EvO.fixL (ev_lcL (ds := dPls (placesL p)) (fun d => !decide (plD d ∈ keptL p)) (fun d => d) (by wtm_at "evl") (by unfold dPls; rw [List.length_map]; omega) (fun d hd => ?_) (fun d hd _ => evf_var rfl))).to (by rw [List.map_id', filt_pl])) ?_
  · obtain ⟨q, hq', rfl⟩ := List.mem_map.mp hd
    rw [plD_dPl]
    exact et_v ((ev_nid (a := q) (l := keptL p) (EvO.w (d := .tup [.int (q.1 : Int), .int (q.2 : Int)]) (evf_var rfl)) (EvO.w (evf_var rfl))).to (by congr 2; exact decide_eq_decide.mpr Iff.rfl))
  have hcw := cut_without hp
  have hol : ((placesL p).filter fun q => !decide (q ∈ keptL p)).length ≤ 4000 := Nat.le_trans (List.length_filter_le _ _) hpl2
  have hoo : ∀ q ∈ (placesL p).filter (fun q => !decide (q ∈ keptL p)), PlOk p q := fun q hq => placesL_ok.mp (List.mem_filter.mp hq).1
  generalize (placesL p).filter (fun q => !decide (q ∈ keptL p)) = others at hcw hol hoo
  -- how many
  have hd0 := Int.emod_nonneg (drawn ns 119) (show (10 : Int) ≠ 0 by decide)
  have hd1 := Int.emod_lt_of_pos (drawn ns 119) (show (0 : Int) < 10 by decide)
  obtain ⟨many, hmany, hm10, hm0⟩ : ∃ many : Nat, drawn ns 119 % 10 * (if !decide (placesL p = []) then 1 else 0) = (many : Int) ∧ many ≤ 10 ∧ (0 < many → placesL p ≠ []) := by
    by_cases e : placesL p = []
    · exact ⟨0, by simp [e], by omega, by omega⟩
    · exact ⟨(drawn ns 119 % 10).toNat, by simp [e]; omega, by omega, fun _ => e⟩
  refine q_asg (s := .im (.int (many : Int))) (EvV.fi ((ev_mul (ev_mod (show EvV K _ _ (.int (drawn ns 119)) by wtm_at "evv") evv_c (by decide)) (ev_intb (ev_ned (a := placesL p) (b := []) (EvO.w (evf_var rfl)) (EvL.w (EvO.ll (ev_lst ea_nil (by decide)))))) (mul_ok_r (by split <;> omega))).to (by rw [hmany]))) ?_
  refine q_asg (s := .im (.lst (dPls ((List.range many).map fun k : Nat => plAt (placesL p) (drawn ns (120 + (k : Int))))))) ((EvO.fixL (ev_lcR (n := many) (fun _ => true) (fun k => dPl (plAt (placesL p) (drawn ns (120 + (k : Int))))) (eav_cons (evv_int rfl) eav_nil) (by omega) (fun _ _ => et_yes) (fun k hk' _ => ?_))).to (by rw [filt_true]; unfold dPls; rw [List.map_map]; rfl)) ?_
  · have hne := hm0 (by omega)
    have h0 : 0 < ((dPls (placesL p)).length : Int) := by
      have := List.length_pos_iff.mpr hne
      unfold dPls
      rw [List.length_map]
      omega
    exact ev_ix (ds := dPls (placesL p)) (EvO.l (evf_var rfl)) (ev_mod (show EvV K _ _ (.int (drawn ns (120 + k))) by wtm_at "evv") (ev_lenW (EvO.w (evf_var rfl))) h0) (plAt_at hne _).2
  have hso : ∀ q ∈ (List.range many).map (fun k : Nat => plAt (placesL p) (drawn ns (120 + (k : Int)))), PlOk p q := fun q hq => by
    obtain ⟨k, hk', rfl⟩ := List.mem_map.mp hq
    have := List.mem_range.mp hk'
    exact placesL_ok.mp (plAt_at (hm0 (by omega)) _).1
  have hsl : ((List.range many).map (fun k : Nat => plAt (placesL p) (drawn ns (120 + (k : Int))))).length ≤ 10 := by rw [List.length_map, List.length_range]; exact hm10
  generalize (List.range many).map (fun k : Nat => plAt (placesL p) (drawn ns (120 + (k : Int)))) = some_ at hso hsl
  refine q_asg (s := .ow (dPls some_)) (by wtm_at "evo") ?_
  have keptX : ∀ (q : Prog) (pool : List Str) (Γ : List Sl), Pk pool q → Γ[2]? = some (.pg (q.map bkOf)) → EvO K (tCall (spF K R_kept) [] E0 (tCons (tVar 2) tNil)) Γ (.ow (dPls (keptL q))) := fun q pool Γ hq h => ev_callX (eax_cons (ev_pgxen h) eax_nil) ⟨pool, q, rfl, hq, rfl⟩ (tup_dPls _)
  have hW := withoutP_sub p some_
  refine q_asg (s := .f3 (dPls (keptL p)) ((cutP p).map bkOf) ((withoutP p some_).map bkOf)) (ev_f3 (keptX p _ _ hk rfl) (ev_callX (eax_cons (ev_pgxen rfl) eax_nil) ⟨namesBy ns, p, rfl, hk, rfl⟩ (tup_prog _)) (ev_callX (eax_cons (ev_pgxen rfl) (eax_cons (EvL.x (evl_var rfl)) eax_nil)) ⟨p, some_, rfl, ⟨hso, hp, by omega⟩, rfl⟩ (tup_prog _))) ?_
  have hkl := keptL_len hk.rows hk.len
  have sameO : ∀ (q : Prog) (ta tb : TE) (Γ : List Sl), Wf q → EvW K ta Γ (en q) → EvW K tb Γ (en q) → EvV K (tCall (spF K R__law_same) [] E0 (tCons ta (tCons tb tNil))) Γ (.bl true) := fun q ta tb Γ hw ha hb => EvO.sc (d := .bl true) (ev_callW (eaw_cons ha (eaw_cons hb eaw_nil)) ⟨q, rfl, pszW hw, rfl⟩ rfl) rfl
  have pairsO : ∀ (l : List Place) (ta tb : TE) (Γ : List Sl), l.length ≤ 5000 → EvW K ta Γ (.lst (dPls l)) → EvW K tb Γ (.lst (dPls l)) → EvV K (tCall (spF K R__law_pairs) [] E0 (tCons ta (tCons tb tNil))) Γ (.bl true) := fun l ta tb Γ hl ha hb => EvO.sc (d := .bl true) (ev_callW (eaw_cons ha (eaw_cons hb eaw_nil)) ⟨l, rfl, by omega, rfl⟩ rfl) rfl
  refine q_when (b := !true || (!decide (some_ = some_) || !true)) (et_or (et_not (et_b (sameO p _ _ _ hp (ev_pgen rfl) (EvO.w (evf_var rfl))))) fun _ => et_or (et_v (ev_ned (a := some_) (b := some_) (EvL.w (evl_var rfl)) (EvO.w (evf_var rfl)))) fun _ => et_not (et_b (pairsO _ _ _ _ hkl (ev_f3a rfl) (EvO.w (evf_var rfl))))) (fun h => by simp at h) (fun _ => ?_)
  refine q_when (b := !true) (et_not (et_b (sameO (cutP p) _ _ _ hkc.pn.wf (ev_f3bp rfl) (EvL.w (EvO.ll ((ev_call (ea_cons (evf_var rfl) (ea_cons (evf_var rfl) ea_nil)) ⟨p, others, rfl, hp, rfl⟩).to (by rw [hcw]))))))) (fun h => by cases h) (fun _ => ?_)
  refine q_when (b := !true) (et_not (et_b (sameO (withoutP p some_) _ _ _ (hW.pk hk).pn.wf (ev_f3cp rfl) (EvL.w (EvO.ll (ev_call (ea_cons (evf_var rfl) (ea_cons (evf_var rfl) ea_nil)) ⟨p, some_, rfl, hp, rfl⟩)))))) (fun h => by cases h) (fun _ => ?_)
  have hdl : (dPls (keptL p)).length ≤ 5000 := by unfold dPls; rw [List.length_map]; exact hkl
  refine sv_seq (sv_app3 (i := 9) rfl (d := dPl (0, 0)) (ev_tup (ds := [.int 0, .int 0]) (ea_cons (EvV.fi evv_c) (ea_cons (EvV.fi evv_c) ea_nil)) (by simp)) (by omega) ?_)
  refine sv_cut (fun Γ => Γ = [.im (.scr ns), .im (en p), .pg (p.map bkOf), .im (.lst (dPls (placesL p))), .im (.lst (dPls (keptL p))), .im (.lst (dPls others)), .im (.int (many : Int)), .im (.lst (dPls some_)), .ow (dPls some_), .f3 (dPls (keptL p) ++ [dPl (0, 0)]) ((cutP p).map bkOf) ((withoutP p some_).map bkOf), .un, .un, .un]) ?_ ?_
  · refine sv_if (b := decide (((rowsIn p 0).length : Int) < 40)) (et_v (ev_lt (ev_lenE (EvO.w (ev_rows (k := 0) (evf_var rfl) evv_c rfl hpos))) evv_c)) (fun _ => ?_) (fun _ => sv_next rfl)
    have h76 := h40 0
    have hb0 := bk_at hpos
    have hr63 : ∀ k, (rowsIn p k).length ≤ 40 := h40
    have hwf2 : Wf (insRow p (.tell "a")) := insRow_wf hp fun k => Nat.le_trans (h40 k) (by decide)
    have hki : Pk (namesBy ns ++ [("a" : Str)]) (insRow p (.tell "a")) := by
      refine ⟨⟨⟨by rw [List.length_append, List.length_singleton]; omega, fun x hx => ?_, fun b hb r hr => ?_⟩, hwf2⟩, by unfold insRow; rw [List.length_set]; exact hk.len, fun k => Nat.le_trans (insRow_rows hpos h40 k) (by decide)⟩
      · rcases List.mem_append.mp hx with h | h
        · exact namesBy_ok ns x h
        · rw [List.mem_singleton.mp h]; show PyData.strOk _ = true; decide +kernel
      · have up : ∀ r, rowIn (namesBy ns) r → rowIn (namesBy ns ++ [("a" : Str)]) r := fun r h => rowIn_up (fun x hx => List.mem_append_left _ hx) h
        rcases insRow_mem hpos hb with hb | rfl
        · exact up r (hk.pn.pool.rows b hb r hr)
        · rcases List.mem_cons.mp hr with rfl | hr
          · show ("a" : Str) ∈ namesBy ns ++ [("a" : Str)]
            exact List.mem_append_right _ (List.mem_singleton.mpr rfl)
          · exact up r (hk.pn.pool.rowsIn r hr)
    refine sv_seq (sv_insG (i := 2) (k := 0) rfl (ev_recv rfl evv_c (by rw [List.length_map]; exact hpos)) hb0 (d := en (Row.tell "a")) (ev_tup (ds := [.str "tell", .str "a"]) (ea_cons (EvV.fs evv_c) (ea_cons (EvV.fs evv_c) ea_nil)) (by simp)) (by rw [List.length_map]; omega) ?_)
    rw [show en (Row.tell "a") :: (rowsIn p 0).map en = (Row.tell "a" :: rowsIn p 0).map en from rfl, bk_set, show p.set 0 (Row.tell "a" :: rowsIn p 0, waysIn p 0) = insRow p (.tell "a") from rfl]
    refine q_when (b := !true) (et_not (et_b (pairsO _ _ _ _ (keptL_len hki.rows hki.len) (EvL.w (EvO.ll (keptX _ _ _ hki rfl))) (EvL.w (EvO.ll (ev_callX (eax_cons (ev_pgxen rfl) eax_nil) ⟨_, _, rfl, hki, rfl⟩ (tup_dPls _))))))) (fun h => by cases h) (fun _ => ?_)
    have hb1 : ((insRow p (.tell "a")).map bkOf)[0]? = some (en (Row.tell "a") :: (rowsIn p 0).map en, (waysIn p 0).map D.int) := by
      unfold insRow
      rw [List.getElem?_map, List.getElem?_set_self hpos]
      rfl
    refine sv_popG (i := 2) (k := 0) rfl (ev_recv rfl evv_c (by unfold insRow; rw [List.length_map, List.length_set]; exact hpos)) hb1 (by rw [List.length_map]; omega) ?_
    have back : ((insRow p (.tell "a")).map bkOf).set 0 ((rowsIn p 0).map en, (waysIn p 0).map D.int) = p.map bkOf := by
      rw [bk_set]
      unfold insRow
      rw [List.set_set, set_at (rowsIn_some hpos)]
    rw [back]
    rfl
  rintro Γ' rfl
  refine q_when (b := !true) (et_not (et_b (pairsO _ _ _ _ hkl (EvL.w (EvO.ll (keptX _ _ _ hk rfl))) (EvO.w (evf_var rfl))))) (fun h => by cases h) (fun _ => ?_)
  have hw6 : ∀ {q : Prog}, Wf q → ∀ k, (waysIn q k).length ≤ 6000 := fun h k => Nat.le_trans (h.waysLe k) (by decide)
  have hW0 := withoutP_sub p []
  refine sv_seq (sv_spoil (n := 6000) (i := 9) (j := 10) (ws := (withoutP p []).map bkOf) (by decide) (by simp) rfl (ev_callX (eax_cons (ev_pgxen rfl) (eax_cons (EvL.x (EvO.ll (ev_lst ea_nil (by decide)))) eax_nil)) ⟨p, [], rfl, ⟨fun _ z => (nomatch z), hp, by simp⟩, rfl⟩ (tup_prog _))
    (fun Γ' => ev_tup (ds := [.str "tell", .str "a"]) (ea_cons (EvV.fs evv_c) (ea_cons (EvV.fs evv_c) ea_nil)) (by simp)) (fun Γ' => EvV.fi evv_c) (by decide) (by rw [List.length_append, List.length_singleton]; omega) (bk_sz hkc (hw6 hkc.pn.wf)) (bk_sz (hW.pk hk) (hw6 (hW.pk hk).pn.wf)) (bk_sz (hW0.pk hk) (hw6 (hW0.pk hk).pn.wf)) (by decide) ?_)
  exact sv_ret (s := .im (.bl true)) (EvV.fb (sameO p _ _ _ hp (ev_pgen rfl) (EvO.w (evf_var rfl)))) rfl
end Sf

namespace Sx
open PySem PySem.Spec PyProof.Rows L2 Sf
def topS (i : Nat) : Stmt := PySem.Challenge.pw_slotfitter_k08_rows_that_stand.main.body.getD i (.Pass ⟨0, 0, 0, 0⟩)
abbrev s__law_cell_at : Stmt := topS 15
abbrev N__law_cell_at : List Str := ["_law_script", "_law_k"]
theorem sc__law_cell_at : FnScope N__law_cell_at ["_law_script", "_law_k"] (defScope s__law_cell_at) := ⟨rfl, rfl, rfl, by decide +kernel, rfl, by decide +kernel, by decide +kernel⟩
abbrev s__law_drawn : Stmt := topS 16
abbrev N__law_drawn : List Str := ["_law_script", "_law_k"]
theorem sc__law_drawn : FnScope N__law_drawn ["_law_script", "_law_k"] (defScope s__law_drawn) := ⟨rfl, rfl, rfl, by decide +kernel, rfl, by decide +kernel, by decide +kernel⟩
abbrev s__law_ways_by : Stmt := topS 21
abbrev N__law_ways_by : List Str := ["_law_script", "_law_k", "_law_size", "_law_cell", "_law_many", "_law_far", "_law_ways", "_law_turn"]
theorem sc__law_ways_by : FnScope N__law_ways_by ["_law_script", "_law_k", "_law_size"] (defScope s__law_ways_by) := ⟨rfl, rfl, rfl, by decide +kernel, rfl, by decide +kernel, by decide +kernel⟩
abbrev s__law_rest_by : Stmt := topS 17
abbrev N__law_rest_by : List Str := ["_law_cell", "_law_most", "_law_some", "_law_rest", "_law_turn"]
theorem sc__law_rest_by : FnScope N__law_rest_by ["_law_cell", "_law_most"] (defScope s__law_rest_by) := ⟨rfl, rfl, rfl, by decide +kernel, rfl, by decide +kernel, by decide +kernel⟩
abbrev s__law_own_sign : Stmt := topS 18
abbrev N__law_own_sign : List Str := ["_law_script", "_law_k", "_law_some", "_law_head", "_law_rest", "_law_at", "_law_far", "_law_name"]
theorem sc__law_own_sign : FnScope N__law_own_sign ["_law_script", "_law_k"] (defScope s__law_own_sign) := ⟨rfl, rfl, rfl, by decide +kernel, rfl, by decide +kernel, by decide +kernel⟩
abbrev s__law_row_by : Stmt := topS 20
abbrev N__law_row_by : List Str := ["_law_cell", "_law_names", "_law_sign", "_law_many", "_law_slot", "_law_reads"]
theorem sc__law_row_by : FnScope N__law_row_by ["_law_cell", "_law_names", "_law_sign"] (defScope s__law_row_by) := ⟨rfl, rfl, rfl, by decide +kernel, rfl, by decide +kernel, by decide +kernel⟩
abbrev s__law_program_by : Stmt := topS 22
abbrev N__law_program_by : List Str := ["_law_script", "_law_names", "_law_head", "_law_size", "_law_many", "_law_k", "_law_program", "_law_cell", "_law_at", "_law_turn", "_law_sign"]
theorem sc__law_program_by : FnScope N__law_program_by ["_law_script", "_law_names"] (defScope s__law_program_by) := ⟨rfl, rfl, rfl, by decide +kernel, rfl, by decide +kernel, by decide +kernel⟩
abbrev s__law_names_by : Stmt := topS 19
abbrev N__law_names_by : List Str := ["_law_script", "_law_some", "_law_many", "_law_head", "_law_names", "_law_k", "_law_rest", "_law_at", "_law_name"]
theorem sc__law_names_by : FnScope N__law_names_by ["_law_script"] (defScope s__law_names_by) := ⟨rfl, rfl, rfl, by decide +kernel, rfl, by decide +kernel, by decide +kernel⟩
abbrev s__law_copy : Stmt := topS 27
abbrev N__law_copy : List Str := ["_law_program", "_law_block"]
theorem sc__law_copy : FnScope N__law_copy ["_law_program"] (defScope s__law_copy) := ⟨rfl, rfl, rfl, by decide +kernel, rfl, by decide +kernel, by decide +kernel⟩
abbrev s__law_places : Stmt := topS 29
abbrev N__law_places : List Str := ["_law_program", "_law_found", "_law_b", "_law_at"]
theorem sc__law_places : FnScope N__law_places ["_law_program"] (defScope s__law_places) := ⟨rfl, rfl, rfl, by decide +kernel, rfl, by decide +kernel, by decide +kernel⟩
abbrev s__law_ahead_by : Stmt := topS 28
abbrev N__law_ahead_by : List Str := ["_law_rows", "_law_behind", "_law_held", "_law_slot", "_law_k", "_law_row"]
theorem sc__law_ahead_by : FnScope N__law_ahead_by ["_law_rows", "_law_behind"] (defScope s__law_ahead_by) := ⟨rfl, rfl, rfl, by decide +kernel, rfl, by decide +kernel, by decide +kernel⟩
abbrev s__law_needed_by : Stmt := topS 31
abbrev N__law_needed_by : List Str := ["_law_program", "_law_needs", "_law_turn", "_law_former", "_law_k", "_law_b", "_law_behind", "_law_way", "_law_block"]
theorem sc__law_needed_by : FnScope N__law_needed_by ["_law_program"] (defScope s__law_needed_by) := ⟨rfl, rfl, rfl, by decide +kernel, rfl, by decide +kernel, by decide +kernel⟩
abbrev s__law_kept_by : Stmt := topS 32
abbrev N__law_kept_by : List Str := ["_law_program", "_law_seen", "_law_turn", "_law_way", "_law_needs", "_law_found", "_law_b", "_law_behind", "_law_rows", "_law_at"]
theorem sc__law_kept_by : FnScope N__law_kept_by ["_law_program"] (defScope s__law_kept_by) := ⟨rfl, rfl, rfl, by decide +kernel, rfl, by decide +kernel, by decide +kernel⟩
abbrev s_ahead : Stmt := topS 1
abbrev N_ahead : List Str := ["rows", "behind", "held", "slot", "row"]
theorem sc_ahead : FnScope N_ahead ["rows", "behind"] (defScope s_ahead) := ⟨rfl, rfl, rfl, by decide +kernel, rfl, by decide +kernel, by decide +kernel⟩
abbrev s_behind_of : Stmt := topS 2
abbrev N_behind_of : List Str := ["needs", "ways", "found", "way"]
theorem sc_behind_of : FnScope N_behind_of ["needs", "ways"] (defScope s_behind_of) := ⟨rfl, rfl, rfl, by decide +kernel, rfl, by decide +kernel, by decide +kernel⟩
abbrev s_needed : Stmt := topS 3
abbrev N_needed : List Str := ["program", "needs", "changed", "k", "b", "found", "block"]
theorem sc_needed : FnScope N_needed ["program"] (defScope s_needed) := ⟨rfl, rfl, rfl, by decide +kernel, rfl, by decide +kernel, by decide +kernel⟩
abbrev s_reached : Stmt := topS 9
abbrev N_reached : List Str := ["program", "seen", "waiting", "k", "way"]
theorem sc_reached : FnScope N_reached ["program"] (defScope s_reached) := ⟨rfl, rfl, rfl, by decide +kernel, rfl, by decide +kernel, by decide +kernel⟩
abbrev s_standing : Stmt := topS 11
abbrev N_standing : List Str := ["rows", "behind", "held", "slot", "found", "k", "at", "row"]
theorem sc_standing : FnScope N_standing ["rows", "behind"] (defScope s_standing) := ⟨rfl, rfl, rfl, by decide +kernel, rfl, by decide +kernel, by decide +kernel⟩
abbrev s_kept : Stmt := topS 12
abbrev N_kept : List Str := ["program", "needs", "found", "b", "at"]
theorem sc_kept : FnScope N_kept ["program"] (defScope s_kept) := ⟨rfl, rfl, rfl, by decide +kernel, rfl, by decide +kernel, by decide +kernel⟩
abbrev s_cut : Stmt := topS 13
abbrev N_cut : List Str := ["program", "found", "place", "block"]
theorem sc_cut : FnScope N_cut ["program"] (defScope s_cut) := ⟨rfl, rfl, rfl, by decide +kernel, rfl, by decide +kernel, by decide +kernel⟩
abbrev s_without : Stmt := topS 8
abbrev N_without : List Str := ["program", "places", "gone", "place", "found", "b", "rows", "left", "at"]
theorem sc_without : FnScope N_without ["program", "places"] (defScope s_without) := ⟨rfl, rfl, rfl, by decide +kernel, rfl, by decide +kernel, by decide +kernel⟩
abbrev s__law_whole : Stmt := topS 23
abbrev N__law_whole : List Str := ["_law_found"]
theorem sc__law_whole : FnScope N__law_whole ["_law_found"] (defScope s__law_whole) := ⟨rfl, rfl, rfl, by decide +kernel, rfl, by decide +kernel, by decide +kernel⟩
abbrev s__law_numbers : Stmt := topS 24
abbrev N__law_numbers : List Str := ["_law_found", "_law_due", "_law_k"]
theorem sc__law_numbers : FnScope N__law_numbers ["_law_found", "_law_due"] (defScope s__law_numbers) := ⟨rfl, rfl, rfl, by decide +kernel, rfl, by decide +kernel, by decide +kernel⟩
abbrev s__law_row_same : Stmt := topS 25
abbrev N__law_row_same : List Str := ["_law_found", "_law_due", "_law_part"]
theorem sc__law_row_same : FnScope N__law_row_same ["_law_found", "_law_due"] (defScope s__law_row_same) := ⟨rfl, rfl, rfl, by decide +kernel, rfl, by decide +kernel, by decide +kernel⟩
abbrev s__law_same : Stmt := topS 26
abbrev N__law_same : List Str := ["_law_found", "_law_due", "_law_k", "_law_block", "_law_at"]
theorem sc__law_same : FnScope N__law_same ["_law_found", "_law_due"] (defScope s__law_same) := ⟨rfl, rfl, rfl, by decide +kernel, rfl, by decide +kernel, by decide +kernel⟩
abbrev s__law_pairs : Stmt := topS 33
abbrev N__law_pairs : List Str := ["_law_found", "_law_due", "_law_place"]
theorem sc__law_pairs : FnScope N__law_pairs ["_law_found", "_law_due"] (defScope s__law_pairs) := ⟨rfl, rfl, rfl, by decide +kernel, rfl, by decide +kernel, by decide +kernel⟩
abbrev s__law_without_by : Stmt := topS 30
abbrev N__law_without_by : List Str := ["_law_program", "_law_places_here", "_law_found", "_law_b", "_law_rows", "_law_left", "_law_at"]
theorem sc__law_without_by : FnScope N__law_without_by ["_law_program", "_law_places_here"] (defScope s__law_without_by) := ⟨rfl, rfl, rfl, by decide +kernel, rfl, by decide +kernel, by decide +kernel⟩
abbrev s_law : Stmt := topS 34
abbrev N_law : List Str := ["_law_script", "_law_program", "_law_handed", "_law_places_here", "_law_due", "_law_others", "_law_many", "_law_some", "_law_given", "_law_found", "_law_block", "_law_place", "_law_k"]
theorem sc_law : FnScope N_law ["_law_script"] (defScope s_law) := ⟨rfl, rfl, rfl, by decide +kernel, rfl, by decide +kernel, by decide +kernel⟩
section
variable {P : Program} {w : World} {K : PySem.W.Frag} {mg : Str → Option Value} {base : Heap}
theorem ok__law_cell_at {f : Addr} {fd : FuncData} (F : Fun K "_law_cell_at" "_law_cell_at" s__law_cell_at f fd) (m_len : mg "len" = none) : FnOk P w K mg base CX0 1 f fd ["_law_script", "_law_k"] (spF K R__law_cell_at) := by
  refine F.ok (k := 0) sc__law_cell_at (fun vs H Q E h => spF_len (sv__law_cell_at) h) (fun cdv A outer s H vs Q E hr h => ?_)
  exact ⟨rd__law_cell_at K, (pss_cons (ps_if (pt_cmpR op_ltX (pv 1) (pe_callB call_lenX (by rfl) m_len (by decide +kernel) (pa_cons (pv 0) pa_nil)) (nomark _)) (pss_one (ps_ret (pe_ix (ix_X (hu1 hr)) (pv 0) (pv 1) (fun _ _ => rfl)))) pss_nil)
      (pss_cons (ps_if (pt_cmpR (op_eqX hr.units) (pe_callB call_lenX (by rfl) m_len (by decide +kernel) (pa_cons (pv 0) pa_nil)) pe_int (nomark _)) (pss_one (ps_ret (pe_op op_addX (pe_op op_mulX (pe_op op_mulX pe_int (pv 1)) (pv 1)) (pe_op op_mulX pe_int (pv 1))))) pss_nil)
      (pss_one (ps_ret (pe_op op_addX (pe_op op_addX (pe_op op_mulX (pe_ix (ix_X (hu1 hr)) (pv 0) (pe_op op_modX (pv 1) (pe_callB call_lenX (by rfl) m_len (by decide +kernel) (pa_cons (pv 0) pa_nil))) (fun _ _ => rfl)) (pe_op op_addX (pe_op op_mulX pe_int (pv 1)) pe_int)) (pe_op op_mulX (pe_op op_mulX pe_int (pv 1)) (pv 1))) (pe_op op_mulX pe_int (pv 1))))))), body_ok (N := N__law_cell_at) (np := 2) (sv__law_cell_at) h⟩
theorem ok__law_drawn {f : Addr} {fd : FuncData} {f__law_cell_at : Addr} {fd__law_cell_at : FuncData} (F : Fun K "_law_drawn" "_law_drawn" s__law_drawn f fd) (G__law_cell_at : FnOk P w K mg base CX0 1 f__law_cell_at fd__law_cell_at ["_law_script", "_law_k"] (spF K R__law_cell_at)) (g__law_cell_at : mg "_law_cell_at" = some (.ref f__law_cell_at)) (kp__law_cell_at : PySem.W.keepIn K (.ref f__law_cell_at) = true) (b__law_cell_at : Binds K fd__law_cell_at ["_law_script", "_law_k"] []) : FnOk P w K mg base CX0 2 f fd ["_law_script", "_law_k"] (spF K R__law_drawn) := by
  refine F.ok (k := 1) sc__law_drawn (fun vs H Q E h => spF_len (sv__law_drawn) h) (fun cdv A outer s H vs Q E hr h => ?_)
  exact ⟨rd__law_drawn K, (pss_one (ps_ret (pe_op op_modX (pe_op op_mulX (pe_call G__law_cell_at (hr.mono (by decide)) (by rfl) g__law_cell_at kp__law_cell_at b__law_cell_at .nil pass0 (pa_cons (pv 0) (pa_cons (pv 1) pa_nil))) pe_int) pe_int))), body_ok (N := N__law_drawn) (np := 2) (sv__law_drawn) h⟩
theorem ok__law_ways_by {f : Addr} {fd : FuncData} {f__law_drawn : Addr} {fd__law_drawn : FuncData} (F : Fun K "_law_ways_by" "_law_ways_by" s__law_ways_by f fd) (G__law_drawn : FnOk P w K mg base CX0 2 f__law_drawn fd__law_drawn ["_law_script", "_law_k"] (spF K R__law_drawn)) (g__law_drawn : mg "_law_drawn" = some (.ref f__law_drawn)) (kp__law_drawn : PySem.W.keepIn K (.ref f__law_drawn) = true) (b__law_drawn : Binds K fd__law_drawn ["_law_script", "_law_k"] []) (m_max : mg "max" = none) (m_int : mg "int" = none) (m_range : mg "range" = none) : FnOk P w K mg base CX0 3 f fd ["_law_script", "_law_k", "_law_size"] (spF K R__law_ways_by) := by
  refine F.ok (k := 2) sc__law_ways_by (fun vs H Q E h => spF_len (sv__law_ways_by) h) (fun cdv A outer s H vs Q E hr h => ?_)
  exact ⟨rd__law_ways_by K, (pss_cons (ps_set (i := 3) sc__law_ways_by.nd rfl (Or.inl rfl) (pe_call G__law_drawn (hr.mono (by decide)) (by rfl) g__law_drawn kp__law_drawn b__law_drawn .nil pass0 (pa_cons (pv 0) (pa_cons (pe_op op_addX pe_int (pv 1)) pa_nil))))
      (pss_cons (ps_set (i := 4) sc__law_ways_by.nd rfl (Or.inl rfl) (pe_op op_modX (pv 3) pe_int))
      (pss_cons (ps_if (pt_cmpR (op_eqX hr.units) (pe_op op_modX (pe_op op_divX (pv 3) pe_int) pe_int) pe_int (nomark _)) (pss_one (ps_set (i := 4) sc__law_ways_by.nd rfl (Or.inl rfl) (pe_op op_modX (pe_op op_divX (pv 3) pe_int) pe_int))) pss_nil)
      (pss_cons (ps_set (i := 4) sc__law_ways_by.nd rfl (Or.inl rfl) (pe_callB (call_maxX rfl) (by rfl) m_max (by decide +kernel) (pa_cons (pv 4) (pa_cons (pe_callTy call_intX (by rfl) m_int (by decide +kernel) (pa_cons (pe_cmpR (op_eqX hr.units) (pe_op op_modX (pv 1) pe_int) pe_int (nomark _)) pa_nil)) pa_nil))))
      (pss_cons (ps_set (i := 5) sc__law_ways_by.nd rfl (Or.inl rfl) (pe_op op_divX (pv 3) pe_int))
      (pss_cons (ps_set (i := 6) sc__law_ways_by.nd rfl (Or.inl rfl) (pe_lst pa_nil))
      (pss_cons (ps_for PassesOwn.never (by rfl) (pi_range1 (by rfl) m_range (pa_cons (pv 4) pa_nil)) (pg_name (i := 7) sc__law_ways_by.nd rfl (Or.inl rfl)) (pss_cons (ps_expr (pe_bm PySem.F.plainAttrs_list PySem.F.slot_list_append PySem.F.type_list_append mt_append (pv 6) (pa_cons (pe_op op_modX (pv 5) (pv 2)) pa_nil)))
      (pss_one (ps_set (i := 5) sc__law_ways_by.nd rfl (Or.inl rfl) (pe_op op_addX (pe_op op_divX (pv 5) (pv 2)) (pe_op op_mulX pe_int (pv 7)))))))
      (pss_cons (ps_if (PW.pt (pw_and (pt_cmpR (op_eqX hr.units) (pe_op op_modX (pe_call G__law_drawn (hr.mono (by decide)) (by rfl) g__law_drawn kp__law_drawn b__law_drawn .nil pass0 (pa_cons (pv 0) (pa_cons pe_int pa_nil))) pe_int) pe_int (nomark _)) (pw_and (pt_cmpR op_ltX (pv 4) pe_int (nomark _)) (pw_and1 (pt_cmpR op_ltX (pv 2) pe_int (nomark _)))))) (pss_one (ps_expr (pe_bm PySem.F.plainAttrs_list PySem.F.slot_list_insert PySem.F.type_list_insert mt_insertX (pv 6) (pa_cons pe_int (pa_cons (pe_op op_modX (pe_op op_subX (pe_op op_modX (pv 1) pe_int) pe_int) (pv 2)) pa_nil))))) pss_nil)
      (pss_one (ps_ret (pv 6))))))))))), body_ok (N := N__law_ways_by) (np := 3) (sv__law_ways_by) h⟩
theorem ok__law_rest_by {f : Addr} {fd : FuncData} (F : Fun K "_law_rest_by" "_law_rest_by" s__law_rest_by f fd) (m_range : mg "range" = none) : FnOk P w K mg base CX0 1 f fd ["_law_cell", "_law_most"] (spF K R__law_rest_by) := by
  refine F.ok (k := 0) sc__law_rest_by (fun vs H Q E h => spF_len (sv__law_rest_by) h) (fun cdv A outer s H vs Q E hr h => ?_)
  exact ⟨rd__law_rest_by K, (pss_cons (ps_set (i := 2) sc__law_rest_by.nd rfl (Or.inl rfl) pe_str)
      (pss_cons (ps_set (i := 3) sc__law_rest_by.nd rfl (Or.inl rfl) pe_str)
      (pss_cons (ps_for PassesOwn.never (by rfl) (pi_range1 (by rfl) m_range (pa_cons (pe_op op_modX (pv 0) (pv 1)) pa_nil)) (pg_name (i := 4) sc__law_rest_by.nd rfl (Or.inl rfl)) (pss_cons (ps_set (i := 0) sc__law_rest_by.nd rfl (Or.inl rfl) (pe_op op_addX (pe_op op_divX (pv 0) pe_int) (pe_op op_mulX pe_int (pv 4))))
      (pss_one (ps_set (i := 3) sc__law_rest_by.nd rfl (Or.inl rfl) (pe_op op_addX (pv 3) (pe_ix (ix_X (hu1 hr)) (pv 2) (pe_op op_modX (pv 0) pe_int) (fun _ _ => rfl)))))))
      (pss_one (ps_ret (pv 3)))))), body_ok (N := N__law_rest_by) (np := 2) (sv__law_rest_by) h⟩
theorem ok__law_own_sign {f : Addr} {fd : FuncData} {f__law_drawn : Addr} {fd__law_drawn : FuncData} {f__law_rest_by : Addr} {fd__law_rest_by : FuncData} (F : Fun K "_law_own_sign" "_law_own_sign" s__law_own_sign f fd) (G__law_drawn : FnOk P w K mg base CX0 2 f__law_drawn fd__law_drawn ["_law_script", "_law_k"] (spF K R__law_drawn)) (g__law_drawn : mg "_law_drawn" = some (.ref f__law_drawn)) (kp__law_drawn : PySem.W.keepIn K (.ref f__law_drawn) = true) (b__law_drawn : Binds K fd__law_drawn ["_law_script", "_law_k"] []) (G__law_rest_by : FnOk P w K mg base CX0 1 f__law_rest_by fd__law_rest_by ["_law_cell", "_law_most"] (spF K R__law_rest_by)) (g__law_rest_by : mg "_law_rest_by" = some (.ref f__law_rest_by)) (kp__law_rest_by : PySem.W.keepIn K (.ref f__law_rest_by) = true) (b__law_rest_by : Binds K fd__law_rest_by ["_law_cell", "_law_most"] []) (m_min : mg "min" = none) (m_len : mg "len" = none) : FnOk P w K mg base CX0 3 f fd ["_law_script", "_law_k"] (spF K R__law_own_sign) := by
  refine F.ok (k := 2) sc__law_own_sign (fun vs H Q E h => spF_len (sv__law_own_sign) h) (fun cdv A outer s H vs Q E hr h => ?_)
  exact ⟨rd__law_own_sign K, (pss_cons (ps_set (i := 2) sc__law_own_sign.nd rfl (Or.inl rfl) pe_str)
      (pss_cons (ps_set (i := 3) sc__law_own_sign.nd rfl (Or.inl rfl) (pe_call G__law_drawn (hr.mono (by decide)) (by rfl) g__law_drawn kp__law_drawn b__law_drawn .nil pass0 (pa_cons (pv 0) (pa_cons pe_int pa_nil))))
      (pss_cons (ps_set (i := 4) sc__law_own_sign.nd rfl (Or.inl rfl) (pe_call G__law_rest_by (hr.mono (by decide)) (by rfl) g__law_rest_by kp__law_rest_by b__law_rest_by .nil pass0 (pa_cons (pe_call G__law_drawn (hr.mono (by decide)) (by rfl) g__law_drawn kp__law_drawn b__law_drawn .nil pass0 (pa_cons (pv 0) (pa_cons (pe_op op_addX pe_int (pe_op op_mulX (pv 1) (pe_op op_modX (pv 3) pe_int))) pa_nil))) (pa_cons pe_int pa_nil))))
      (pss_cons (ps_set (i := 5) sc__law_own_sign.nd rfl (Or.inl rfl) (pe_callB (call_minX rfl) (by rfl) m_min (by decide +kernel) (pa_cons (pe_op op_modX (pe_op op_divX (pv 3) pe_int) pe_int) (pa_cons (pe_callB call_lenX (by rfl) m_len (by decide +kernel) (pa_cons (pv 4) pa_nil)) pa_nil))))
      (pss_cons (ps_set (i := 6) sc__law_own_sign.nd rfl (Or.inl rfl) (pe_callB (call_minX rfl) (by rfl) m_min (by decide +kernel) (pa_cons (pe_op op_addX (pv 5) (pe_op op_modX (pe_op op_divX (pv 3) pe_int) pe_int)) (pa_cons (pe_callB call_lenX (by rfl) m_len (by decide +kernel) (pa_cons (pv 4) pa_nil)) pa_nil))))
      (pss_cons (ps_set (i := 7) sc__law_own_sign.nd rfl (Or.inl rfl) (pe_op op_addX (pe_op op_addX (pe_slice sl_X (pv 4) po_none (po_some (pv 5))) (pe_ix (ix_X (hu1 hr)) (pv 2) (pe_op op_divX (pv 1) pe_int) (fun _ _ => rfl))) (pe_slice sl_X (pv 4) (po_some (pv 5)) (po_some (pv 6)))))
      (pss_one (ps_ret (pe_op op_addX (pe_op op_addX (pv 7) (pe_ix (ix_X (hu1 hr)) (pv 2) (pe_op op_modX (pe_op op_addX (pe_op op_divX (pv 3) pe_int) (pv 1)) pe_int) (fun _ _ => rfl))) (pe_slice sl_X (pv 4) (po_some (pv 6)) po_none)))))))))), body_ok (N := N__law_own_sign) (np := 2) (sv__law_own_sign) h⟩
theorem ok__law_row_by {f : Addr} {fd : FuncData} (F : Fun K "_law_row_by" "_law_row_by" s__law_row_by f fd) (m_len : mg "len" = none) (m_tuple : mg "tuple" = none) : FnOk P w K mg base CX0 1 f fd ["_law_cell", "_law_names", "_law_sign"] (spF K R__law_row_by) := by
  refine F.ok (k := 0) sc__law_row_by (fun vs H Q E h => spF_len (sv__law_row_by) h) (fun cdv A outer s H vs Q E hr h => ?_)
  exact ⟨rd__law_row_by K, (pss_cons (ps_set (i := 3) sc__law_row_by.nd rfl (Or.inl rfl) (pe_callB call_lenX (by rfl) m_len (by decide +kernel) (pa_cons (pv 1) pa_nil)))
      (pss_cons (ps_set (i := 4) sc__law_row_by.nd rfl (Or.inl rfl) (pe_ix (ix_X (hu1 hr)) (pv 1) (pe_op op_modX (pe_op op_divX (pv 0) pe_int) (pv 3)) (fun _ _ => rfl)))
      (pss_cons (ps_if (pt_cmpR (op_eqX hr.units) (pe_op op_modX (pv 0) pe_int) pe_int (nomark _)) (pss_one (ps_ret (pe_tup (pa_cons pe_str (pa_cons (pv 4) pa_nil))))) pss_nil)
      (pss_cons (ps_set (i := 0) sc__law_row_by.nd rfl (Or.inl rfl) (pe_op op_divX (pe_op op_divX (pv 0) pe_int) (pv 3)))
      (pss_cons (ps_set (i := 5) sc__law_row_by.nd rfl (Or.inl rfl) (pe_lst (pa_cons (pe_ix (ix_X (hu1 hr)) (pv 1) (pe_op op_modX (pe_op op_divX (pv 0) pe_int) (pv 3)) (fun _ _ => rfl)) (pa_cons (pe_ix (ix_X (hu1 hr)) (pv 1) (pe_op op_modX (pe_op op_divX (pe_op op_divX (pv 0) pe_int) (pv 3)) (pv 3)) (fun _ _ => rfl)) pa_nil))))
      (pss_one (ps_ret (pe_tup (pa_cons pe_str (pa_cons (pv 4) (pa_cons (pv 2) (pa_cons (pe_callTy call_tupX (by rfl) m_tuple (by decide +kernel) (pa_cons (pe_slice sl_X (pv 5) po_none (po_some (pe_op op_modX (pv 0) pe_int))) pa_nil)) pa_nil)))))))))))), body_ok (N := N__law_row_by) (np := 3) (sv__law_row_by) h⟩
theorem ok__law_program_by {f : Addr} {fd : FuncData} {f__law_drawn : Addr} {fd__law_drawn : FuncData} {f__law_ways_by : Addr} {fd__law_ways_by : FuncData} {f__law_own_sign : Addr} {fd__law_own_sign : FuncData} {f__law_row_by : Addr} {fd__law_row_by : FuncData} (F : Fun K "_law_program_by" "_law_program_by" s__law_program_by f fd) (G__law_drawn : FnOk P w K mg base CX0 2 f__law_drawn fd__law_drawn ["_law_script", "_law_k"] (spF K R__law_drawn)) (g__law_drawn : mg "_law_drawn" = some (.ref f__law_drawn)) (kp__law_drawn : PySem.W.keepIn K (.ref f__law_drawn) = true) (b__law_drawn : Binds K fd__law_drawn ["_law_script", "_law_k"] []) (G__law_ways_by : FnOk P w K mg base CX0 3 f__law_ways_by fd__law_ways_by ["_law_script", "_law_k", "_law_size"] (spF K R__law_ways_by)) (g__law_ways_by : mg "_law_ways_by" = some (.ref f__law_ways_by)) (kp__law_ways_by : PySem.W.keepIn K (.ref f__law_ways_by) = true) (b__law_ways_by : Binds K fd__law_ways_by ["_law_script", "_law_k", "_law_size"] []) (G__law_own_sign : FnOk P w K mg base CX0 3 f__law_own_sign fd__law_own_sign ["_law_script", "_law_k"] (spF K R__law_own_sign)) (g__law_own_sign : mg "_law_own_sign" = some (.ref f__law_own_sign)) (kp__law_own_sign : PySem.W.keepIn K (.ref f__law_own_sign) = true) (b__law_own_sign : Binds K fd__law_own_sign ["_law_script", "_law_k"] []) (G__law_row_by : FnOk P w K mg base CX0 1 f__law_row_by fd__law_row_by ["_law_cell", "_law_names", "_law_sign"] (spF K R__law_row_by)) (g__law_row_by : mg "_law_row_by" = some (.ref f__law_row_by)) (kp__law_row_by : PySem.W.keepIn K (.ref f__law_row_by) = true) (b__law_row_by : Binds K fd__law_row_by ["_law_cell", "_law_names", "_law_sign"] []) (m_int : mg "int" = none) (m_len : mg "len" = none) (m_range : mg "range" = none) : FnOk P w K mg base CX0 4 f fd ["_law_script", "_law_names"] (spF K R__law_program_by) := by
  refine F.ok (k := 3) sc__law_program_by (fun vs H Q E h => spF_len (sv__law_program_by) h) (fun cdv A outer s H vs Q E hr h => ?_)
  exact ⟨rd__law_program_by K, (pss_cons (ps_set (i := 2) sc__law_program_by.nd rfl (Or.inl rfl) (pe_call G__law_drawn (hr.mono (by decide)) (by rfl) g__law_drawn kp__law_drawn b__law_drawn .nil pass0 (pa_cons (pv 0) (pa_cons pe_int pa_nil))))
      (pss_cons (ps_set (i := 3) sc__law_program_by.nd rfl (Or.inr rfl) (pe_op op_addX pe_int (pe_op op_modX (pv 2) pe_int)))
      (pss_cons (ps_set (i := 4) sc__law_program_by.nd rfl (Or.inl rfl) (pe_op op_modX (pe_op op_divX (pv 2) pe_int) pe_int))
      (pss_cons (ps_if (pt_cmpR (op_eqX hr.units) (pe_op op_modX (pe_op op_divX (pv 2) pe_int) pe_int) pe_int (nomark _)) (pss_cons (ps_set (i := 3) sc__law_program_by.nd rfl (Or.inr rfl) (pe_op op_addX pe_int (pe_op op_modX (pe_op op_divX (pv 2) pe_int) (pe_ix (ix_X (hu1 hr)) (pe_lst (pa_cons pe_int (pa_cons pe_int pa_nil))) (pe_callTy call_intX (by rfl) m_int (by decide +kernel) (pa_cons (pe_cmpR op_gtX (pe_callB call_lenX (by rfl) m_len (by decide +kernel) (pa_cons (pv 1) pa_nil)) pe_int (nomark _)) pa_nil)) (fun _ _ => rfl)))))
      (pss_one (ps_set (i := 4) sc__law_program_by.nd rfl (Or.inl rfl) (pe_op op_addX (pv 4) (pv 3))))) pss_nil)
      (pss_cons (ps_if (PW.pt (pw_and (pt_cmpR op_gtX (pe_callB call_lenX (by rfl) m_len (by decide +kernel) (pa_cons (pv 0) pa_nil)) pe_int (nomark _)) (pw_and1 (pt_cmpR (op_eqX hr.units) (pe_op op_modX (pe_op op_divX (pv 2) pe_int) pe_int) pe_int (nomark _))))) (pss_one (ps_set (i := 4) sc__law_program_by.nd rfl (Or.inl rfl) (pe_op op_mulX pe_int (pv 3)))) pss_nil)
      (pss_cons (ps_setLc (i := 6) (own := [("_law_k", 5)]) (g := gName 5) (by rfl) sc__law_program_by.nd rfl rfl (sw_true rfl rfl rfl (by decide +kernel)) (pi_range1 (by rfl) m_range (pa_cons (pv 3) pa_nil)) (blkOk_by (own := [("_law_k", 5)]) (N := N__law_program_by) (sc := defScope s__law_program_by) (by decide +kernel)) (fun _ _ _ _ _ => pg_name (i := 5) sc__law_program_by.nd rfl (Or.inl rfl)) (fun _ _ _ _ _ => pts_nil) (fun _ _ _ _ _ => (pe_tup (pa_cons (pe_lst pa_nil) (pa_cons (pe_call G__law_ways_by (hr.mono (by decide)) (by rfl) g__law_ways_by kp__law_ways_by b__law_ways_by .nil pass0 (pa_cons (pv 0) (pa_cons (pe_op op_addX pe_int (pv 5)) (pa_cons (pv 3) pa_nil)))) pa_nil)))))
      (pss_cons (ps_for PassesOwn.never (by rfl) (pi_range1 (by rfl) m_range (pa_cons (pv 4) pa_nil)) (pg_name (i := 5) sc__law_program_by.nd rfl (Or.inl rfl)) (pss_cons (ps_set (i := 7) sc__law_program_by.nd rfl (Or.inl rfl) (pe_call G__law_drawn (hr.mono (by decide)) (by rfl) g__law_drawn kp__law_drawn b__law_drawn .nil pass0 (pa_cons (pv 0) (pa_cons (pe_op op_addX pe_int (pv 5)) pa_nil))))
      (pss_cons (ps_set (i := 8) sc__law_program_by.nd rfl (Or.inl rfl) (pe_op op_modX (pe_op op_divX (pv 7) pe_int) (pv 3)))
      (pss_cons (ps_if (pt_cmpR (op_eqX hr.units) (pe_op op_modX (pe_call G__law_drawn (hr.mono (by decide)) (by rfl) g__law_drawn kp__law_drawn b__law_drawn .nil pass0 (pa_cons (pv 0) (pa_cons pe_int pa_nil))) pe_int) pe_int (nomark _)) (pss_one (ps_set (i := 8) sc__law_program_by.nd rfl (Or.inl rfl) (pe_op op_modX (pv 2) (pv 3)))) pss_nil)
      (pss_cons (ps_for PassesOwn.never (by rfl) (pi_range1 (by rfl) m_range (pa_cons (pv 3) pa_nil)) (pg_name (i := 9) sc__law_program_by.nd rfl (Or.inl rfl)) (pss_one (ps_if (pt_cmpR op_gtX (pe_callB call_lenX (by rfl) m_len (by decide +kernel) (pa_cons (pe_ix (ix_X (hu1 hr)) (pe_ix (ix_X (hu1 hr)) (pv 6) (pv 8) (fun _ _ => rfl)) pe_int (fun _ _ => rfl)) pa_nil)) pe_int (nomark _)) (pss_one (ps_set (i := 8) sc__law_program_by.nd rfl (Or.inl rfl) (pe_op op_modX (pe_op op_addX (pv 8) pe_int) (pv 3)))) pss_nil)))
      (pss_cons (ps_set (i := 10) sc__law_program_by.nd rfl (Or.inl rfl) (pe_call G__law_own_sign (hr.mono (by decide)) (by rfl) g__law_own_sign kp__law_own_sign b__law_own_sign .nil pass0 (pa_cons (pv 0) (pa_cons (pv 5) pa_nil))))
      (pss_one (ps_expr (pe_bm PySem.F.plainAttrs_list PySem.F.slot_list_append PySem.F.type_list_append mt_append (pe_ix (ix_X (hu1 hr)) (pe_ix (ix_X (hu1 hr)) (pv 6) (pv 8) (fun _ _ => rfl)) pe_int (fun _ _ => rfl)) (pa_cons (pe_call G__law_row_by (hr.mono (by decide)) (by rfl) g__law_row_by kp__law_row_by b__law_row_by .nil pass0 (pa_cons (pe_op op_modX (pe_op op_mulX (pv 7) pe_int) pe_int) (pa_cons (pv 1) (pa_cons (pv 10) pa_nil)))) pa_nil))))))))))
      (pss_one (ps_ret (pv 6)))))))))), body_ok (N := N__law_program_by) (np := 2) (sv__law_program_by) h⟩
theorem ok__law_names_by {f : Addr} {fd : FuncData} {f__law_drawn : Addr} {fd__law_drawn : FuncData} {f__law_rest_by : Addr} {fd__law_rest_by : FuncData} (F : Fun K "_law_names_by" "_law_names_by" s__law_names_by f fd) (G__law_drawn : FnOk P w K mg base CX0 2 f__law_drawn fd__law_drawn ["_law_script", "_law_k"] (spF K R__law_drawn)) (g__law_drawn : mg "_law_drawn" = some (.ref f__law_drawn)) (kp__law_drawn : PySem.W.keepIn K (.ref f__law_drawn) = true) (b__law_drawn : Binds K fd__law_drawn ["_law_script", "_law_k"] []) (G__law_rest_by : FnOk P w K mg base CX0 1 f__law_rest_by fd__law_rest_by ["_law_cell", "_law_most"] (spF K R__law_rest_by)) (g__law_rest_by : mg "_law_rest_by" = some (.ref f__law_rest_by)) (kp__law_rest_by : PySem.W.keepIn K (.ref f__law_rest_by) = true) (b__law_rest_by : Binds K fd__law_rest_by ["_law_cell", "_law_most"] []) (m_range : mg "range" = none) (m_min : mg "min" = none) (m_len : mg "len" = none) : FnOk P w K mg base CX0 3 f fd ["_law_script"] (spF K R__law_names_by) := by
  refine F.ok (k := 2) sc__law_names_by (fun vs H Q E h => spF_len (sv__law_names_by) h) (fun cdv A outer s H vs Q E hr h => ?_)
  exact ⟨rd__law_names_by K, (pss_cons (ps_set (i := 1) sc__law_names_by.nd rfl (Or.inl rfl) pe_str)
      (pss_cons (ps_set (i := 2) sc__law_names_by.nd rfl (Or.inl rfl) (pe_op op_addX pe_int (pe_op op_modX (pe_op op_divX (pe_call G__law_drawn (hr.mono (by decide)) (by rfl) g__law_drawn kp__law_drawn b__law_drawn .nil pass0 (pa_cons (pv 0) (pa_cons pe_int pa_nil))) pe_int) pe_int)))
      (pss_cons (ps_if (pt_cmpR (op_eqX hr.units) (pe_op op_modX (pe_call G__law_drawn (hr.mono (by decide)) (by rfl) g__law_drawn kp__law_drawn b__law_drawn .nil pass0 (pa_cons (pv 0) (pa_cons pe_int pa_nil))) pe_int) pe_int (nomark _)) (pss_one (ps_set (i := 2) sc__law_names_by.nd rfl (Or.inl rfl) (pe_op op_addX pe_int (pe_op op_modX (pe_op op_divX (pe_call G__law_drawn (hr.mono (by decide)) (by rfl) g__law_drawn kp__law_drawn b__law_drawn .nil pass0 (pa_cons (pv 0) (pa_cons pe_int pa_nil))) pe_int) pe_int)))) pss_nil)
      (pss_cons (ps_set (i := 3) sc__law_names_by.nd rfl (Or.inl rfl) (pe_call G__law_drawn (hr.mono (by decide)) (by rfl) g__law_drawn kp__law_drawn b__law_drawn .nil pass0 (pa_cons (pv 0) (pa_cons pe_int pa_nil))))
      (pss_cons (ps_set (i := 4) sc__law_names_by.nd rfl (Or.inl rfl) (pe_lst pa_nil))
      (pss_cons (ps_for PassesOwn.never (by rfl) (pi_range1 (by rfl) m_range (pa_cons (pv 2) pa_nil)) (pg_name (i := 5) sc__law_names_by.nd rfl (Or.inl rfl)) (pss_cons (ps_set (i := 6) sc__law_names_by.nd rfl (Or.inl rfl) (pe_call G__law_rest_by (hr.mono (by decide)) (by rfl) g__law_rest_by kp__law_rest_by b__law_rest_by .nil pass0 (pa_cons (pe_call G__law_drawn (hr.mono (by decide)) (by rfl) g__law_drawn kp__law_drawn b__law_drawn .nil pass0 (pa_cons (pv 0) (pa_cons (pe_op op_addX pe_int (pe_op op_mulX (pv 5) (pe_op op_modX (pv 3) pe_int))) pa_nil))) (pa_cons pe_int pa_nil))))
      (pss_cons (ps_set (i := 7) sc__law_names_by.nd rfl (Or.inl rfl) (pe_callB (call_minX rfl) (by rfl) m_min (by decide +kernel) (pa_cons (pe_op op_modX (pe_op op_divX (pv 3) pe_int) pe_int) (pa_cons (pe_callB call_lenX (by rfl) m_len (by decide +kernel) (pa_cons (pv 6) pa_nil)) pa_nil))))
      (pss_cons (ps_set (i := 8) sc__law_names_by.nd rfl (Or.inl rfl) (pe_op op_addX (pe_op op_addX (pe_slice sl_X (pv 6) po_none (po_some (pv 7))) (pe_ix (ix_X (hu1 hr)) (pv 1) (pe_op op_modX (pe_op op_addX (pe_op op_divX (pv 3) pe_int) (pv 5)) pe_int) (fun _ _ => rfl))) (pe_slice sl_X (pv 6) (po_some (pv 7)) po_none)))
      (pss_cons (ps_if (pt_cmpR op_gtX (pv 2) pe_int (nomark _)) (pss_one (ps_set (i := 8) sc__law_names_by.nd rfl (Or.inl rfl) (pe_op op_addX (pe_ix (ix_X (hu1 hr)) (pv 1) (pe_op op_divX (pv 5) pe_int) (fun _ _ => rfl)) (pv 8)))) pss_nil)
      (pss_one (ps_expr (pe_bm PySem.F.plainAttrs_list PySem.F.slot_list_append PySem.F.type_list_append mt_append (pv 4) (pa_cons (pv 8) pa_nil)))))))))
      (pss_one (ps_ret (pv 4))))))))), body_ok (N := N__law_names_by) (np := 1) (sv__law_names_by) h⟩
theorem ok__law_copy {f : Addr} {fd : FuncData} (F : Fun K "_law_copy" "_law_copy" s__law_copy f fd) (m_list : mg "list" = none) : FnOk P w K mg base CX0 1 f fd ["_law_program"] (spF K R__law_copy) := by
  refine F.ok (k := 0) sc__law_copy (fun vs H Q E h => spF_len (sv__law_copy) h) (fun cdv A outer s H vs Q E hr h => ?_)
  exact ⟨rd__law_copy K, (pss_one (ps_ret (pe_lc (own := [("_law_block", 1)]) (g := gName 1) (by rfl) sc__law_copy.nd (pi_X (pv 0)) (blkOk_by (own := [("_law_block", 1)]) (N := N__law_copy) (sc := defScope s__law_copy) (by decide +kernel)) (fun _ _ _ _ _ => pg_name (i := 1) sc__law_copy.nd rfl (Or.inl rfl)) (fun _ _ _ _ _ => pts_nil) (fun _ _ _ _ _ => (pe_tup (pa_cons (pe_callTy (call_listX rfl) (by rfl) m_list (by decide +kernel) (pa_cons (pe_ix (ix_X (hu1 hr)) (pv 1) pe_int (fun _ _ => rfl)) pa_nil)) (pa_cons (pe_callTy (call_listX rfl) (by rfl) m_list (by decide +kernel) (pa_cons (pe_ix (ix_X (hu1 hr)) (pv 1) pe_int (fun _ _ => rfl)) pa_nil)) pa_nil))))))), body_ok (N := N__law_copy) (np := 1) (sv__law_copy) h⟩
theorem ok__law_places {f : Addr} {fd : FuncData} (F : Fun K "_law_places" "_law_places" s__law_places f fd) (m_range : mg "range" = none) (m_len : mg "len" = none) : FnOk P w K mg base CX0 1 f fd ["_law_program"] (spF K R__law_places) := by
  refine F.ok (k := 0) sc__law_places (fun vs H Q E h => spF_len (sv__law_places) h) (fun cdv A outer s H vs Q E hr h => ?_)
  exact ⟨rd__law_places K, (pss_cons (ps_set (i := 1) sc__law_places.nd rfl (Or.inl rfl) (pe_lst pa_nil))
      (pss_cons (ps_for PassesOwn.never (by rfl) (pi_range1 (by rfl) m_range (pa_cons (pe_callB call_lenX (by rfl) m_len (by decide +kernel) (pa_cons (pv 0) pa_nil)) pa_nil)) (pg_name (i := 2) sc__law_places.nd rfl (Or.inl rfl)) (pss_one (ps_for PassesOwn.never (by rfl) (pi_range1 (by rfl) m_range (pa_cons (pe_callB call_lenX (by rfl) m_len (by decide +kernel) (pa_cons (pe_ix (ix_X (hu1 hr)) (pe_ix (ix_X (hu1 hr)) (pv 0) (pv 2) (fun _ _ => rfl)) pe_int (fun _ _ => rfl)) pa_nil)) pa_nil)) (pg_name (i := 3) sc__law_places.nd rfl (Or.inl rfl)) (pss_one (ps_expr (pe_bm PySem.F.plainAttrs_list PySem.F.slot_list_append PySem.F.type_list_append mt_append (pv 1) (pa_cons (pe_tup (pa_cons (pv 2) (pa_cons (pv 3) pa_nil))) pa_nil)))))))
      (pss_one (ps_ret (pv 1))))), body_ok (N := N__law_places) (np := 1) (sv__law_places) h⟩
theorem ok__law_ahead_by {f : Addr} {fd : FuncData} (F : Fun K "_law_ahead_by" "_law_ahead_by" s__law_ahead_by f fd) (m_range : mg "range" = none) (m_len : mg "len" = none) (m_sorted : mg "sorted" = none) (m_list : mg "list" = none) : FnOk P w K mg base CX0 1 f fd ["_law_rows", "_law_behind"] (spF K R__law_ahead_by) := by
  refine F.ok (k := 0) sc__law_ahead_by (fun vs H Q E h => spF_len (sv__law_ahead_by) h) (fun cdv A outer s H vs Q E hr h => ?_)
  exact ⟨rd__law_ahead_by K, (pss_cons (ps_set (i := 2) sc__law_ahead_by.nd rfl (Or.inl rfl) pe_dnewK)
      (pss_cons (ps_for PassesOwn.never (by rfl) (pi_X (pv 1)) (pg_name (i := 3) sc__law_ahead_by.nd rfl (Or.inl rfl)) (pss_one (ps_asg pe_bl (pg_sub (pv 2) (pv 3) (set_X (hu1 hr))))))
      (pss_cons (ps_for PassesOwn.never (by rfl) (pi_range1 (by rfl) m_range (pa_cons (pe_callB call_lenX (by rfl) m_len (by decide +kernel) (pa_cons (pv 0) pa_nil)) pa_nil)) (pg_name (i := 4) sc__law_ahead_by.nd rfl (Or.inl rfl)) (pss_cons (ps_set (i := 5) sc__law_ahead_by.nd rfl (Or.inl rfl) (pe_ix (ix_X (hu1 hr)) (pv 0) (pe_op op_subX (pe_op op_subX (pe_callB call_lenX (by rfl) m_len (by decide +kernel) (pa_cons (pv 0) pa_nil)) pe_int) (pv 4)) (fun _ _ => rfl)))
      (pss_cons (ps_if (pt_cmpR (op_eqX hr.units) (pe_ix (ix_X (hu1 hr)) (pv 5) pe_int (fun _ _ => rfl)) pe_str (nomark _)) (pss_one (ps_asg pe_bl (pg_sub (pv 2) (pe_ix (ix_X (hu1 hr)) (pv 5) pe_int (fun _ _ => rfl)) (set_X (hu1 hr))))) pss_nil)
      (pss_one (ps_if (PW.pt (pw_and (pt_cmpR (op_eqX hr.units) (pe_ix (ix_X (hu1 hr)) (pv 5) pe_int (fun _ _ => rfl)) pe_str (nomark _)) (pw_and1 (pt_cmpR (op_inX (hu65 hr)) (pe_ix (ix_X (hu1 hr)) (pv 5) pe_int (fun _ _ => rfl)) (pv 2) (by rfl))))) (pss_cons (ps_expr (pe_dpop1 (pv 2) (pe_ix (ix_X (hu1 hr)) (pv 5) pe_int (fun _ _ => rfl)) ⟨by rfl, by rfl, by rfl, by rfl⟩))
      (pss_one (ps_for PassesOwn.never (by rfl) (pi_X (pe_ix (ix_X (hu1 hr)) (pv 5) pe_int (fun _ _ => rfl))) (pg_name (i := 3) sc__law_ahead_by.nd rfl (Or.inl rfl)) (pss_one (ps_asg pe_bl (pg_sub (pv 2) (pv 3) (set_X (hu1 hr)))))))) pss_nil)))))
      (pss_one (ps_ret (pe_callB call_sortX (by rfl) m_sorted (by decide +kernel) (pa_cons (pe_callTy (call_listX rfl) (by rfl) m_list (by decide +kernel) (pa_cons (pv 2) pa_nil)) pa_nil))))))), body_ok (N := N__law_ahead_by) (np := 2) (sv__law_ahead_by) h⟩
theorem ok__law_needed_by {f : Addr} {fd : FuncData} {f__law_ahead_by : Addr} {fd__law_ahead_by : FuncData} (F : Fun K "_law_needed_by" "_law_needed_by" s__law_needed_by f fd) (G__law_ahead_by : FnOk P w K mg base CX0 1 f__law_ahead_by fd__law_ahead_by ["_law_rows", "_law_behind"] (spF K R__law_ahead_by)) (g__law_ahead_by : mg "_law_ahead_by" = some (.ref f__law_ahead_by)) (kp__law_ahead_by : PySem.W.keepIn K (.ref f__law_ahead_by) = true) (b__law_ahead_by : Binds K fd__law_ahead_by ["_law_rows", "_law_behind"] []) (m_range : mg "range" = none) (m_len : mg "len" = none) (m_list : mg "list" = none) : FnOk P w K mg base CX0 2 f fd ["_law_program"] (spF K R__law_needed_by) := by
  refine F.ok (k := 1) sc__law_needed_by (fun vs H Q E h => spF_len (sv__law_needed_by) h) (fun cdv A outer s H vs Q E hr h => ?_)
  exact ⟨rd__law_needed_by K, (pss_cons (ps_setLc (i := 1) (own := [("_law_block", 8)]) (g := gName 8) (by rfl) sc__law_needed_by.nd rfl rfl (sw_true rfl rfl rfl (by decide +kernel)) (pi_X (pv 0)) (blkOk_by (own := [("_law_block", 8)]) (N := N__law_needed_by) (sc := defScope s__law_needed_by) (by decide +kernel)) (fun _ _ _ _ _ => pg_name (i := 8) sc__law_needed_by.nd rfl (Or.inl rfl)) (fun _ _ _ _ _ => pts_nil) (fun _ _ _ _ _ => (pe_lst pa_nil)))
      (pss_cons (ps_for PassesOwn.never (by rfl) (pi_range1 (by rfl) m_range (pa_cons (pe_op op_addX (pe_op op_mulX (pe_callB call_lenX (by rfl) m_len (by decide +kernel) (pa_cons (pv 0) pa_nil)) pe_int) pe_int) pa_nil)) (pg_name (i := 2) sc__law_needed_by.nd rfl (Or.inl rfl)) (pss_cons (ps_set (i := 3) sc__law_needed_by.nd rfl (Or.inl rfl) (pe_callTy (call_listX rfl) (by rfl) m_list (by decide +kernel) (pa_cons (pv 1) pa_nil)))
      (pss_cons (ps_for PassesOwn.never (by rfl) (pi_range1 (by rfl) m_range (pa_cons (pe_callB call_lenX (by rfl) m_len (by decide +kernel) (pa_cons (pv 0) pa_nil)) pa_nil)) (pg_name (i := 4) sc__law_needed_by.nd rfl (Or.inl rfl)) (pss_cons (ps_set (i := 5) sc__law_needed_by.nd rfl (Or.inl rfl) (pe_op op_subX (pe_op op_subX (pe_callB call_lenX (by rfl) m_len (by decide +kernel) (pa_cons (pv 0) pa_nil)) pe_int) (pv 4)))
      (pss_cons (ps_set (i := 6) sc__law_needed_by.nd rfl (Or.inl rfl) (pe_lst pa_nil))
      (pss_cons (ps_for PassesOwn.never (by rfl) (pi_X (pe_ix (ix_X (hu1 hr)) (pe_ix (ix_X (hu1 hr)) (pv 0) (pv 5) (fun _ _ => rfl)) pe_int (fun _ _ => rfl))) (pg_name (i := 7) sc__law_needed_by.nd rfl (Or.inl rfl)) (pss_one (ps_set (i := 6) sc__law_needed_by.nd rfl (Or.inl rfl) (pe_op op_addX (pv 6) (pe_ix (ix_X (hu1 hr)) (pv 1) (pv 7) (fun _ _ => rfl))))))
      (pss_one (ps_asg (pe_call G__law_ahead_by (hr.mono (by decide)) (by rfl) g__law_ahead_by kp__law_ahead_by b__law_ahead_by .nil pass0 (pa_cons (pe_ix (ix_X (hu1 hr)) (pe_ix (ix_X (hu1 hr)) (pv 0) (pv 5) (fun _ _ => rfl)) pe_int (fun _ _ => rfl)) (pa_cons (pv 6) pa_nil))) (pg_sub (pv 1) (pv 5) (set_X (hu1 hr)))))))))
      (pss_one (ps_if (pt_cmpR (op_eqX hr.units) (pv 1) (pv 3) (nomark _)) (pss_one (ps_ret (pv 1))) pss_nil)))))
      (pss_one (ps_ret (pv 1))))), body_ok (N := N__law_needed_by) (np := 1) (sv__law_needed_by) h⟩
theorem ok__law_kept_by {f : Addr} {fd : FuncData} {f__law_needed_by : Addr} {fd__law_needed_by : FuncData} {f__law_ahead_by : Addr} {fd__law_ahead_by : FuncData} (F : Fun K "_law_kept_by" "_law_kept_by" s__law_kept_by f fd) (G__law_needed_by : FnOk P w K mg base CX0 2 f__law_needed_by fd__law_needed_by ["_law_program"] (spF K R__law_needed_by)) (g__law_needed_by : mg "_law_needed_by" = some (.ref f__law_needed_by)) (kp__law_needed_by : PySem.W.keepIn K (.ref f__law_needed_by) = true) (b__law_needed_by : Binds K fd__law_needed_by ["_law_program"] []) (G__law_ahead_by : FnOk P w K mg base CX0 1 f__law_ahead_by fd__law_ahead_by ["_law_rows", "_law_behind"] (spF K R__law_ahead_by)) (g__law_ahead_by : mg "_law_ahead_by" = some (.ref f__law_ahead_by)) (kp__law_ahead_by : PySem.W.keepIn K (.ref f__law_ahead_by) = true) (b__law_ahead_by : Binds K fd__law_ahead_by ["_law_rows", "_law_behind"] []) (m_range : mg "range" = none) (m_len : mg "len" = none) (m_min : mg "min" = none) (m_sorted : mg "sorted" = none) : FnOk P w K mg base CX0 3 f fd ["_law_program"] (spF K R__law_kept_by) := by
  refine F.ok (k := 2) sc__law_kept_by (fun vs H Q E h => spF_len (sv__law_kept_by) h) (fun cdv A outer s H vs Q E hr h => ?_)
  exact ⟨rd__law_kept_by K, (pss_cons (ps_set (i := 1) sc__law_kept_by.nd rfl (Or.inl rfl) (pe_lst (pa_cons pe_int pa_nil)))
      (pss_cons (ps_for PassesOwn.never (by rfl) (pi_range1 (by rfl) m_range (pa_cons (pe_callB call_lenX (by rfl) m_len (by decide +kernel) (pa_cons (pv 0) pa_nil)) pa_nil)) (pg_name (i := 2) sc__law_kept_by.nd rfl (Or.inl rfl)) (pss_one (ps_for PassesOwn.never (by rfl) (pi_X (pe_ix (ix_X (hu1 hr)) (pe_ix (ix_X (hu1 hr)) (pv 0) (pe_ix (ix_X (hu1 hr)) (pv 1) (pe_callB (call_minX rfl) (by rfl) m_min (by decide +kernel) (pa_cons (pv 2) (pa_cons (pe_op op_subX (pe_callB call_lenX (by rfl) m_len (by decide +kernel) (pa_cons (pv 1) pa_nil)) pe_int) pa_nil))) (fun _ _ => rfl)) (fun _ _ => rfl)) pe_int (fun _ _ => rfl))) (pg_name (i := 3) sc__law_kept_by.nd rfl (Or.inl rfl)) (pss_one (ps_if (pt_cmpR (op_niX (hu65 hr)) (pv 3) (pv 1) (by rfl)) (pss_one (ps_set (i := 1) sc__law_kept_by.nd rfl (Or.inl rfl) (pe_op op_addX (pv 1) (pe_lst (pa_cons (pv 3) pa_nil))))) pss_nil)))))
      (pss_cons (ps_set (i := 4) sc__law_kept_by.nd rfl (Or.inl rfl) (pe_call G__law_needed_by (hr.mono (by decide)) (by rfl) g__law_needed_by kp__law_needed_by b__law_needed_by .nil pass0 (pa_cons (pv 0) pa_nil)))
      (pss_cons (ps_set (i := 5) sc__law_kept_by.nd rfl (Or.inl rfl) (pe_lst pa_nil))
      (pss_cons (ps_for PassesOwn.never (by rfl) (pi_X (pe_callB call_sortX (by rfl) m_sorted (by decide +kernel) (pa_cons (pv 1) pa_nil))) (pg_name (i := 6) sc__law_kept_by.nd rfl (Or.inl rfl)) (pss_cons (ps_set (i := 7) sc__law_kept_by.nd rfl (Or.inl rfl) (pe_lst pa_nil))
      (pss_cons (ps_for PassesOwn.never (by rfl) (pi_X (pe_ix (ix_X (hu1 hr)) (pe_ix (ix_X (hu1 hr)) (pv 0) (pv 6) (fun _ _ => rfl)) pe_int (fun _ _ => rfl))) (pg_name (i := 3) sc__law_kept_by.nd rfl (Or.inl rfl)) (pss_one (ps_set (i := 7) sc__law_kept_by.nd rfl (Or.inl rfl) (pe_op op_addX (pv 7) (pe_ix (ix_X (hu1 hr)) (pv 4) (pv 3) (fun _ _ => rfl))))))
      (pss_cons (ps_set (i := 8) sc__law_kept_by.nd rfl (Or.inl rfl) (pe_ix (ix_X (hu1 hr)) (pe_ix (ix_X (hu1 hr)) (pv 0) (pv 6) (fun _ _ => rfl)) pe_int (fun _ _ => rfl)))
      (pss_one (ps_for PassesOwn.never (by rfl) (pi_range1 (by rfl) m_range (pa_cons (pe_callB call_lenX (by rfl) m_len (by decide +kernel) (pa_cons (pv 8) pa_nil)) pa_nil)) (pg_name (i := 9) sc__law_kept_by.nd rfl (Or.inl rfl)) (pss_one (ps_if (PW.pt (pw_or (pt_cmpR (op_eqX hr.units) (pe_ix (ix_X (hu1 hr)) (pe_ix (ix_X (hu1 hr)) (pv 8) (pv 9) (fun _ _ => rfl)) pe_int (fun _ _ => rfl)) pe_str (nomark _)) (pw_or1 (pt_cmpR (op_inX (hu65 hr)) (pe_ix (ix_X (hu1 hr)) (pe_ix (ix_X (hu1 hr)) (pv 8) (pv 9) (fun _ _ => rfl)) pe_int (fun _ _ => rfl)) (pe_call G__law_ahead_by (hr.mono (by decide)) (by rfl) g__law_ahead_by kp__law_ahead_by b__law_ahead_by .nil pass0 (pa_cons (pe_slice sl_X (pv 8) (po_some (pe_op op_addX (pv 9) pe_int)) po_none) (pa_cons (pv 7) pa_nil))) (by rfl))))) (pss_one (ps_expr (pe_bm PySem.F.plainAttrs_list PySem.F.slot_list_append PySem.F.type_list_append mt_append (pv 5) (pa_cons (pe_tup (pa_cons (pv 6) (pa_cons (pv 9) pa_nil))) pa_nil)))) pss_nil))))))))
      (pss_one (ps_ret (pv 5)))))))), body_ok (N := N__law_kept_by) (np := 1) (sv__law_kept_by) h⟩
theorem ok_ahead {f : Addr} {fd : FuncData} (F : Fun K "ahead" "ahead" s_ahead f fd) (m_reversed : mg "reversed" = none) (m_sorted : mg "sorted" = none) (m_list : mg "list" = none) : FnOk P w K mg base CX0 1 f fd ["rows", "behind"] (spF K R_ahead) := by
  refine F.ok (k := 0) sc_ahead (fun vs H Q E h => spF_len (sv_ahead) h) (fun cdv A outer s H vs Q E hr h => ?_)
  exact ⟨rd_ahead K, (pss_cons (ps_set (i := 2) sc_ahead.nd rfl (Or.inl rfl) pe_dnewK)
      (pss_cons (ps_for PassesOwn.never (by rfl) (pi_X (pv 1)) (pg_name (i := 3) sc_ahead.nd rfl (Or.inl rfl)) (pss_one (ps_asg pe_bl (pg_sub (pv 2) (pv 3) (set_X (hu1 hr))))))
      (pss_cons (ps_for PassesOwn.never (by rfl) (pi_reversed (by rfl) m_reversed (pa_cons (pv 0) pa_nil)) (pg_name (i := 4) sc_ahead.nd rfl (Or.inl rfl)) (pss_one (ps_if (pt_cmpR (op_eqX hr.units) (pe_ix (ix_X (hu1 hr)) (pv 4) pe_int (fun _ _ => rfl)) pe_str (nomark _)) (pss_one (ps_asg pe_bl (pg_sub (pv 2) (pe_ix (ix_X (hu1 hr)) (pv 4) pe_int (fun _ _ => rfl)) (set_X (hu1 hr))))) (pss_one (ps_if (pt_cmpR (op_inX (hu65 hr)) (pe_ix (ix_X (hu1 hr)) (pv 4) pe_int (fun _ _ => rfl)) (pv 2) (by rfl)) (pss_cons (ps_expr (pe_dpop1 (pv 2) (pe_ix (ix_X (hu1 hr)) (pv 4) pe_int (fun _ _ => rfl)) ⟨by rfl, by rfl, by rfl, by rfl⟩))
      (pss_one (ps_for PassesOwn.never (by rfl) (pi_X (pe_ix (ix_X (hu1 hr)) (pv 4) pe_int (fun _ _ => rfl))) (pg_name (i := 3) sc_ahead.nd rfl (Or.inl rfl)) (pss_one (ps_asg pe_bl (pg_sub (pv 2) (pv 3) (set_X (hu1 hr)))))))) pss_nil)))))
      (pss_one (ps_ret (pe_callB call_sortX (by rfl) m_sorted (by decide +kernel) (pa_cons (pe_callTy (call_listX rfl) (by rfl) m_list (by decide +kernel) (pa_cons (pv 2) pa_nil)) pa_nil))))))), body_ok (N := N_ahead) (np := 2) (sv_ahead) h⟩
theorem ok_behind_of {f : Addr} {fd : FuncData} (F : Fun K "behind_of" "behind_of" s_behind_of f fd) : FnOk P w K mg base CX0 1 f fd ["needs", "ways"] (spF K R_behind_of) := by
  refine F.ok (k := 0) sc_behind_of (fun vs H Q E h => spF_len (sv_behind_of) h) (fun cdv A outer s H vs Q E hr h => ?_)
  exact ⟨rd_behind_of K, (pss_cons (ps_set (i := 2) sc_behind_of.nd rfl (Or.inl rfl) (pe_lst pa_nil))
      (pss_cons (ps_for PassesOwn.never (by rfl) (pi_X (pv 1)) (pg_name (i := 3) sc_behind_of.nd rfl (Or.inl rfl)) (pss_one (ps_set (i := 2) sc_behind_of.nd rfl (Or.inl rfl) (pe_op op_addX (pv 2) (pe_ix (ix_X (hu1 hr)) (pv 0) (pv 3) (fun _ _ => rfl))))))
      (pss_one (ps_ret (pv 2))))), body_ok (N := N_behind_of) (np := 2) (sv_behind_of) h⟩
theorem ok_needed {f : Addr} {fd : FuncData} {f_ahead : Addr} {fd_ahead : FuncData} {f_behind_of : Addr} {fd_behind_of : FuncData} (F : Fun K "needed" "needed" s_needed f fd) (G_ahead : FnOk P w K mg base CX0 1 f_ahead fd_ahead ["rows", "behind"] (spF K R_ahead)) (g_ahead : mg "ahead" = some (.ref f_ahead)) (kp_ahead : PySem.W.keepIn K (.ref f_ahead) = true) (b_ahead : Binds K fd_ahead ["rows", "behind"] []) (G_behind_of : FnOk P w K mg base CX0 1 f_behind_of fd_behind_of ["needs", "ways"] (spF K R_behind_of)) (g_behind_of : mg "behind_of" = some (.ref f_behind_of)) (kp_behind_of : PySem.W.keepIn K (.ref f_behind_of) = true) (b_behind_of : Binds K fd_behind_of ["needs", "ways"] []) (m_range : mg "range" = none) (m_len : mg "len" = none) : FnOk P w K mg base CX0 2 f fd ["program"] (spF K R_needed) := by
  refine F.ok (k := 1) sc_needed (fun vs H Q E h => spF_len (sv_needed) h) (fun cdv A outer s H vs Q E hr h => ?_)
  exact ⟨rd_needed K, (pss_cons (ps_setLc (i := 1) (own := [("block", 6)]) (g := gName 6) (by rfl) sc_needed.nd rfl rfl (sw_true rfl rfl rfl (by decide +kernel)) (pi_X (pv 0)) (blkOk_by (own := [("block", 6)]) (N := N_needed) (sc := defScope s_needed) (by decide +kernel)) (fun _ _ _ _ _ => pg_name (i := 6) sc_needed.nd rfl (Or.inl rfl)) (fun _ _ _ _ _ => pts_nil) (fun _ _ _ _ _ => (pe_lst pa_nil)))
      (pss_cons (ps_set (i := 2) sc_needed.nd rfl (Or.inl rfl) pe_bl)
      (pss_cons (ps_while PassesOwn.never (pt_val (pv 2)) (pss_cons (ps_set (i := 2) sc_needed.nd rfl (Or.inl rfl) pe_bl)
      (pss_one (ps_for PassesOwn.never (by rfl) (pi_range1 (by rfl) m_range (pa_cons (pe_callB call_lenX (by rfl) m_len (by decide +kernel) (pa_cons (pv 0) pa_nil)) pa_nil)) (pg_name (i := 3) sc_needed.nd rfl (Or.inl rfl)) (pss_cons (ps_set (i := 4) sc_needed.nd rfl (Or.inl rfl) (pe_op op_subX (pe_op op_subX (pe_callB call_lenX (by rfl) m_len (by decide +kernel) (pa_cons (pv 0) pa_nil)) pe_int) (pv 3)))
      (pss_cons (ps_set (i := 5) sc_needed.nd rfl (Or.inl rfl) (pe_call G_ahead (hr.mono (by decide)) (by rfl) g_ahead kp_ahead b_ahead .nil pass0 (pa_cons (pe_ix (ix_X (hu1 hr)) (pe_ix (ix_X (hu1 hr)) (pv 0) (pv 4) (fun _ _ => rfl)) pe_int (fun _ _ => rfl)) (pa_cons (pe_call G_behind_of (hr.mono (by decide)) (by rfl) g_behind_of kp_behind_of b_behind_of .nil pass0 (pa_cons (pv 1) (pa_cons (pe_ix (ix_X (hu1 hr)) (pe_ix (ix_X (hu1 hr)) (pv 0) (pv 4) (fun _ _ => rfl)) pe_int (fun _ _ => rfl)) pa_nil))) pa_nil))))
      (pss_one (ps_if (pt_cmpR (op_neX hr.units) (pv 5) (pe_ix (ix_X (hu1 hr)) (pv 1) (pv 4) (fun _ _ => rfl)) (nomark _)) (pss_cons (ps_asg (pv 5) (pg_sub (pv 1) (pv 4) (set_X (hu1 hr))))
      (pss_one (ps_set (i := 2) sc_needed.nd rfl (Or.inl rfl) pe_bl))) pss_nil))))))))
      (pss_one (ps_ret (pv 1)))))), body_ok (N := N_needed) (np := 1) (sv_needed) h⟩
theorem ok_reached {f : Addr} {fd : FuncData} (F : Fun K "reached" "reached" s_reached f fd) (m_len : mg "len" = none) (m_sorted : mg "sorted" = none) : FnOk P w K mg base CX0 1 f fd ["program"] (spF K R_reached) := by
  refine F.ok (k := 0) sc_reached (fun vs H Q E h => spF_len (sv_reached) h) (fun cdv A outer s H vs Q E hr h => ?_)
  exact ⟨rd_reached K, (pss_cons (ps_set (i := 1) sc_reached.nd rfl (Or.inl rfl) (pe_disp (pps_cons pe_int pe_bl pps_nil) (by rfl) (by rfl) (fun z => by cases z) (by decide)))
      (pss_cons (ps_set (i := 2) sc_reached.nd rfl (Or.inl rfl) (pe_lst (pa_cons pe_int pa_nil)))
      (pss_cons (ps_set (i := 3) sc_reached.nd rfl (Or.inl rfl) pe_int)
      (pss_cons (ps_while PassesOwn.never (pt_cmpR op_ltX (pv 3) (pe_callB call_lenX (by rfl) m_len (by decide +kernel) (pa_cons (pv 2) pa_nil)) (nomark _)) (pss_cons (ps_for PassesOwn.never (by rfl) (pi_X (pe_ix (ix_X (hu1 hr)) (pe_ix (ix_X (hu1 hr)) (pv 0) (pe_ix (ix_X (hu1 hr)) (pv 2) (pv 3) (fun _ _ => rfl)) (fun _ _ => rfl)) pe_int (fun _ _ => rfl))) (pg_name (i := 4) sc_reached.nd rfl (Or.inl rfl)) (pss_one (ps_if (pt_cmpR (op_niX (hu65 hr)) (pv 4) (pv 1) (by rfl)) (pss_cons (ps_asg pe_bl (pg_sub (pv 1) (pv 4) (set_X (hu1 hr))))
      (pss_one (ps_expr (pe_bm PySem.F.plainAttrs_list PySem.F.slot_list_append PySem.F.type_list_append mt_append (pv 2) (pa_cons (pv 4) pa_nil))))) pss_nil)))
      (pss_one (ps_set (i := 3) sc_reached.nd rfl (Or.inl rfl) (pe_op op_addX (pv 3) pe_int)))))
      (pss_one (ps_ret (pe_callB call_sortX (by rfl) m_sorted (by decide +kernel) (pa_cons (pv 2) pa_nil)))))))), body_ok (N := N_reached) (np := 1) (sv_reached) h⟩
theorem ok_standing {f : Addr} {fd : FuncData} (F : Fun K "standing" "standing" s_standing f fd) (m_range : mg "range" = none) (m_len : mg "len" = none) (m_sorted : mg "sorted" = none) : FnOk P w K mg base CX0 1 f fd ["rows", "behind"] (spF K R_standing) := by
  refine F.ok (k := 0) sc_standing (fun vs H Q E h => spF_len (sv_standing) h) (fun cdv A outer s H vs Q E hr h => ?_)
  exact ⟨rd_standing K, (pss_cons (ps_set (i := 2) sc_standing.nd rfl (Or.inl rfl) pe_dnewK)
      (pss_cons (ps_for PassesOwn.never (by rfl) (pi_X (pv 1)) (pg_name (i := 3) sc_standing.nd rfl (Or.inl rfl)) (pss_one (ps_asg pe_bl (pg_sub (pv 2) (pv 3) (set_X (hu1 hr))))))
      (pss_cons (ps_set (i := 4) sc_standing.nd rfl (Or.inl rfl) (pe_lst pa_nil))
      (pss_cons (ps_for PassesOwn.never (by rfl) (pi_range1 (by rfl) m_range (pa_cons (pe_callB call_lenX (by rfl) m_len (by decide +kernel) (pa_cons (pv 0) pa_nil)) pa_nil)) (pg_name (i := 5) sc_standing.nd rfl (Or.inl rfl)) (pss_cons (ps_set (i := 6) sc_standing.nd rfl (Or.inl rfl) (pe_op op_subX (pe_op op_subX (pe_callB call_lenX (by rfl) m_len (by decide +kernel) (pa_cons (pv 0) pa_nil)) pe_int) (pv 5)))
      (pss_cons (ps_set (i := 7) sc_standing.nd rfl (Or.inl rfl) (pe_ix (ix_X (hu1 hr)) (pv 0) (pv 6) (fun _ _ => rfl)))
      (pss_one (ps_if (pt_cmpR (op_eqX hr.units) (pe_ix (ix_X (hu1 hr)) (pv 7) pe_int (fun _ _ => rfl)) pe_str (nomark _)) (pss_cons (ps_asg pe_bl (pg_sub (pv 2) (pe_ix (ix_X (hu1 hr)) (pv 7) pe_int (fun _ _ => rfl)) (set_X (hu1 hr))))
      (pss_one (ps_expr (pe_bm PySem.F.plainAttrs_list PySem.F.slot_list_append PySem.F.type_list_append mt_append (pv 4) (pa_cons (pv 6) pa_nil))))) (pss_one (ps_if (pt_cmpR (op_inX (hu65 hr)) (pe_ix (ix_X (hu1 hr)) (pv 7) pe_int (fun _ _ => rfl)) (pv 2) (by rfl)) (pss_cons (ps_expr (pe_dpop1 (pv 2) (pe_ix (ix_X (hu1 hr)) (pv 7) pe_int (fun _ _ => rfl)) ⟨by rfl, by rfl, by rfl, by rfl⟩))
      (pss_cons (ps_for PassesOwn.never (by rfl) (pi_X (pe_ix (ix_X (hu1 hr)) (pv 7) pe_int (fun _ _ => rfl))) (pg_name (i := 3) sc_standing.nd rfl (Or.inl rfl)) (pss_one (ps_asg pe_bl (pg_sub (pv 2) (pv 3) (set_X (hu1 hr))))))
      (pss_one (ps_expr (pe_bm PySem.F.plainAttrs_list PySem.F.slot_list_append PySem.F.type_list_append mt_append (pv 4) (pa_cons (pv 6) pa_nil)))))) pss_nil)))))))
      (pss_one (ps_ret (pe_callB call_sortX (by rfl) m_sorted (by decide +kernel) (pa_cons (pv 4) pa_nil)))))))), body_ok (N := N_standing) (np := 2) (sv_standing) h⟩
theorem ok_kept {f : Addr} {fd : FuncData} {f_needed : Addr} {fd_needed : FuncData} {f_reached : Addr} {fd_reached : FuncData} {f_standing : Addr} {fd_standing : FuncData} {f_behind_of : Addr} {fd_behind_of : FuncData} (F : Fun K "kept" "kept" s_kept f fd) (G_needed : FnOk P w K mg base CX0 2 f_needed fd_needed ["program"] (spF K R_needed)) (g_needed : mg "needed" = some (.ref f_needed)) (kp_needed : PySem.W.keepIn K (.ref f_needed) = true) (b_needed : Binds K fd_needed ["program"] []) (G_reached : FnOk P w K mg base CX0 1 f_reached fd_reached ["program"] (spF K R_reached)) (g_reached : mg "reached" = some (.ref f_reached)) (kp_reached : PySem.W.keepIn K (.ref f_reached) = true) (b_reached : Binds K fd_reached ["program"] []) (G_standing : FnOk P w K mg base CX0 1 f_standing fd_standing ["rows", "behind"] (spF K R_standing)) (g_standing : mg "standing" = some (.ref f_standing)) (kp_standing : PySem.W.keepIn K (.ref f_standing) = true) (b_standing : Binds K fd_standing ["rows", "behind"] []) (G_behind_of : FnOk P w K mg base CX0 1 f_behind_of fd_behind_of ["needs", "ways"] (spF K R_behind_of)) (g_behind_of : mg "behind_of" = some (.ref f_behind_of)) (kp_behind_of : PySem.W.keepIn K (.ref f_behind_of) = true) (b_behind_of : Binds K fd_behind_of ["needs", "ways"] []) : FnOk P w K mg base CX0 3 f fd ["program"] (spF K R_kept) := by
  refine F.ok (k := 2) sc_kept (fun vs H Q E h => spF_len (sv_kept) h) (fun cdv A outer s H vs Q E hr h => ?_)
  exact ⟨rd_kept K, (pss_cons (ps_set (i := 1) sc_kept.nd rfl (Or.inl rfl) (pe_call G_needed (hr.mono (by decide)) (by rfl) g_needed kp_needed b_needed .nil pass0 (pa_cons (pv 0) pa_nil)))
      (pss_cons (ps_set (i := 2) sc_kept.nd rfl (Or.inl rfl) (pe_lst pa_nil))
      (pss_cons (ps_for PassesOwn.never (by rfl) (pi_X (pe_call G_reached (hr.mono (by decide)) (by rfl) g_reached kp_reached b_reached .nil pass0 (pa_cons (pv 0) pa_nil))) (pg_name (i := 3) sc_kept.nd rfl (Or.inl rfl)) (pss_one (ps_for PassesOwn.never (by rfl) (pi_X (pe_call G_standing (hr.mono (by decide)) (by rfl) g_standing kp_standing b_standing .nil pass0 (pa_cons (pe_ix (ix_X (hu1 hr)) (pe_ix (ix_X (hu1 hr)) (pv 0) (pv 3) (fun _ _ => rfl)) pe_int (fun _ _ => rfl)) (pa_cons (pe_call G_behind_of (hr.mono (by decide)) (by rfl) g_behind_of kp_behind_of b_behind_of .nil pass0 (pa_cons (pv 1) (pa_cons (pe_ix (ix_X (hu1 hr)) (pe_ix (ix_X (hu1 hr)) (pv 0) (pv 3) (fun _ _ => rfl)) pe_int (fun _ _ => rfl)) pa_nil))) pa_nil)))) (pg_name (i := 4) sc_kept.nd rfl (Or.inl rfl)) (pss_one (ps_expr (pe_bm PySem.F.plainAttrs_list PySem.F.slot_list_append PySem.F.type_list_append mt_append (pv 2) (pa_cons (pe_tup (pa_cons (pv 3) (pa_cons (pv 4) pa_nil))) pa_nil)))))))
      (pss_one (ps_ret (pv 2)))))), body_ok (N := N_kept) (np := 1) (sv_kept) h⟩
theorem ok_cut {f : Addr} {fd : FuncData} {f_kept : Addr} {fd_kept : FuncData} (F : Fun K "cut" "cut" s_cut f fd) (G_kept : FnOk P w K mg base CX0 3 f_kept fd_kept ["program"] (spF K R_kept)) (g_kept : mg "kept" = some (.ref f_kept)) (kp_kept : PySem.W.keepIn K (.ref f_kept) = true) (b_kept : Binds K fd_kept ["program"] []) (m_list : mg "list" = none) : FnOk P w K mg base CX0 4 f fd ["program"] (spF K R_cutD) := by
  refine F.ok (k := 3) sc_cut (fun vs H Q E h => spF_len (sv_cutD) h) (fun cdv A outer s H vs Q E hr h => ?_)
  exact ⟨rd_cutD K, (pss_cons (ps_setLc (i := 1) (own := [("block", 3)]) (g := gName 3) (by rfl) sc_cut.nd rfl rfl (sw_true rfl rfl rfl (by decide +kernel)) (pi_X (pv 0)) (blkOk_by (own := [("block", 3)]) (N := N_cut) (sc := defScope s_cut) (by decide +kernel)) (fun _ _ _ _ _ => pg_name (i := 3) sc_cut.nd rfl (Or.inl rfl)) (fun _ _ _ _ _ => pts_nil) (fun _ _ _ _ _ => (pe_tup (pa_cons (pe_lst pa_nil) (pa_cons (pe_callTy (call_listX rfl) (by rfl) m_list (by decide +kernel) (pa_cons (pe_ix (ix_X (hu1 hr)) (pv 3) pe_int (fun _ _ => rfl)) pa_nil)) pa_nil)))))
      (pss_cons (ps_for PassesOwn.never (by rfl) (pi_X (pe_call G_kept (hr.mono (by decide)) (by rfl) g_kept kp_kept b_kept .nil pass0 (pa_cons (pv 0) pa_nil))) (pg_name (i := 2) sc_cut.nd rfl (Or.inl rfl)) (pss_one (ps_expr (pe_bm PySem.F.plainAttrs_list PySem.F.slot_list_append PySem.F.type_list_append mt_append (pe_ix (ix_X (hu1 hr)) (pe_ix (ix_X (hu1 hr)) (pv 1) (pe_ix (ix_X (hu1 hr)) (pv 2) pe_int (fun _ _ => rfl)) (fun _ _ => rfl)) pe_int (fun _ _ => rfl)) (pa_cons (pe_ix (ix_X (hu1 hr)) (pe_ix (ix_X (hu1 hr)) (pe_ix (ix_X (hu1 hr)) (pv 0) (pe_ix (ix_X (hu1 hr)) (pv 2) pe_int (fun _ _ => rfl)) (fun _ _ => rfl)) pe_int (fun _ _ => rfl)) (pe_ix (ix_X (hu1 hr)) (pv 2) pe_int (fun _ _ => rfl)) (fun _ _ => rfl)) pa_nil)))))
      (pss_one (ps_ret (pv 1))))), body_ok (N := N_cut) (np := 1) (sv_cutD) h⟩
theorem ok_without {f : Addr} {fd : FuncData} (F : Fun K "without" "without" s_without f fd) (m_len : mg "len" = none) (m_range : mg "range" = none) (m_list : mg "list" = none) : FnOk P w K mg base CX0 1 f fd ["program", "places"] (spF K R_without) := by
  refine F.ok (k := 0) sc_without (fun vs H Q E h => spF_len (sv_without) h) (fun cdv A outer s H vs Q E hr h => ?_)
  exact ⟨rd_without K, (pss_cons (ps_set (i := 2) sc_without.nd rfl (Or.inr rfl) pe_dnewT)
      (pss_cons (ps_for PassesOwn.never (by rfl) (pi_X (pv 1)) (pg_name (i := 3) sc_without.nd rfl (Or.inl rfl)) (pss_cons (ps_if (PW.pt (pw_or (pt_cmpR op_ltX (pe_ix (ix_X (hu1 hr)) (pv 3) pe_int (fun _ _ => rfl)) pe_int (nomark _)) (pw_or1 (pt_cmpR op_geX (pe_ix (ix_X (hu1 hr)) (pv 3) pe_int (fun _ _ => rfl)) (pe_callB call_lenX (by rfl) m_len (by decide +kernel) (pa_cons (pv 0) pa_nil)) (nomark _))))) (pss_one Sf.ps_never) pss_nil)
      (pss_cons (ps_if (PW.pt (pw_or (pt_cmpR op_ltX (pe_ix (ix_X (hu1 hr)) (pv 3) pe_int (fun _ _ => rfl)) pe_int (nomark _)) (pw_or1 (pt_cmpR op_geX (pe_ix (ix_X (hu1 hr)) (pv 3) pe_int (fun _ _ => rfl)) (pe_callB call_lenX (by rfl) m_len (by decide +kernel) (pa_cons (pe_ix (ix_X (hu1 hr)) (pe_ix (ix_X (hu1 hr)) (pv 0) (pe_ix (ix_X (hu1 hr)) (pv 3) pe_int (fun _ _ => rfl)) (fun _ _ => rfl)) pe_int (fun _ _ => rfl)) pa_nil)) (nomark _))))) (pss_one Sf.ps_never) pss_nil)
      (pss_one (ps_asg pe_bl (pg_sub (pv 2) (pv 3) (set_X (hu1 hr))))))))
      (pss_cons (ps_set (i := 4) sc_without.nd rfl (Or.inl rfl) (pe_lst pa_nil))
      (pss_cons (ps_for PassesOwn.never (by rfl) (pi_range1 (by rfl) m_range (pa_cons (pe_callB call_lenX (by rfl) m_len (by decide +kernel) (pa_cons (pv 0) pa_nil)) pa_nil)) (pg_name (i := 5) sc_without.nd rfl (Or.inr rfl)) (pss_cons (ps_set (i := 6) sc_without.nd rfl (Or.inr rfl) (pe_ix (ix_X (hu1 hr)) (pe_ix (ix_X (hu1 hr)) (pv 0) (pv 5) (fun _ _ => rfl)) pe_int (fun _ _ => rfl)))
      (pss_cons (ps_setLc (i := 7) (own := [("at", 8)]) (g := gName 8) (by rfl) sc_without.nd rfl rfl (sw_true rfl rfl rfl (by decide +kernel)) (pi_range1 (by rfl) m_range (pa_cons (pe_callB call_lenX (by rfl) m_len (by decide +kernel) (pa_cons (pv 6) pa_nil)) pa_nil)) (blkOk_by (own := [("at", 8)]) (N := N_without) (sc := defScope s_without) (by decide +kernel)) (fun _ _ _ _ _ => pg_name (i := 8) sc_without.nd rfl (Or.inl rfl)) (fun _ _ _ _ _ => (pts_one (pt_cmpR (op_niX (hu65 hr)) (pe_tup (pa_cons (pv 5) (pa_cons (pv 8) pa_nil))) (pv 2) (by rfl)))) (fun _ _ _ _ _ => (pe_ix (ix_X (hu1 hr)) (pv 6) (pv 8) (fun _ _ => rfl))))
      (pss_one (ps_expr (pe_bm PySem.F.plainAttrs_list PySem.F.slot_list_append PySem.F.type_list_append mt_append (pv 4) (pa_cons (pe_tup (pa_cons (pv 7) (pa_cons (pe_callTy (call_listX rfl) (by rfl) m_list (by decide +kernel) (pa_cons (pe_ix (ix_X (hu1 hr)) (pe_ix (ix_X (hu1 hr)) (pv 0) (pv 5) (fun _ _ => rfl)) pe_int (fun _ _ => rfl)) pa_nil)) pa_nil))) pa_nil)))))))
      (pss_one (ps_ret (pv 4))))))), body_ok (N := N_without) (np := 2) (sv_without) h⟩
theorem ok__law_whole {f : Addr} {fd : FuncData} (F : Fun K "_law_whole" "_law_whole" s__law_whole f fd) (m_isinstance : mg "isinstance" = none) (m_int : mg "int" = none) (m_bool : mg "bool" = none) : FnOk P w K mg base CX0 1 f fd ["_law_found"] (spF K R__law_whole) := by
  refine F.ok (k := 0) sc__law_whole (fun vs H Q E h => spF_len (sv__law_whole) h) (fun cdv A outer s H vs Q E hr h => ?_)
  exact ⟨rd__law_whole K, (pss_one (ps_ret (pe_and (pe_callB call_isiX (by rfl) m_isinstance (by decide +kernel) (pa_cons (pv 0) (pa_cons (pe_bltn (v := .ty "int") (by rfl) m_int (by decide +kernel) rfl) pa_nil))) (pe_one (pe_not (pe_callB call_isiX (by rfl) m_isinstance (by decide +kernel) (pa_cons (pv 0) (pa_cons (pe_bltn (v := .ty "bool") (by rfl) m_bool (by decide +kernel) rfl) pa_nil)))))))), body_ok (N := N__law_whole) (np := 1) (sv__law_whole) h⟩
theorem ok__law_numbers {f : Addr} {fd : FuncData} {f__law_whole : Addr} {fd__law_whole : FuncData} (F : Fun K "_law_numbers" "_law_numbers" s__law_numbers f fd) (G__law_whole : FnOk P w K mg base CX0 1 f__law_whole fd__law_whole ["_law_found"] (spF K R__law_whole)) (g__law_whole : mg "_law_whole" = some (.ref f__law_whole)) (kp__law_whole : PySem.W.keepIn K (.ref f__law_whole) = true) (b__law_whole : Binds K fd__law_whole ["_law_found"] []) (m_isinstance : mg "isinstance" = none) (m_list : mg "list" = none) (m_len : mg "len" = none) (m_range : mg "range" = none) : FnOk P w K mg base CX0 2 f fd ["_law_found", "_law_due"] (spF K R__law_numbers) := by
  refine F.ok (k := 1) sc__law_numbers (fun vs H Q E h => spF_len (sv__law_numbers) h) (fun cdv A outer s H vs Q E hr h => ?_)
  exact ⟨rd__law_numbers K, (pss_cons (ps_if (PW.pt (pw_or (pt_not (pt_val (pe_callB call_isiX (by rfl) m_isinstance (by decide +kernel) (pa_cons (pv 0) (pa_cons (pe_bltn (v := .ty "list") (by rfl) m_list (by decide +kernel) rfl) pa_nil))))) (pw_or1 (pt_cmpR (op_neX hr.units) (pe_callB call_lenX (by rfl) m_len (by decide +kernel) (pa_cons (pv 0) pa_nil)) (pe_callB call_lenX (by rfl) m_len (by decide +kernel) (pa_cons (pv 1) pa_nil)) (nomark _))))) (pss_one (ps_ret pe_bl)) pss_nil)
      (pss_cons (ps_for PassesOwn.never (by rfl) (pi_range1 (by rfl) m_range (pa_cons (pe_callB call_lenX (by rfl) m_len (by decide +kernel) (pa_cons (pv 1) pa_nil)) pa_nil)) (pg_name (i := 2) sc__law_numbers.nd rfl (Or.inl rfl)) (pss_one (ps_if (PW.pt (pw_or (pt_not (pt_val (pe_call G__law_whole (hr.mono (by decide)) (by rfl) g__law_whole kp__law_whole b__law_whole .nil pass0 (pa_cons (pe_ix (ix_X (hu1 hr)) (pv 0) (pv 2) (fun _ _ => rfl)) pa_nil)))) (pw_or1 (pt_cmpR (op_neX hr.units) (pe_ix (ix_X (hu1 hr)) (pv 0) (pv 2) (fun _ _ => rfl)) (pe_ix (ix_X (hu1 hr)) (pv 1) (pv 2) (fun _ _ => rfl)) (nomark _))))) (pss_one (ps_ret pe_bl)) pss_nil)))
      (pss_one (ps_ret pe_bl)))), body_ok (N := N__law_numbers) (np := 2) (sv__law_numbers) h⟩
theorem ok__law_row_same {f : Addr} {fd : FuncData} (F : Fun K "_law_row_same" "_law_row_same" s__law_row_same f fd) (m_isinstance : mg "isinstance" = none) (m_tuple : mg "tuple" = none) (m_all : mg "all" = none) (m_str : mg "str" = none) (m_len : mg "len" = none) : FnOk P w K mg base CX0 1 f fd ["_law_found", "_law_due"] (spF K R__law_row_same) := by
  refine F.ok (k := 0) sc__law_row_same (fun vs H Q E h => spF_len (sv__law_row_same) h) (fun cdv A outer s H vs Q E hr h => ?_)
  exact ⟨rd__law_row_same K, (pss_cons (ps_if (PW.pt (pw_or (pt_not (pt_val (pe_callB call_isiX (by rfl) m_isinstance (by decide +kernel) (pa_cons (pv 0) (pa_cons (pe_bltn (v := .ty "tuple") (by rfl) m_tuple (by decide +kernel) rfl) pa_nil))))) (pw_or1 (pt_cmpR (op_neX hr.units) (pv 0) (pv 1) (nomark _))))) (pss_one (ps_ret pe_bl)) pss_nil)
      (pss_cons (ps_if (pt_not (pt_val (pe_callB (call_allX rfl) (by rfl) m_all (by decide +kernel) (pa_cons (pe_lc (own := [("_law_part", 2)]) (g := gName 2) (by rfl) sc__law_row_same.nd (pi_X (pe_slice sl_X (pv 0) po_none (po_some pe_int))) (blkOk_by (own := [("_law_part", 2)]) (N := N__law_row_same) (sc := defScope s__law_row_same) (by decide +kernel)) (fun _ _ _ _ _ => pg_name (i := 2) sc__law_row_same.nd rfl (Or.inl rfl)) (fun _ _ _ _ _ => pts_nil) (fun _ _ _ _ _ => (pe_callB call_isiX (by rfl) m_isinstance (by decide +kernel) (pa_cons (pv 2) (pa_cons (pe_bltn (v := .ty "str") (by rfl) m_str (by decide +kernel) rfl) pa_nil))))) pa_nil)))) (pss_one (ps_ret pe_bl)) pss_nil)
      (pss_cons (ps_if (pt_cmpR (op_eqX hr.units) (pe_callB call_lenX (by rfl) m_len (by decide +kernel) (pa_cons (pv 0) pa_nil)) pe_int (nomark _)) (pss_one (ps_ret (pe_and (pe_callB call_isiX (by rfl) m_isinstance (by decide +kernel) (pa_cons (pe_ix (ix_X (hu1 hr)) (pv 0) pe_int (fun _ _ => rfl)) (pa_cons (pe_bltn (v := .ty "tuple") (by rfl) m_tuple (by decide +kernel) rfl) pa_nil))) (pe_one (pe_callB (call_allX rfl) (by rfl) m_all (by decide +kernel) (pa_cons (pe_lc (own := [("_law_part", 2)]) (g := gName 2) (by rfl) sc__law_row_same.nd (pi_X (pe_ix (ix_X (hu1 hr)) (pv 0) pe_int (fun _ _ => rfl))) (blkOk_by (own := [("_law_part", 2)]) (N := N__law_row_same) (sc := defScope s__law_row_same) (by decide +kernel)) (fun _ _ _ _ _ => pg_name (i := 2) sc__law_row_same.nd rfl (Or.inl rfl)) (fun _ _ _ _ _ => pts_nil) (fun _ _ _ _ _ => (pe_callB call_isiX (by rfl) m_isinstance (by decide +kernel) (pa_cons (pv 2) (pa_cons (pe_bltn (v := .ty "str") (by rfl) m_str (by decide +kernel) rfl) pa_nil))))) pa_nil)))))) pss_nil)
      (pss_one (ps_ret pe_bl))))), body_ok (N := N__law_row_same) (np := 2) (sv__law_row_same) h⟩
theorem ok__law_same {f : Addr} {fd : FuncData} {f__law_numbers : Addr} {fd__law_numbers : FuncData} {f__law_row_same : Addr} {fd__law_row_same : FuncData} (F : Fun K "_law_same" "_law_same" s__law_same f fd) (G__law_numbers : FnOk P w K mg base CX0 2 f__law_numbers fd__law_numbers ["_law_found", "_law_due"] (spF K R__law_numbers)) (g__law_numbers : mg "_law_numbers" = some (.ref f__law_numbers)) (kp__law_numbers : PySem.W.keepIn K (.ref f__law_numbers) = true) (b__law_numbers : Binds K fd__law_numbers ["_law_found", "_law_due"] []) (G__law_row_same : FnOk P w K mg base CX0 1 f__law_row_same fd__law_row_same ["_law_found", "_law_due"] (spF K R__law_row_same)) (g__law_row_same : mg "_law_row_same" = some (.ref f__law_row_same)) (kp__law_row_same : PySem.W.keepIn K (.ref f__law_row_same) = true) (b__law_row_same : Binds K fd__law_row_same ["_law_found", "_law_due"] []) (m_isinstance : mg "isinstance" = none) (m_list : mg "list" = none) (m_len : mg "len" = none) (m_range : mg "range" = none) (m_tuple : mg "tuple" = none) : FnOk P w K mg base CX0 3 f fd ["_law_found", "_law_due"] (spF K R__law_same) := by
  refine F.ok (k := 2) sc__law_same (fun vs H Q E h => spF_len (sv__law_same) h) (fun cdv A outer s H vs Q E hr h => ?_)
  exact ⟨rd__law_same K, (pss_cons (ps_if (PW.pt (pw_or (pt_not (pt_val (pe_callB call_isiX (by rfl) m_isinstance (by decide +kernel) (pa_cons (pv 0) (pa_cons (pe_bltn (v := .ty "list") (by rfl) m_list (by decide +kernel) rfl) pa_nil))))) (pw_or1 (pt_cmpR (op_neX hr.units) (pe_callB call_lenX (by rfl) m_len (by decide +kernel) (pa_cons (pv 0) pa_nil)) (pe_callB call_lenX (by rfl) m_len (by decide +kernel) (pa_cons (pv 1) pa_nil)) (nomark _))))) (pss_one (ps_ret pe_bl)) pss_nil)
      (pss_cons (ps_for PassesOwn.never (by rfl) (pi_range1 (by rfl) m_range (pa_cons (pe_callB call_lenX (by rfl) m_len (by decide +kernel) (pa_cons (pv 1) pa_nil)) pa_nil)) (pg_name (i := 2) sc__law_same.nd rfl (Or.inl rfl)) (pss_cons (ps_set (i := 3) sc__law_same.nd rfl (Or.inl rfl) (pe_ix (ix_X (hu1 hr)) (pv 0) (pv 2) (fun _ _ => rfl)))
      (pss_cons (ps_if (PW.pt (pw_or (pt_not (pt_val (pe_callB call_isiX (by rfl) m_isinstance (by decide +kernel) (pa_cons (pv 3) (pa_cons (pe_bltn (v := .ty "tuple") (by rfl) m_tuple (by decide +kernel) rfl) pa_nil))))) (pw_or (pt_cmpR (op_neX hr.units) (pe_callB call_lenX (by rfl) m_len (by decide +kernel) (pa_cons (pv 3) pa_nil)) pe_int (nomark _)) (pw_or1 (pt_not (pt_val (pe_callB call_isiX (by rfl) m_isinstance (by decide +kernel) (pa_cons (pe_ix (ix_X (hu1 hr)) (pv 3) pe_int (fun _ _ => rfl)) (pa_cons (pe_bltn (v := .ty "list") (by rfl) m_list (by decide +kernel) rfl) pa_nil))))))))) (pss_one (ps_ret pe_bl)) pss_nil)
      (pss_cons (ps_if (PW.pt (pw_or (pt_cmpR (op_neX hr.units) (pe_callB call_lenX (by rfl) m_len (by decide +kernel) (pa_cons (pe_ix (ix_X (hu1 hr)) (pv 3) pe_int (fun _ _ => rfl)) pa_nil)) (pe_callB call_lenX (by rfl) m_len (by decide +kernel) (pa_cons (pe_ix (ix_X (hu1 hr)) (pe_ix (ix_X (hu1 hr)) (pv 1) (pv 2) (fun _ _ => rfl)) pe_int (fun _ _ => rfl)) pa_nil)) (nomark _)) (pw_or1 (pt_not (pt_val (pe_call G__law_numbers (hr.mono (by decide)) (by rfl) g__law_numbers kp__law_numbers b__law_numbers .nil pass0 (pa_cons (pe_ix (ix_X (hu1 hr)) (pv 3) pe_int (fun _ _ => rfl)) (pa_cons (pe_ix (ix_X (hu1 hr)) (pe_ix (ix_X (hu1 hr)) (pv 1) (pv 2) (fun _ _ => rfl)) pe_int (fun _ _ => rfl)) pa_nil)))))))) (pss_one (ps_ret pe_bl)) pss_nil)
      (pss_one (ps_for PassesOwn.never (by rfl) (pi_range1 (by rfl) m_range (pa_cons (pe_callB call_lenX (by rfl) m_len (by decide +kernel) (pa_cons (pe_ix (ix_X (hu1 hr)) (pv 3) pe_int (fun _ _ => rfl)) pa_nil)) pa_nil)) (pg_name (i := 4) sc__law_same.nd rfl (Or.inl rfl)) (pss_one (ps_if (pt_not (pt_val (pe_call G__law_row_same (hr.mono (by decide)) (by rfl) g__law_row_same kp__law_row_same b__law_row_same .nil pass0 (pa_cons (pe_ix (ix_X (hu1 hr)) (pe_ix (ix_X (hu1 hr)) (pv 3) pe_int (fun _ _ => rfl)) (pv 4) (fun _ _ => rfl)) (pa_cons (pe_ix (ix_X (hu1 hr)) (pe_ix (ix_X (hu1 hr)) (pe_ix (ix_X (hu1 hr)) (pv 1) (pv 2) (fun _ _ => rfl)) pe_int (fun _ _ => rfl)) (pv 4) (fun _ _ => rfl)) pa_nil))))) (pss_one (ps_ret pe_bl)) pss_nil))))))))
      (pss_one (ps_ret pe_bl)))), body_ok (N := N__law_same) (np := 2) (sv__law_same) h⟩
theorem ok__law_pairs {f : Addr} {fd : FuncData} {f__law_whole : Addr} {fd__law_whole : FuncData} (F : Fun K "_law_pairs" "_law_pairs" s__law_pairs f fd) (G__law_whole : FnOk P w K mg base CX0 1 f__law_whole fd__law_whole ["_law_found"] (spF K R__law_whole)) (g__law_whole : mg "_law_whole" = some (.ref f__law_whole)) (kp__law_whole : PySem.W.keepIn K (.ref f__law_whole) = true) (b__law_whole : Binds K fd__law_whole ["_law_found"] []) (m_isinstance : mg "isinstance" = none) (m_list : mg "list" = none) (m_all : mg "all" = none) (m_tuple : mg "tuple" = none) : FnOk P w K mg base CX0 2 f fd ["_law_found", "_law_due"] (spF K R__law_pairs) := by
  refine F.ok (k := 1) sc__law_pairs (fun vs H Q E h => spF_len (sv__law_pairs) h) (fun cdv A outer s H vs Q E hr h => ?_)
  exact ⟨rd__law_pairs K, (pss_cons (ps_if (PW.pt (pw_or (pt_not (pt_val (pe_callB call_isiX (by rfl) m_isinstance (by decide +kernel) (pa_cons (pv 0) (pa_cons (pe_bltn (v := .ty "list") (by rfl) m_list (by decide +kernel) rfl) pa_nil))))) (pw_or1 (pt_cmpR (op_neX hr.units) (pv 0) (pv 1) (nomark _))))) (pss_one (ps_ret pe_bl)) pss_nil)
      (pss_one (ps_ret (pe_callB (call_allX rfl) (by rfl) m_all (by decide +kernel) (pa_cons (pe_lc (own := [("_law_place", 2)]) (g := gName 2) (by rfl) sc__law_pairs.nd (pi_X (pv 0)) (blkOk_by (own := [("_law_place", 2)]) (N := N__law_pairs) (sc := defScope s__law_pairs) (by decide +kernel)) (fun _ _ _ _ _ => pg_name (i := 2) sc__law_pairs.nd rfl (Or.inl rfl)) (fun _ _ _ _ _ => pts_nil) (fun _ _ _ _ _ => (pe_and (pe_callB call_isiX (by rfl) m_isinstance (by decide +kernel) (pa_cons (pv 2) (pa_cons (pe_bltn (v := .ty "tuple") (by rfl) m_tuple (by decide +kernel) rfl) pa_nil))) (pe_and (pe_call G__law_whole (hr.mono (by decide)) (by rfl) g__law_whole kp__law_whole b__law_whole .nil pass0 (pa_cons (pe_ix (ix_X (hu1 hr)) (pv 2) pe_int (fun _ _ => rfl)) pa_nil)) (pe_one (pe_call G__law_whole (hr.mono (by decide)) (by rfl) g__law_whole kp__law_whole b__law_whole .nil pass0 (pa_cons (pe_ix (ix_X (hu1 hr)) (pv 2) pe_int (fun _ _ => rfl)) pa_nil))))))) pa_nil))))), body_ok (N := N__law_pairs) (np := 2) (sv__law_pairs) h⟩
theorem ok__law_without_by {f : Addr} {fd : FuncData} (F : Fun K "_law_without_by" "_law_without_by" s__law_without_by f fd) (m_range : mg "range" = none) (m_len : mg "len" = none) (m_list : mg "list" = none) : FnOk P w K mg base CX0 1 f fd ["_law_program", "_law_places_here"] (spF K R__law_without_by) := by
  refine F.ok (k := 0) sc__law_without_by (fun vs H Q E h => spF_len (sv__law_without_by) h) (fun cdv A outer s H vs Q E hr h => ?_)
  exact ⟨rd__law_without_by K, (pss_cons (ps_set (i := 2) sc__law_without_by.nd rfl (Or.inl rfl) (pe_lst pa_nil))
      (pss_cons (ps_for PassesOwn.never (by rfl) (pi_range1 (by rfl) m_range (pa_cons (pe_callB call_lenX (by rfl) m_len (by decide +kernel) (pa_cons (pv 0) pa_nil)) pa_nil)) (pg_name (i := 3) sc__law_without_by.nd rfl (Or.inr rfl)) (pss_cons (ps_set (i := 4) sc__law_without_by.nd rfl (Or.inr rfl) (pe_ix (ix_X (hu1 hr)) (pe_ix (ix_X (hu1 hr)) (pv 0) (pv 3) (fun _ _ => rfl)) pe_int (fun _ _ => rfl)))
      (pss_cons (ps_setLc (i := 5) (own := [("_law_at", 6)]) (g := gName 6) (by rfl) sc__law_without_by.nd rfl rfl (sw_true rfl rfl rfl (by decide +kernel)) (pi_range1 (by rfl) m_range (pa_cons (pe_callB call_lenX (by rfl) m_len (by decide +kernel) (pa_cons (pv 4) pa_nil)) pa_nil)) (blkOk_by (own := [("_law_at", 6)]) (N := N__law_without_by) (sc := defScope s__law_without_by) (by decide +kernel)) (fun _ _ _ _ _ => pg_name (i := 6) sc__law_without_by.nd rfl (Or.inl rfl)) (fun _ _ _ _ _ => (pts_one (pt_cmpR (op_niX (hu65 hr)) (pe_tup (pa_cons (pv 3) (pa_cons (pv 6) pa_nil))) (pv 1) (by rfl)))) (fun _ _ _ _ _ => (pe_ix (ix_X (hu1 hr)) (pv 4) (pv 6) (fun _ _ => rfl))))
      (pss_one (ps_expr (pe_bm PySem.F.plainAttrs_list PySem.F.slot_list_append PySem.F.type_list_append mt_append (pv 2) (pa_cons (pe_tup (pa_cons (pv 5) (pa_cons (pe_callTy (call_listX rfl) (by rfl) m_list (by decide +kernel) (pa_cons (pe_ix (ix_X (hu1 hr)) (pe_ix (ix_X (hu1 hr)) (pv 0) (pv 3) (fun _ _ => rfl)) pe_int (fun _ _ => rfl)) pa_nil)) pa_nil))) pa_nil)))))))
      (pss_one (ps_ret (pv 2))))), body_ok (N := N__law_without_by) (np := 2) (sv__law_without_by) h⟩
theorem ok_law {f : Addr} {fd : FuncData} {f__law_program_by : Addr} {fd__law_program_by : FuncData} {f__law_names_by : Addr} {fd__law_names_by : FuncData} {f__law_copy : Addr} {fd__law_copy : FuncData} {f__law_places : Addr} {fd__law_places : FuncData} {f__law_kept_by : Addr} {fd__law_kept_by : FuncData} {f__law_drawn : Addr} {fd__law_drawn : FuncData} {f_kept : Addr} {fd_kept : FuncData} {f_cut : Addr} {fd_cut : FuncData} {f_without : Addr} {fd_without : FuncData} {f__law_same : Addr} {fd__law_same : FuncData} {f__law_pairs : Addr} {fd__law_pairs : FuncData} {f__law_without_by : Addr} {fd__law_without_by : FuncData} (F : Fun K "law" "law" s_law f fd) (G__law_program_by : FnOk P w K mg base CX0 4 f__law_program_by fd__law_program_by ["_law_script", "_law_names"] (spF K R__law_program_by)) (g__law_program_by : mg "_law_program_by" = some (.ref f__law_program_by)) (kp__law_program_by : PySem.W.keepIn K (.ref f__law_program_by) = true) (b__law_program_by : Binds K fd__law_program_by ["_law_script", "_law_names"] []) (G__law_names_by : FnOk P w K mg base CX0 3 f__law_names_by fd__law_names_by ["_law_script"] (spF K R__law_names_by)) (g__law_names_by : mg "_law_names_by" = some (.ref f__law_names_by)) (kp__law_names_by : PySem.W.keepIn K (.ref f__law_names_by) = true) (b__law_names_by : Binds K fd__law_names_by ["_law_script"] []) (G__law_copy : FnOk P w K mg base CX0 1 f__law_copy fd__law_copy ["_law_program"] (spF K R__law_copy)) (g__law_copy : mg "_law_copy" = some (.ref f__law_copy)) (kp__law_copy : PySem.W.keepIn K (.ref f__law_copy) = true) (b__law_copy : Binds K fd__law_copy ["_law_program"] []) (G__law_places : FnOk P w K mg base CX0 1 f__law_places fd__law_places ["_law_program"] (spF K R__law_places)) (g__law_places : mg "_law_places" = some (.ref f__law_places)) (kp__law_places : PySem.W.keepIn K (.ref f__law_places) = true) (b__law_places : Binds K fd__law_places ["_law_program"] []) (G__law_kept_by : FnOk P w K mg base CX0 3 f__law_kept_by fd__law_kept_by ["_law_program"] (spF K R__law_kept_by)) (g__law_kept_by : mg "_law_kept_by" = some (.ref f__law_kept_by)) (kp__law_kept_by : PySem.W.keepIn K (.ref f__law_kept_by) = true) (b__law_kept_by : Binds K fd__law_kept_by ["_law_program"] []) (G__law_drawn : FnOk P w K mg base CX0 2 f__law_drawn fd__law_drawn ["_law_script", "_law_k"] (spF K R__law_drawn)) (g__law_drawn : mg "_law_drawn" = some (.ref f__law_drawn)) (kp__law_drawn : PySem.W.keepIn K (.ref f__law_drawn) = true) (b__law_drawn : Binds K fd__law_drawn ["_law_script", "_law_k"] []) (G_kept : FnOk P w K mg base CX0 3 f_kept fd_kept ["program"] (spF K R_kept)) (g_kept : mg "kept" = some (.ref f_kept)) (kp_kept : PySem.W.keepIn K (.ref f_kept) = true) (b_kept : Binds K fd_kept ["program"] []) (G_cut : FnOk P w K mg base CX0 4 f_cut fd_cut ["program"] (spF K R_cutD)) (g_cut : mg "cut" = some (.ref f_cut)) (kp_cut : PySem.W.keepIn K (.ref f_cut) = true) (b_cut : Binds K fd_cut ["program"] []) (G_without : FnOk P w K mg base CX0 1 f_without fd_without ["program", "places"] (spF K R_without)) (g_without : mg "without" = some (.ref f_without)) (kp_without : PySem.W.keepIn K (.ref f_without) = true) (b_without : Binds K fd_without ["program", "places"] []) (G__law_same : FnOk P w K mg base CX0 3 f__law_same fd__law_same ["_law_found", "_law_due"] (spF K R__law_same)) (g__law_same : mg "_law_same" = some (.ref f__law_same)) (kp__law_same : PySem.W.keepIn K (.ref f__law_same) = true) (b__law_same : Binds K fd__law_same ["_law_found", "_law_due"] []) (G__law_pairs : FnOk P w K mg base CX0 2 f__law_pairs fd__law_pairs ["_law_found", "_law_due"] (spF K R__law_pairs)) (g__law_pairs : mg "_law_pairs" = some (.ref f__law_pairs)) (kp__law_pairs : PySem.W.keepIn K (.ref f__law_pairs) = true) (b__law_pairs : Binds K fd__law_pairs ["_law_found", "_law_due"] []) (G__law_without_by : FnOk P w K mg base CX0 1 f__law_without_by fd__law_without_by ["_law_program", "_law_places_here"] (spF K R__law_without_by)) (g__law_without_by : mg "_law_without_by" = some (.ref f__law_without_by)) (kp__law_without_by : PySem.W.keepIn K (.ref f__law_without_by) = true) (b__law_without_by : Binds K fd__law_without_by ["_law_program", "_law_places_here"] []) (m_int : mg "int" = none) (m_range : mg "range" = none) (m_len : mg "len" = none) (m_list : mg "list" = none) : FnOk P w K mg base CX0 5 f fd ["_law_script"] (spF K R_law) := by
  refine F.ok (k := 4) sc_law (fun vs H Q E h => spF_len (sv_law) h) (fun cdv A outer s H vs Q E hr h => ?_)
  exact ⟨rd_law K, (pss_cons (ps_set (i := 1) sc_law.nd rfl (Or.inl rfl) (pe_call G__law_program_by (hr.mono (by decide)) (by rfl) g__law_program_by kp__law_program_by b__law_program_by .nil pass0 (pa_cons (pv 0) (pa_cons (pe_call G__law_names_by (hr.mono (by decide)) (by rfl) g__law_names_by kp__law_names_by b__law_names_by .nil pass0 (pa_cons (pv 0) pa_nil)) pa_nil))))
      (pss_cons (ps_set (i := 2) sc_law.nd rfl (Or.inl rfl) (pe_call G__law_copy (hr.mono (by decide)) (by rfl) g__law_copy kp__law_copy b__law_copy .nil pass0 (pa_cons (pv 1) pa_nil)))
      (pss_cons (ps_set (i := 3) sc_law.nd rfl (Or.inr rfl) (pe_call G__law_places (hr.mono (by decide)) (by rfl) g__law_places kp__law_places b__law_places .nil pass0 (pa_cons (pv 1) pa_nil)))
      (pss_cons (ps_set (i := 4) sc_law.nd rfl (Or.inr rfl) (pe_call G__law_kept_by (hr.mono (by decide)) (by rfl) g__law_kept_by kp__law_kept_by b__law_kept_by .nil pass0 (pa_cons (pv 1) pa_nil)))
      (pss_cons (ps_setLc (i := 5) (own := [("_law_place", 11)]) (g := gName 11) (by rfl) sc_law.nd rfl rfl (sw_true rfl rfl rfl (by decide +kernel)) (pi_X (pv 3)) (blkOk_by (own := [("_law_place", 11)]) (N := N_law) (sc := defScope s_law) (by decide +kernel)) (fun _ _ _ _ _ => pg_name (i := 11) sc_law.nd rfl (Or.inl rfl)) (fun _ _ _ _ _ => (pts_one (pt_cmpR (op_niX (hu65 hr)) (pv 11) (pv 4) (by rfl)))) (fun _ _ _ _ _ => (pv 11)))
      (pss_cons (ps_set (i := 6) sc_law.nd rfl (Or.inl rfl) (pe_op op_mulX (pe_op op_modX (pe_call G__law_drawn (hr.mono (by decide)) (by rfl) g__law_drawn kp__law_drawn b__law_drawn .nil pass0 (pa_cons (pv 0) (pa_cons pe_int pa_nil))) pe_int) (pe_callTy call_intX (by rfl) m_int (by decide +kernel) (pa_cons (pe_cmpR (op_neX hr.units) (pv 3) (pe_lst pa_nil) (nomark _)) pa_nil))))
      (pss_cons (ps_setLc (i := 7) (own := [("_law_k", 12)]) (g := gName 12) (by rfl) sc_law.nd rfl rfl (sw_true rfl rfl rfl (by decide +kernel)) (pi_range1 (by rfl) m_range (pa_cons (pv 6) pa_nil)) (blkOk_by (own := [("_law_k", 12)]) (N := N_law) (sc := defScope s_law) (by decide +kernel)) (fun _ _ _ _ _ => pg_name (i := 12) sc_law.nd rfl (Or.inl rfl)) (fun _ _ _ _ _ => pts_nil) (fun _ _ _ _ _ => (pe_ix (ix_X (hu1 hr)) (pv 3) (pe_op op_modX (pe_call G__law_drawn (hr.mono (by decide)) (by rfl) g__law_drawn kp__law_drawn b__law_drawn .nil pass0 (pa_cons (pv 0) (pa_cons (pe_op op_addX pe_int (pv 12)) pa_nil))) (pe_callB call_lenX (by rfl) m_len (by decide +kernel) (pa_cons (pv 3) pa_nil))) (fun _ _ => rfl))))
      (pss_cons (ps_set (i := 8) sc_law.nd rfl (Or.inl rfl) (pe_callTy (call_listX rfl) (by rfl) m_list (by decide +kernel) (pa_cons (pv 7) pa_nil)))
      (pss_cons (ps_set (i := 9) sc_law.nd rfl (Or.inl rfl) (pe_lst (pa_cons (pe_call G_kept (hr.mono (by decide)) (by rfl) g_kept kp_kept b_kept .nil pass0 (pa_cons (pv 2) pa_nil)) (pa_cons (pe_call G_cut (hr.mono (by decide)) (by rfl) g_cut kp_cut b_cut .nil pass0 (pa_cons (pv 2) pa_nil)) (pa_cons (pe_call G_without (hr.mono (by decide)) (by rfl) g_without kp_without b_without .nil pass0 (pa_cons (pv 2) (pa_cons (pv 8) pa_nil))) pa_nil)))))
      (pss_cons (ps_if (PW.pt (pw_or (pt_not (pt_val (pe_call G__law_same (hr.mono (by decide)) (by rfl) g__law_same kp__law_same b__law_same .nil pass0 (pa_cons (pv 2) (pa_cons (pv 1) pa_nil))))) (pw_or (pt_cmpR (op_neX hr.units) (pv 8) (pv 7) (nomark _)) (pw_or1 (pt_not (pt_val (pe_call G__law_pairs (hr.mono (by decide)) (by rfl) g__law_pairs kp__law_pairs b__law_pairs .nil pass0 (pa_cons (pe_ix (ix_X (hu1 hr)) (pv 9) pe_int (fun _ _ => rfl)) (pa_cons (pv 4) pa_nil))))))))) (pss_one (ps_ret pe_bl)) pss_nil)
      (pss_cons (ps_if (pt_not (pt_val (pe_call G__law_same (hr.mono (by decide)) (by rfl) g__law_same kp__law_same b__law_same .nil pass0 (pa_cons (pe_ix (ix_X (hu1 hr)) (pv 9) pe_int (fun _ _ => rfl)) (pa_cons (pe_call G__law_without_by (hr.mono (by decide)) (by rfl) g__law_without_by kp__law_without_by b__law_without_by .nil pass0 (pa_cons (pv 1) (pa_cons (pv 5) pa_nil))) pa_nil))))) (pss_one (ps_ret pe_bl)) pss_nil)
      (pss_cons (ps_if (pt_not (pt_val (pe_call G__law_same (hr.mono (by decide)) (by rfl) g__law_same kp__law_same b__law_same .nil pass0 (pa_cons (pe_ix (ix_X (hu1 hr)) (pv 9) pe_int (fun _ _ => rfl)) (pa_cons (pe_call G__law_without_by (hr.mono (by decide)) (by rfl) g__law_without_by kp__law_without_by b__law_without_by .nil pass0 (pa_cons (pv 1) (pa_cons (pv 7) pa_nil))) pa_nil))))) (pss_one (ps_ret pe_bl)) pss_nil)
      (pss_cons (ps_expr (pe_bm PySem.F.plainAttrs_list PySem.F.slot_list_append PySem.F.type_list_append mt_append (pe_ix (ix_X (hu1 hr)) (pv 9) pe_int (fun _ _ => rfl)) (pa_cons (pe_tup (pa_cons pe_int (pa_cons pe_int pa_nil))) pa_nil)))
      (pss_cons (ps_if (pt_cmpR op_ltX (pe_callB call_lenX (by rfl) m_len (by decide +kernel) (pa_cons (pe_ix (ix_X (hu1 hr)) (pe_ix (ix_X (hu1 hr)) (pv 1) pe_int (fun _ _ => rfl)) pe_int (fun _ _ => rfl)) pa_nil)) pe_int (nomark _)) (pss_cons (ps_expr (pe_bm PySem.F.plainAttrs_list PySem.F.slot_list_insert PySem.F.type_list_insert mt_insertX (pe_ix (ix_X (hu1 hr)) (pe_ix (ix_X (hu1 hr)) (pv 2) pe_int (fun _ _ => rfl)) pe_int (fun _ _ => rfl)) (pa_cons pe_int (pa_cons (pe_tup (pa_cons pe_str (pa_cons pe_str pa_nil))) pa_nil))))
      (pss_cons (ps_if (pt_not (pt_val (pe_call G__law_pairs (hr.mono (by decide)) (by rfl) g__law_pairs kp__law_pairs b__law_pairs .nil pass0 (pa_cons (pe_call G_kept (hr.mono (by decide)) (by rfl) g_kept kp_kept b_kept .nil pass0 (pa_cons (pv 2) pa_nil)) (pa_cons (pe_call G__law_kept_by (hr.mono (by decide)) (by rfl) g__law_kept_by kp__law_kept_by b__law_kept_by .nil pass0 (pa_cons (pv 2) pa_nil)) pa_nil))))) (pss_one (ps_ret pe_bl)) pss_nil)
      (pss_one (ps_expr (pe_bm PySem.F.plainAttrs_list PySem.F.slot_list_pop PySem.F.type_list_pop mt_popAt (pe_ix (ix_X (hu1 hr)) (pe_ix (ix_X (hu1 hr)) (pv 2) pe_int (fun _ _ => rfl)) pe_int (fun _ _ => rfl)) (pa_cons pe_int pa_nil)))))) pss_nil)
      (pss_cons (ps_if (pt_not (pt_val (pe_call G__law_pairs (hr.mono (by decide)) (by rfl) g__law_pairs kp__law_pairs b__law_pairs .nil pass0 (pa_cons (pe_call G_kept (hr.mono (by decide)) (by rfl) g_kept kp_kept b_kept .nil pass0 (pa_cons (pv 2) pa_nil)) (pa_cons (pv 4) pa_nil))))) (pss_one (ps_ret pe_bl)) pss_nil)
      (pss_cons (ps_for PassesOwn.never (by rfl) (pi_X (pe_op op_addX (pe_op op_addX (pe_ix (ix_X (hu1 hr)) (pv 9) pe_int (fun _ _ => rfl)) (pe_ix (ix_X (hu1 hr)) (pv 9) pe_int (fun _ _ => rfl))) (pe_call G_without (hr.mono (by decide)) (by rfl) g_without kp_without b_without .nil pass0 (pa_cons (pv 2) (pa_cons (pe_lst pa_nil) pa_nil))))) (pg_name (i := 10) sc_law.nd rfl (Or.inl rfl)) (pss_cons (ps_expr (pe_bm PySem.F.plainAttrs_list PySem.F.slot_list_append PySem.F.type_list_append mt_append (pe_ix (ix_X (hu1 hr)) (pv 10) pe_int (fun _ _ => rfl)) (pa_cons (pe_tup (pa_cons pe_str (pa_cons pe_str pa_nil))) pa_nil)))
      (pss_one (ps_expr (pe_bm PySem.F.plainAttrs_list PySem.F.slot_list_append PySem.F.type_list_append mt_append (pe_ix (ix_X (hu1 hr)) (pv 10) pe_int (fun _ _ => rfl)) (pa_cons pe_int pa_nil))))))
      (pss_one (ps_ret (pe_call G__law_same (hr.mono (by decide)) (by rfl) g__law_same kp__law_same b__law_same .nil pass0 (pa_cons (pv 2) (pa_cons (pv 1) pa_nil))))))))))))))))))))), body_ok (N := N_law) (np := 1) (sv_law) h⟩
end
theorem all_mk {l : PySem.W.OpenLaw} {w : World} {K : PySem.W.Frag} {h : Heap} {mg : Str → Option Value} {fa : Addr} (X : K.In h) (G : h.Ns mainGlobals mg) (hfa : mg "law" = some (.ref fa))
    {f__law_cell_at : Addr} {od__law_cell_at an__law_cell_at : Option Addr} {sl__law_cell_at : Array (Option Value)} {oc__law_cell_at kV__law_cell_at dc__law_cell_at pm__law_cell_at cd__law_cell_at ct__law_cell_at : Value}
    {f__law_drawn : Addr} {od__law_drawn an__law_drawn : Option Addr} {sl__law_drawn : Array (Option Value)} {oc__law_drawn kV__law_drawn dc__law_drawn pm__law_drawn cd__law_drawn ct__law_drawn : Value}
    {f__law_ways_by : Addr} {od__law_ways_by an__law_ways_by : Option Addr} {sl__law_ways_by : Array (Option Value)} {oc__law_ways_by kV__law_ways_by dc__law_ways_by pm__law_ways_by cd__law_ways_by ct__law_ways_by : Value}
    {f__law_rest_by : Addr} {od__law_rest_by an__law_rest_by : Option Addr} {sl__law_rest_by : Array (Option Value)} {oc__law_rest_by kV__law_rest_by dc__law_rest_by pm__law_rest_by cd__law_rest_by ct__law_rest_by : Value}
    {f__law_own_sign : Addr} {od__law_own_sign an__law_own_sign : Option Addr} {sl__law_own_sign : Array (Option Value)} {oc__law_own_sign kV__law_own_sign dc__law_own_sign pm__law_own_sign cd__law_own_sign ct__law_own_sign : Value}
    {f__law_row_by : Addr} {od__law_row_by an__law_row_by : Option Addr} {sl__law_row_by : Array (Option Value)} {oc__law_row_by kV__law_row_by dc__law_row_by pm__law_row_by cd__law_row_by ct__law_row_by : Value}
    {f__law_program_by : Addr} {od__law_program_by an__law_program_by : Option Addr} {sl__law_program_by : Array (Option Value)} {oc__law_program_by kV__law_program_by dc__law_program_by pm__law_program_by cd__law_program_by ct__law_program_by : Value}
    {f__law_names_by : Addr} {od__law_names_by an__law_names_by : Option Addr} {sl__law_names_by : Array (Option Value)} {oc__law_names_by kV__law_names_by dc__law_names_by pm__law_names_by cd__law_names_by ct__law_names_by : Value}
    {f__law_copy : Addr} {od__law_copy an__law_copy : Option Addr} {sl__law_copy : Array (Option Value)} {oc__law_copy kV__law_copy dc__law_copy pm__law_copy cd__law_copy ct__law_copy : Value}
    {f__law_places : Addr} {od__law_places an__law_places : Option Addr} {sl__law_places : Array (Option Value)} {oc__law_places kV__law_places dc__law_places pm__law_places cd__law_places ct__law_places : Value}
    {f__law_ahead_by : Addr} {od__law_ahead_by an__law_ahead_by : Option Addr} {sl__law_ahead_by : Array (Option Value)} {oc__law_ahead_by kV__law_ahead_by dc__law_ahead_by pm__law_ahead_by cd__law_ahead_by ct__law_ahead_by : Value}
    {f__law_needed_by : Addr} {od__law_needed_by an__law_needed_by : Option Addr} {sl__law_needed_by : Array (Option Value)} {oc__law_needed_by kV__law_needed_by dc__law_needed_by pm__law_needed_by cd__law_needed_by ct__law_needed_by : Value}
    {f__law_kept_by : Addr} {od__law_kept_by an__law_kept_by : Option Addr} {sl__law_kept_by : Array (Option Value)} {oc__law_kept_by kV__law_kept_by dc__law_kept_by pm__law_kept_by cd__law_kept_by ct__law_kept_by : Value}
    {f_ahead : Addr} {od_ahead an_ahead : Option Addr} {sl_ahead : Array (Option Value)} {oc_ahead kV_ahead dc_ahead pm_ahead cd_ahead ct_ahead : Value}
    {f_behind_of : Addr} {od_behind_of an_behind_of : Option Addr} {sl_behind_of : Array (Option Value)} {oc_behind_of kV_behind_of dc_behind_of pm_behind_of cd_behind_of ct_behind_of : Value}
    {f_needed : Addr} {od_needed an_needed : Option Addr} {sl_needed : Array (Option Value)} {oc_needed kV_needed dc_needed pm_needed cd_needed ct_needed : Value}
    {f_reached : Addr} {od_reached an_reached : Option Addr} {sl_reached : Array (Option Value)} {oc_reached kV_reached dc_reached pm_reached cd_reached ct_reached : Value}
    {f_standing : Addr} {od_standing an_standing : Option Addr} {sl_standing : Array (Option Value)} {oc_standing kV_standing dc_standing pm_standing cd_standing ct_standing : Value}
    {f_kept : Addr} {od_kept an_kept : Option Addr} {sl_kept : Array (Option Value)} {oc_kept kV_kept dc_kept pm_kept cd_kept ct_kept : Value}
    {f_cut : Addr} {od_cut an_cut : Option Addr} {sl_cut : Array (Option Value)} {oc_cut kV_cut dc_cut pm_cut cd_cut ct_cut : Value}
    {f_without : Addr} {od_without an_without : Option Addr} {sl_without : Array (Option Value)} {oc_without kV_without dc_without pm_without cd_without ct_without : Value}
    {f__law_whole : Addr} {od__law_whole an__law_whole : Option Addr} {sl__law_whole : Array (Option Value)} {oc__law_whole kV__law_whole dc__law_whole pm__law_whole cd__law_whole ct__law_whole : Value}
    {f__law_numbers : Addr} {od__law_numbers an__law_numbers : Option Addr} {sl__law_numbers : Array (Option Value)} {oc__law_numbers kV__law_numbers dc__law_numbers pm__law_numbers cd__law_numbers ct__law_numbers : Value}
    {f__law_row_same : Addr} {od__law_row_same an__law_row_same : Option Addr} {sl__law_row_same : Array (Option Value)} {oc__law_row_same kV__law_row_same dc__law_row_same pm__law_row_same cd__law_row_same ct__law_row_same : Value}
    {f__law_same : Addr} {od__law_same an__law_same : Option Addr} {sl__law_same : Array (Option Value)} {oc__law_same kV__law_same dc__law_same pm__law_same cd__law_same ct__law_same : Value}
    {f__law_pairs : Addr} {od__law_pairs an__law_pairs : Option Addr} {sl__law_pairs : Array (Option Value)} {oc__law_pairs kV__law_pairs dc__law_pairs pm__law_pairs cd__law_pairs ct__law_pairs : Value}
    {f__law_without_by : Addr} {od__law_without_by an__law_without_by : Option Addr} {sl__law_without_by : Array (Option Value)} {oc__law_without_by kV__law_without_by dc__law_without_by pm__law_without_by cd__law_without_by ct__law_without_by : Value}
    {f_law : Addr} {od_law an_law : Option Addr} {sl_law : Array (Option Value)} {oc_law kV_law dc_law pm_law cd_law ct_law : Value}
    (a__law_cell_at : PySem.W.nsIn K mainGlobals "_law_cell_at" = some (some (.ref f__law_cell_at))) (l__law_cell_at : K.lookup f__law_cell_at = some ⟨oc__law_cell_at, od__law_cell_at, .func (PySem.W.fnOf "_law_cell_at" "_law_cell_at" (defArgs s__law_cell_at) (defBody s__law_cell_at) (defScope s__law_cell_at) .none kV__law_cell_at dc__law_cell_at pm__law_cell_at an__law_cell_at cd__law_cell_at ct__law_cell_at), sl__law_cell_at⟩) (c__law_cell_at : PySem.W.codeIn K cd__law_cell_at "_law_cell_at" = true) (k__law_cell_at : PySem.W.keepIn K (.ref f__law_cell_at) = true)
    (a__law_drawn : PySem.W.nsIn K mainGlobals "_law_drawn" = some (some (.ref f__law_drawn))) (l__law_drawn : K.lookup f__law_drawn = some ⟨oc__law_drawn, od__law_drawn, .func (PySem.W.fnOf "_law_drawn" "_law_drawn" (defArgs s__law_drawn) (defBody s__law_drawn) (defScope s__law_drawn) .none kV__law_drawn dc__law_drawn pm__law_drawn an__law_drawn cd__law_drawn ct__law_drawn), sl__law_drawn⟩) (c__law_drawn : PySem.W.codeIn K cd__law_drawn "_law_drawn" = true) (k__law_drawn : PySem.W.keepIn K (.ref f__law_drawn) = true)
    (a__law_ways_by : PySem.W.nsIn K mainGlobals "_law_ways_by" = some (some (.ref f__law_ways_by))) (l__law_ways_by : K.lookup f__law_ways_by = some ⟨oc__law_ways_by, od__law_ways_by, .func (PySem.W.fnOf "_law_ways_by" "_law_ways_by" (defArgs s__law_ways_by) (defBody s__law_ways_by) (defScope s__law_ways_by) .none kV__law_ways_by dc__law_ways_by pm__law_ways_by an__law_ways_by cd__law_ways_by ct__law_ways_by), sl__law_ways_by⟩) (c__law_ways_by : PySem.W.codeIn K cd__law_ways_by "_law_ways_by" = true) (k__law_ways_by : PySem.W.keepIn K (.ref f__law_ways_by) = true)
    (a__law_rest_by : PySem.W.nsIn K mainGlobals "_law_rest_by" = some (some (.ref f__law_rest_by))) (l__law_rest_by : K.lookup f__law_rest_by = some ⟨oc__law_rest_by, od__law_rest_by, .func (PySem.W.fnOf "_law_rest_by" "_law_rest_by" (defArgs s__law_rest_by) (defBody s__law_rest_by) (defScope s__law_rest_by) .none kV__law_rest_by dc__law_rest_by pm__law_rest_by an__law_rest_by cd__law_rest_by ct__law_rest_by), sl__law_rest_by⟩) (c__law_rest_by : PySem.W.codeIn K cd__law_rest_by "_law_rest_by" = true) (k__law_rest_by : PySem.W.keepIn K (.ref f__law_rest_by) = true)
    (a__law_own_sign : PySem.W.nsIn K mainGlobals "_law_own_sign" = some (some (.ref f__law_own_sign))) (l__law_own_sign : K.lookup f__law_own_sign = some ⟨oc__law_own_sign, od__law_own_sign, .func (PySem.W.fnOf "_law_own_sign" "_law_own_sign" (defArgs s__law_own_sign) (defBody s__law_own_sign) (defScope s__law_own_sign) .none kV__law_own_sign dc__law_own_sign pm__law_own_sign an__law_own_sign cd__law_own_sign ct__law_own_sign), sl__law_own_sign⟩) (c__law_own_sign : PySem.W.codeIn K cd__law_own_sign "_law_own_sign" = true) (k__law_own_sign : PySem.W.keepIn K (.ref f__law_own_sign) = true)
    (a__law_row_by : PySem.W.nsIn K mainGlobals "_law_row_by" = some (some (.ref f__law_row_by))) (l__law_row_by : K.lookup f__law_row_by = some ⟨oc__law_row_by, od__law_row_by, .func (PySem.W.fnOf "_law_row_by" "_law_row_by" (defArgs s__law_row_by) (defBody s__law_row_by) (defScope s__law_row_by) .none kV__law_row_by dc__law_row_by pm__law_row_by an__law_row_by cd__law_row_by ct__law_row_by), sl__law_row_by⟩) (c__law_row_by : PySem.W.codeIn K cd__law_row_by "_law_row_by" = true) (k__law_row_by : PySem.W.keepIn K (.ref f__law_row_by) = true)
    (a__law_program_by : PySem.W.nsIn K mainGlobals "_law_program_by" = some (some (.ref f__law_program_by))) (l__law_program_by : K.lookup f__law_program_by = some ⟨oc__law_program_by, od__law_program_by, .func (PySem.W.fnOf "_law_program_by" "_law_program_by" (defArgs s__law_program_by) (defBody s__law_program_by) (defScope s__law_program_by) .none kV__law_program_by dc__law_program_by pm__law_program_by an__law_program_by cd__law_program_by ct__law_program_by), sl__law_program_by⟩) (c__law_program_by : PySem.W.codeIn K cd__law_program_by "_law_program_by" = true) (k__law_program_by : PySem.W.keepIn K (.ref f__law_program_by) = true)
    (a__law_names_by : PySem.W.nsIn K mainGlobals "_law_names_by" = some (some (.ref f__law_names_by))) (l__law_names_by : K.lookup f__law_names_by = some ⟨oc__law_names_by, od__law_names_by, .func (PySem.W.fnOf "_law_names_by" "_law_names_by" (defArgs s__law_names_by) (defBody s__law_names_by) (defScope s__law_names_by) .none kV__law_names_by dc__law_names_by pm__law_names_by an__law_names_by cd__law_names_by ct__law_names_by), sl__law_names_by⟩) (c__law_names_by : PySem.W.codeIn K cd__law_names_by "_law_names_by" = true) (k__law_names_by : PySem.W.keepIn K (.ref f__law_names_by) = true)
    (a__law_copy : PySem.W.nsIn K mainGlobals "_law_copy" = some (some (.ref f__law_copy))) (l__law_copy : K.lookup f__law_copy = some ⟨oc__law_copy, od__law_copy, .func (PySem.W.fnOf "_law_copy" "_law_copy" (defArgs s__law_copy) (defBody s__law_copy) (defScope s__law_copy) .none kV__law_copy dc__law_copy pm__law_copy an__law_copy cd__law_copy ct__law_copy), sl__law_copy⟩) (c__law_copy : PySem.W.codeIn K cd__law_copy "_law_copy" = true) (k__law_copy : PySem.W.keepIn K (.ref f__law_copy) = true)
    (a__law_places : PySem.W.nsIn K mainGlobals "_law_places" = some (some (.ref f__law_places))) (l__law_places : K.lookup f__law_places = some ⟨oc__law_places, od__law_places, .func (PySem.W.fnOf "_law_places" "_law_places" (defArgs s__law_places) (defBody s__law_places) (defScope s__law_places) .none kV__law_places dc__law_places pm__law_places an__law_places cd__law_places ct__law_places), sl__law_places⟩) (c__law_places : PySem.W.codeIn K cd__law_places "_law_places" = true) (k__law_places : PySem.W.keepIn K (.ref f__law_places) = true)
    (a__law_ahead_by : PySem.W.nsIn K mainGlobals "_law_ahead_by" = some (some (.ref f__law_ahead_by))) (l__law_ahead_by : K.lookup f__law_ahead_by = some ⟨oc__law_ahead_by, od__law_ahead_by, .func (PySem.W.fnOf "_law_ahead_by" "_law_ahead_by" (defArgs s__law_ahead_by) (defBody s__law_ahead_by) (defScope s__law_ahead_by) .none kV__law_ahead_by dc__law_ahead_by pm__law_ahead_by an__law_ahead_by cd__law_ahead_by ct__law_ahead_by), sl__law_ahead_by⟩) (c__law_ahead_by : PySem.W.codeIn K cd__law_ahead_by "_law_ahead_by" = true) (k__law_ahead_by : PySem.W.keepIn K (.ref f__law_ahead_by) = true)
    (a__law_needed_by : PySem.W.nsIn K mainGlobals "_law_needed_by" = some (some (.ref f__law_needed_by))) (l__law_needed_by : K.lookup f__law_needed_by = some ⟨oc__law_needed_by, od__law_needed_by, .func (PySem.W.fnOf "_law_needed_by" "_law_needed_by" (defArgs s__law_needed_by) (defBody s__law_needed_by) (defScope s__law_needed_by) .none kV__law_needed_by dc__law_needed_by pm__law_needed_by an__law_needed_by cd__law_needed_by ct__law_needed_by), sl__law_needed_by⟩) (c__law_needed_by : PySem.W.codeIn K cd__law_needed_by "_law_needed_by" = true) (k__law_needed_by : PySem.W.keepIn K (.ref f__law_needed_by) = true)
    (a__law_kept_by : PySem.W.nsIn K mainGlobals "_law_kept_by" = some (some (.ref f__law_kept_by))) (l__law_kept_by : K.lookup f__law_kept_by = some ⟨oc__law_kept_by, od__law_kept_by, .func (PySem.W.fnOf "_law_kept_by" "_law_kept_by" (defArgs s__law_kept_by) (defBody s__law_kept_by) (defScope s__law_kept_by) .none kV__law_kept_by dc__law_kept_by pm__law_kept_by an__law_kept_by cd__law_kept_by ct__law_kept_by), sl__law_kept_by⟩) (c__law_kept_by : PySem.W.codeIn K cd__law_kept_by "_law_kept_by" = true) (k__law_kept_by : PySem.W.keepIn K (.ref f__law_kept_by) = true)
    (a_ahead : PySem.W.nsIn K mainGlobals "ahead" = some (some (.ref f_ahead))) (l_ahead : K.lookup f_ahead = some ⟨oc_ahead, od_ahead, .func (PySem.W.fnOf "ahead" "ahead" (defArgs s_ahead) (defBody s_ahead) (defScope s_ahead) .none kV_ahead dc_ahead pm_ahead an_ahead cd_ahead ct_ahead), sl_ahead⟩) (c_ahead : PySem.W.codeIn K cd_ahead "ahead" = true) (k_ahead : PySem.W.keepIn K (.ref f_ahead) = true)
    (a_behind_of : PySem.W.nsIn K mainGlobals "behind_of" = some (some (.ref f_behind_of))) (l_behind_of : K.lookup f_behind_of = some ⟨oc_behind_of, od_behind_of, .func (PySem.W.fnOf "behind_of" "behind_of" (defArgs s_behind_of) (defBody s_behind_of) (defScope s_behind_of) .none kV_behind_of dc_behind_of pm_behind_of an_behind_of cd_behind_of ct_behind_of), sl_behind_of⟩) (c_behind_of : PySem.W.codeIn K cd_behind_of "behind_of" = true) (k_behind_of : PySem.W.keepIn K (.ref f_behind_of) = true)
    (a_needed : PySem.W.nsIn K mainGlobals "needed" = some (some (.ref f_needed))) (l_needed : K.lookup f_needed = some ⟨oc_needed, od_needed, .func (PySem.W.fnOf "needed" "needed" (defArgs s_needed) (defBody s_needed) (defScope s_needed) .none kV_needed dc_needed pm_needed an_needed cd_needed ct_needed), sl_needed⟩) (c_needed : PySem.W.codeIn K cd_needed "needed" = true) (k_needed : PySem.W.keepIn K (.ref f_needed) = true)
    (a_reached : PySem.W.nsIn K mainGlobals "reached" = some (some (.ref f_reached))) (l_reached : K.lookup f_reached = some ⟨oc_reached, od_reached, .func (PySem.W.fnOf "reached" "reached" (defArgs s_reached) (defBody s_reached) (defScope s_reached) .none kV_reached dc_reached pm_reached an_reached cd_reached ct_reached), sl_reached⟩) (c_reached : PySem.W.codeIn K cd_reached "reached" = true) (k_reached : PySem.W.keepIn K (.ref f_reached) = true)
    (a_standing : PySem.W.nsIn K mainGlobals "standing" = some (some (.ref f_standing))) (l_standing : K.lookup f_standing = some ⟨oc_standing, od_standing, .func (PySem.W.fnOf "standing" "standing" (defArgs s_standing) (defBody s_standing) (defScope s_standing) .none kV_standing dc_standing pm_standing an_standing cd_standing ct_standing), sl_standing⟩) (c_standing : PySem.W.codeIn K cd_standing "standing" = true) (k_standing : PySem.W.keepIn K (.ref f_standing) = true)
    (a_kept : PySem.W.nsIn K mainGlobals "kept" = some (some (.ref f_kept))) (l_kept : K.lookup f_kept = some ⟨oc_kept, od_kept, .func (PySem.W.fnOf "kept" "kept" (defArgs s_kept) (defBody s_kept) (defScope s_kept) .none kV_kept dc_kept pm_kept an_kept cd_kept ct_kept), sl_kept⟩) (c_kept : PySem.W.codeIn K cd_kept "kept" = true) (k_kept : PySem.W.keepIn K (.ref f_kept) = true)
    (a_cut : PySem.W.nsIn K mainGlobals "cut" = some (some (.ref f_cut))) (l_cut : K.lookup f_cut = some ⟨oc_cut, od_cut, .func (PySem.W.fnOf "cut" "cut" (defArgs s_cut) (defBody s_cut) (defScope s_cut) .none kV_cut dc_cut pm_cut an_cut cd_cut ct_cut), sl_cut⟩) (c_cut : PySem.W.codeIn K cd_cut "cut" = true) (k_cut : PySem.W.keepIn K (.ref f_cut) = true)
    (a_without : PySem.W.nsIn K mainGlobals "without" = some (some (.ref f_without))) (l_without : K.lookup f_without = some ⟨oc_without, od_without, .func (PySem.W.fnOf "without" "without" (defArgs s_without) (defBody s_without) (defScope s_without) .none kV_without dc_without pm_without an_without cd_without ct_without), sl_without⟩) (c_without : PySem.W.codeIn K cd_without "without" = true) (k_without : PySem.W.keepIn K (.ref f_without) = true)
    (a__law_whole : PySem.W.nsIn K mainGlobals "_law_whole" = some (some (.ref f__law_whole))) (l__law_whole : K.lookup f__law_whole = some ⟨oc__law_whole, od__law_whole, .func (PySem.W.fnOf "_law_whole" "_law_whole" (defArgs s__law_whole) (defBody s__law_whole) (defScope s__law_whole) .none kV__law_whole dc__law_whole pm__law_whole an__law_whole cd__law_whole ct__law_whole), sl__law_whole⟩) (c__law_whole : PySem.W.codeIn K cd__law_whole "_law_whole" = true) (k__law_whole : PySem.W.keepIn K (.ref f__law_whole) = true)
    (a__law_numbers : PySem.W.nsIn K mainGlobals "_law_numbers" = some (some (.ref f__law_numbers))) (l__law_numbers : K.lookup f__law_numbers = some ⟨oc__law_numbers, od__law_numbers, .func (PySem.W.fnOf "_law_numbers" "_law_numbers" (defArgs s__law_numbers) (defBody s__law_numbers) (defScope s__law_numbers) .none kV__law_numbers dc__law_numbers pm__law_numbers an__law_numbers cd__law_numbers ct__law_numbers), sl__law_numbers⟩) (c__law_numbers : PySem.W.codeIn K cd__law_numbers "_law_numbers" = true) (k__law_numbers : PySem.W.keepIn K (.ref f__law_numbers) = true)
    (a__law_row_same : PySem.W.nsIn K mainGlobals "_law_row_same" = some (some (.ref f__law_row_same))) (l__law_row_same : K.lookup f__law_row_same = some ⟨oc__law_row_same, od__law_row_same, .func (PySem.W.fnOf "_law_row_same" "_law_row_same" (defArgs s__law_row_same) (defBody s__law_row_same) (defScope s__law_row_same) .none kV__law_row_same dc__law_row_same pm__law_row_same an__law_row_same cd__law_row_same ct__law_row_same), sl__law_row_same⟩) (c__law_row_same : PySem.W.codeIn K cd__law_row_same "_law_row_same" = true) (k__law_row_same : PySem.W.keepIn K (.ref f__law_row_same) = true)
    (a__law_same : PySem.W.nsIn K mainGlobals "_law_same" = some (some (.ref f__law_same))) (l__law_same : K.lookup f__law_same = some ⟨oc__law_same, od__law_same, .func (PySem.W.fnOf "_law_same" "_law_same" (defArgs s__law_same) (defBody s__law_same) (defScope s__law_same) .none kV__law_same dc__law_same pm__law_same an__law_same cd__law_same ct__law_same), sl__law_same⟩) (c__law_same : PySem.W.codeIn K cd__law_same "_law_same" = true) (k__law_same : PySem.W.keepIn K (.ref f__law_same) = true)
    (a__law_pairs : PySem.W.nsIn K mainGlobals "_law_pairs" = some (some (.ref f__law_pairs))) (l__law_pairs : K.lookup f__law_pairs = some ⟨oc__law_pairs, od__law_pairs, .func (PySem.W.fnOf "_law_pairs" "_law_pairs" (defArgs s__law_pairs) (defBody s__law_pairs) (defScope s__law_pairs) .none kV__law_pairs dc__law_pairs pm__law_pairs an__law_pairs cd__law_pairs ct__law_pairs), sl__law_pairs⟩) (c__law_pairs : PySem.W.codeIn K cd__law_pairs "_law_pairs" = true) (k__law_pairs : PySem.W.keepIn K (.ref f__law_pairs) = true)
    (a__law_without_by : PySem.W.nsIn K mainGlobals "_law_without_by" = some (some (.ref f__law_without_by))) (l__law_without_by : K.lookup f__law_without_by = some ⟨oc__law_without_by, od__law_without_by, .func (PySem.W.fnOf "_law_without_by" "_law_without_by" (defArgs s__law_without_by) (defBody s__law_without_by) (defScope s__law_without_by) .none kV__law_without_by dc__law_without_by pm__law_without_by an__law_without_by cd__law_without_by ct__law_without_by), sl__law_without_by⟩) (c__law_without_by : PySem.W.codeIn K cd__law_without_by "_law_without_by" = true) (k__law_without_by : PySem.W.keepIn K (.ref f__law_without_by) = true)
    (a_law : PySem.W.nsIn K mainGlobals "law" = some (some (.ref f_law))) (l_law : K.lookup f_law = some ⟨oc_law, od_law, .func (PySem.W.fnOf "law" "law" (defArgs s_law) (defBody s_law) (defScope s_law) .none kV_law dc_law pm_law an_law cd_law ct_law), sl_law⟩) (c_law : PySem.W.codeIn K cd_law "law" = true) (k_law : PySem.W.keepIn K (.ref f_law) = true)
    (z_all : PySem.W.nsIn K mainGlobals "all" = some none)
    (z_bool : PySem.W.nsIn K mainGlobals "bool" = some none)
    (z_int : PySem.W.nsIn K mainGlobals "int" = some none)
    (z_isinstance : PySem.W.nsIn K mainGlobals "isinstance" = some none)
    (z_len : PySem.W.nsIn K mainGlobals "len" = some none)
    (z_list : PySem.W.nsIn K mainGlobals "list" = some none)
    (z_max : PySem.W.nsIn K mainGlobals "max" = some none)
    (z_min : PySem.W.nsIn K mainGlobals "min" = some none)
    (z_range : PySem.W.nsIn K mainGlobals "range" = some none)
    (z_reversed : PySem.W.nsIn K mainGlobals "reversed" = some none)
    (z_sorted : PySem.W.nsIn K mainGlobals "sorted" = some none)
    (z_str : PySem.W.nsIn K mainGlobals "str" = some none)
    (z_tuple : PySem.W.nsIn K mainGlobals "tuple" = some none) :
    ∃ fd : FuncData, (∀ (s : Shared) (v : Value), BindsTo s fd ⟨[v], []⟩ [("_law_script", v)]) ∧ ∀ base : Heap, K.In base → base.Ns mainGlobals mg → FnOk l.prog w K mg base CX0 5 fa fd ["_law_script"] (spF K R_law) := by
  have e := hfa.symm.trans (PySem.W.mg_of X G a_law)
  cases e
  have F__law_cell_at := fun_mk (st := s__law_cell_at) l__law_cell_at c__law_cell_at k__law_cell_at
  have b__law_cell_at := F__law_cell_at.binds (ps := ["_law_script", "_law_k"]) fun _ _ _ _ _ _ us hl => match us, hl with | [_, _], _ => rfl
  have F__law_drawn := fun_mk (st := s__law_drawn) l__law_drawn c__law_drawn k__law_drawn
  have b__law_drawn := F__law_drawn.binds (ps := ["_law_script", "_law_k"]) fun _ _ _ _ _ _ us hl => match us, hl with | [_, _], _ => rfl
  have F__law_ways_by := fun_mk (st := s__law_ways_by) l__law_ways_by c__law_ways_by k__law_ways_by
  have b__law_ways_by := F__law_ways_by.binds (ps := ["_law_script", "_law_k", "_law_size"]) fun _ _ _ _ _ _ us hl => match us, hl with | [_, _, _], _ => rfl
  have F__law_rest_by := fun_mk (st := s__law_rest_by) l__law_rest_by c__law_rest_by k__law_rest_by
  have b__law_rest_by := F__law_rest_by.binds (ps := ["_law_cell", "_law_most"]) fun _ _ _ _ _ _ us hl => match us, hl with | [_, _], _ => rfl
  have F__law_own_sign := fun_mk (st := s__law_own_sign) l__law_own_sign c__law_own_sign k__law_own_sign
  have b__law_own_sign := F__law_own_sign.binds (ps := ["_law_script", "_law_k"]) fun _ _ _ _ _ _ us hl => match us, hl with | [_, _], _ => rfl
  have F__law_row_by := fun_mk (st := s__law_row_by) l__law_row_by c__law_row_by k__law_row_by
  have b__law_row_by := F__law_row_by.binds (ps := ["_law_cell", "_law_names", "_law_sign"]) fun _ _ _ _ _ _ us hl => match us, hl with | [_, _, _], _ => rfl
  have F__law_program_by := fun_mk (st := s__law_program_by) l__law_program_by c__law_program_by k__law_program_by
  have b__law_program_by := F__law_program_by.binds (ps := ["_law_script", "_law_names"]) fun _ _ _ _ _ _ us hl => match us, hl with | [_, _], _ => rfl
  have F__law_names_by := fun_mk (st := s__law_names_by) l__law_names_by c__law_names_by k__law_names_by
  have b__law_names_by := F__law_names_by.binds (ps := ["_law_script"]) fun _ _ _ _ _ _ us hl => match us, hl with | [_], _ => rfl
  have F__law_copy := fun_mk (st := s__law_copy) l__law_copy c__law_copy k__law_copy
  have b__law_copy := F__law_copy.binds (ps := ["_law_program"]) fun _ _ _ _ _ _ us hl => match us, hl with | [_], _ => rfl
  have F__law_places := fun_mk (st := s__law_places) l__law_places c__law_places k__law_places
  have b__law_places := F__law_places.binds (ps := ["_law_program"]) fun _ _ _ _ _ _ us hl => match us, hl with | [_], _ => rfl
  have F__law_ahead_by := fun_mk (st := s__law_ahead_by) l__law_ahead_by c__law_ahead_by k__law_ahead_by
  have b__law_ahead_by := F__law_ahead_by.binds (ps := ["_law_rows", "_law_behind"]) fun _ _ _ _ _ _ us hl => match us, hl with | [_, _], _ => rfl
  have F__law_needed_by := fun_mk (st := s__law_needed_by) l__law_needed_by c__law_needed_by k__law_needed_by
  have b__law_needed_by := F__law_needed_by.binds (ps := ["_law_program"]) fun _ _ _ _ _ _ us hl => match us, hl with | [_], _ => rfl
  have F__law_kept_by := fun_mk (st := s__law_kept_by) l__law_kept_by c__law_kept_by k__law_kept_by
  have b__law_kept_by := F__law_kept_by.binds (ps := ["_law_program"]) fun _ _ _ _ _ _ us hl => match us, hl with | [_], _ => rfl
  have F_ahead := fun_mk (st := s_ahead) l_ahead c_ahead k_ahead
  have b_ahead := F_ahead.binds (ps := ["rows", "behind"]) fun _ _ _ _ _ _ us hl => match us, hl with | [_, _], _ => rfl
  have F_behind_of := fun_mk (st := s_behind_of) l_behind_of c_behind_of k_behind_of
  have b_behind_of := F_behind_of.binds (ps := ["needs", "ways"]) fun _ _ _ _ _ _ us hl => match us, hl with | [_, _], _ => rfl
  have F_needed := fun_mk (st := s_needed) l_needed c_needed k_needed
  have b_needed := F_needed.binds (ps := ["program"]) fun _ _ _ _ _ _ us hl => match us, hl with | [_], _ => rfl
  have F_reached := fun_mk (st := s_reached) l_reached c_reached k_reached
  have b_reached := F_reached.binds (ps := ["program"]) fun _ _ _ _ _ _ us hl => match us, hl with | [_], _ => rfl
  have F_standing := fun_mk (st := s_standing) l_standing c_standing k_standing
  have b_standing := F_standing.binds (ps := ["rows", "behind"]) fun _ _ _ _ _ _ us hl => match us, hl with | [_, _], _ => rfl
  have F_kept := fun_mk (st := s_kept) l_kept c_kept k_kept
  have b_kept := F_kept.binds (ps := ["program"]) fun _ _ _ _ _ _ us hl => match us, hl with | [_], _ => rfl
  have F_cut := fun_mk (st := s_cut) l_cut c_cut k_cut
  have b_cut := F_cut.binds (ps := ["program"]) fun _ _ _ _ _ _ us hl => match us, hl with | [_], _ => rfl
  have F_without := fun_mk (st := s_without) l_without c_without k_without
  have b_without := F_without.binds (ps := ["program", "places"]) fun _ _ _ _ _ _ us hl => match us, hl with | [_, _], _ => rfl
  have F__law_whole := fun_mk (st := s__law_whole) l__law_whole c__law_whole k__law_whole
  have b__law_whole := F__law_whole.binds (ps := ["_law_found"]) fun _ _ _ _ _ _ us hl => match us, hl with | [_], _ => rfl
  have F__law_numbers := fun_mk (st := s__law_numbers) l__law_numbers c__law_numbers k__law_numbers
  have b__law_numbers := F__law_numbers.binds (ps := ["_law_found", "_law_due"]) fun _ _ _ _ _ _ us hl => match us, hl with | [_, _], _ => rfl
  have F__law_row_same := fun_mk (st := s__law_row_same) l__law_row_same c__law_row_same k__law_row_same
  have b__law_row_same := F__law_row_same.binds (ps := ["_law_found", "_law_due"]) fun _ _ _ _ _ _ us hl => match us, hl with | [_, _], _ => rfl
  have F__law_same := fun_mk (st := s__law_same) l__law_same c__law_same k__law_same
  have b__law_same := F__law_same.binds (ps := ["_law_found", "_law_due"]) fun _ _ _ _ _ _ us hl => match us, hl with | [_, _], _ => rfl
  have F__law_pairs := fun_mk (st := s__law_pairs) l__law_pairs c__law_pairs k__law_pairs
  have b__law_pairs := F__law_pairs.binds (ps := ["_law_found", "_law_due"]) fun _ _ _ _ _ _ us hl => match us, hl with | [_, _], _ => rfl
  have F__law_without_by := fun_mk (st := s__law_without_by) l__law_without_by c__law_without_by k__law_without_by
  have b__law_without_by := F__law_without_by.binds (ps := ["_law_program", "_law_places_here"]) fun _ _ _ _ _ _ us hl => match us, hl with | [_, _], _ => rfl
  have F_law := fun_mk (st := s_law) l_law c_law k_law
  have m_all := PySem.W.mg_none_of X G z_all
  have m_bool := PySem.W.mg_none_of X G z_bool
  have m_int := PySem.W.mg_none_of X G z_int
  have m_isinstance := PySem.W.mg_none_of X G z_isinstance
  have m_len := PySem.W.mg_none_of X G z_len
  have m_list := PySem.W.mg_none_of X G z_list
  have m_max := PySem.W.mg_none_of X G z_max
  have m_min := PySem.W.mg_none_of X G z_min
  have m_range := PySem.W.mg_none_of X G z_range
  have m_reversed := PySem.W.mg_none_of X G z_reversed
  have m_sorted := PySem.W.mg_none_of X G z_sorted
  have m_str := PySem.W.mg_none_of X G z_str
  have m_tuple := PySem.W.mg_none_of X G z_tuple
  refine ⟨PySem.W.fnOf "law" "law" (defArgs s_law) (defBody s_law) (defScope s_law) .none kV_law dc_law pm_law an_law cd_law ct_law, fun s v => .of_eq rfl, fun base _ _ => ?_⟩
  have G__law_cell_at : FnOk l.prog w K mg base CX0 1 f__law_cell_at _ ["_law_script", "_law_k"] (spF K R__law_cell_at) := ok__law_cell_at F__law_cell_at m_len
  have G__law_drawn : FnOk l.prog w K mg base CX0 2 f__law_drawn _ ["_law_script", "_law_k"] (spF K R__law_drawn) := ok__law_drawn F__law_drawn G__law_cell_at (PySem.W.mg_of X G a__law_cell_at) k__law_cell_at b__law_cell_at
  have G__law_ways_by : FnOk l.prog w K mg base CX0 3 f__law_ways_by _ ["_law_script", "_law_k", "_law_size"] (spF K R__law_ways_by) := ok__law_ways_by F__law_ways_by G__law_drawn (PySem.W.mg_of X G a__law_drawn) k__law_drawn b__law_drawn m_max m_int m_range
  have G__law_rest_by : FnOk l.prog w K mg base CX0 1 f__law_rest_by _ ["_law_cell", "_law_most"] (spF K R__law_rest_by) := ok__law_rest_by F__law_rest_by m_range
  have G__law_own_sign : FnOk l.prog w K mg base CX0 3 f__law_own_sign _ ["_law_script", "_law_k"] (spF K R__law_own_sign) := ok__law_own_sign F__law_own_sign G__law_drawn (PySem.W.mg_of X G a__law_drawn) k__law_drawn b__law_drawn G__law_rest_by (PySem.W.mg_of X G a__law_rest_by) k__law_rest_by b__law_rest_by m_min m_len
  have G__law_row_by : FnOk l.prog w K mg base CX0 1 f__law_row_by _ ["_law_cell", "_law_names", "_law_sign"] (spF K R__law_row_by) := ok__law_row_by F__law_row_by m_len m_tuple
  have G__law_program_by : FnOk l.prog w K mg base CX0 4 f__law_program_by _ ["_law_script", "_law_names"] (spF K R__law_program_by) := ok__law_program_by F__law_program_by G__law_drawn (PySem.W.mg_of X G a__law_drawn) k__law_drawn b__law_drawn G__law_ways_by (PySem.W.mg_of X G a__law_ways_by) k__law_ways_by b__law_ways_by G__law_own_sign (PySem.W.mg_of X G a__law_own_sign) k__law_own_sign b__law_own_sign G__law_row_by (PySem.W.mg_of X G a__law_row_by) k__law_row_by b__law_row_by m_int m_len m_range
  have G__law_names_by : FnOk l.prog w K mg base CX0 3 f__law_names_by _ ["_law_script"] (spF K R__law_names_by) := ok__law_names_by F__law_names_by G__law_drawn (PySem.W.mg_of X G a__law_drawn) k__law_drawn b__law_drawn G__law_rest_by (PySem.W.mg_of X G a__law_rest_by) k__law_rest_by b__law_rest_by m_range m_min m_len
  have G__law_copy : FnOk l.prog w K mg base CX0 1 f__law_copy _ ["_law_program"] (spF K R__law_copy) := ok__law_copy F__law_copy m_list
  have G__law_places : FnOk l.prog w K mg base CX0 1 f__law_places _ ["_law_program"] (spF K R__law_places) := ok__law_places F__law_places m_range m_len
  have G__law_ahead_by : FnOk l.prog w K mg base CX0 1 f__law_ahead_by _ ["_law_rows", "_law_behind"] (spF K R__law_ahead_by) := ok__law_ahead_by F__law_ahead_by m_range m_len m_sorted m_list
  have G__law_needed_by : FnOk l.prog w K mg base CX0 2 f__law_needed_by _ ["_law_program"] (spF K R__law_needed_by) := ok__law_needed_by F__law_needed_by G__law_ahead_by (PySem.W.mg_of X G a__law_ahead_by) k__law_ahead_by b__law_ahead_by m_range m_len m_list
  have G__law_kept_by : FnOk l.prog w K mg base CX0 3 f__law_kept_by _ ["_law_program"] (spF K R__law_kept_by) := ok__law_kept_by F__law_kept_by G__law_needed_by (PySem.W.mg_of X G a__law_needed_by) k__law_needed_by b__law_needed_by G__law_ahead_by (PySem.W.mg_of X G a__law_ahead_by) k__law_ahead_by b__law_ahead_by m_range m_len m_min m_sorted
  have G_ahead : FnOk l.prog w K mg base CX0 1 f_ahead _ ["rows", "behind"] (spF K R_ahead) := ok_ahead F_ahead m_reversed m_sorted m_list
  have G_behind_of : FnOk l.prog w K mg base CX0 1 f_behind_of _ ["needs", "ways"] (spF K R_behind_of) := ok_behind_of F_behind_of
  have G_needed : FnOk l.prog w K mg base CX0 2 f_needed _ ["program"] (spF K R_needed) := ok_needed F_needed G_ahead (PySem.W.mg_of X G a_ahead) k_ahead b_ahead G_behind_of (PySem.W.mg_of X G a_behind_of) k_behind_of b_behind_of m_range m_len
  have G_reached : FnOk l.prog w K mg base CX0 1 f_reached _ ["program"] (spF K R_reached) := ok_reached F_reached m_len m_sorted
  have G_standing : FnOk l.prog w K mg base CX0 1 f_standing _ ["rows", "behind"] (spF K R_standing) := ok_standing F_standing m_range m_len m_sorted
  have G_kept : FnOk l.prog w K mg base CX0 3 f_kept _ ["program"] (spF K R_kept) := ok_kept F_kept G_needed (PySem.W.mg_of X G a_needed) k_needed b_needed G_reached (PySem.W.mg_of X G a_reached) k_reached b_reached G_standing (PySem.W.mg_of X G a_standing) k_standing b_standing G_behind_of (PySem.W.mg_of X G a_behind_of) k_behind_of b_behind_of
  have G_cut : FnOk l.prog w K mg base CX0 4 f_cut _ ["program"] (spF K R_cutD) := ok_cut F_cut G_kept (PySem.W.mg_of X G a_kept) k_kept b_kept m_list
  have G_without : FnOk l.prog w K mg base CX0 1 f_without _ ["program", "places"] (spF K R_without) := ok_without F_without m_len m_range m_list
  have G__law_whole : FnOk l.prog w K mg base CX0 1 f__law_whole _ ["_law_found"] (spF K R__law_whole) := ok__law_whole F__law_whole m_isinstance m_int m_bool
  have G__law_numbers : FnOk l.prog w K mg base CX0 2 f__law_numbers _ ["_law_found", "_law_due"] (spF K R__law_numbers) := ok__law_numbers F__law_numbers G__law_whole (PySem.W.mg_of X G a__law_whole) k__law_whole b__law_whole m_isinstance m_list m_len m_range
  have G__law_row_same : FnOk l.prog w K mg base CX0 1 f__law_row_same _ ["_law_found", "_law_due"] (spF K R__law_row_same) := ok__law_row_same F__law_row_same m_isinstance m_tuple m_all m_str m_len
  have G__law_same : FnOk l.prog w K mg base CX0 3 f__law_same _ ["_law_found", "_law_due"] (spF K R__law_same) := ok__law_same F__law_same G__law_numbers (PySem.W.mg_of X G a__law_numbers) k__law_numbers b__law_numbers G__law_row_same (PySem.W.mg_of X G a__law_row_same) k__law_row_same b__law_row_same m_isinstance m_list m_len m_range m_tuple
  have G__law_pairs : FnOk l.prog w K mg base CX0 2 f__law_pairs _ ["_law_found", "_law_due"] (spF K R__law_pairs) := ok__law_pairs F__law_pairs G__law_whole (PySem.W.mg_of X G a__law_whole) k__law_whole b__law_whole m_isinstance m_list m_all m_tuple
  have G__law_without_by : FnOk l.prog w K mg base CX0 1 f__law_without_by _ ["_law_program", "_law_places_here"] (spF K R__law_without_by) := ok__law_without_by F__law_without_by m_range m_len m_list
  exact ok_law F_law G__law_program_by (PySem.W.mg_of X G a__law_program_by) k__law_program_by b__law_program_by G__law_names_by (PySem.W.mg_of X G a__law_names_by) k__law_names_by b__law_names_by G__law_copy (PySem.W.mg_of X G a__law_copy) k__law_copy b__law_copy G__law_places (PySem.W.mg_of X G a__law_places) k__law_places b__law_places G__law_kept_by (PySem.W.mg_of X G a__law_kept_by) k__law_kept_by b__law_kept_by G__law_drawn (PySem.W.mg_of X G a__law_drawn) k__law_drawn b__law_drawn G_kept (PySem.W.mg_of X G a_kept) k_kept b_kept G_cut (PySem.W.mg_of X G a_cut) k_cut b_cut G_without (PySem.W.mg_of X G a_without) k_without b_without G__law_same (PySem.W.mg_of X G a__law_same) k__law_same b__law_same G__law_pairs (PySem.W.mg_of X G a__law_pairs) k__law_pairs b__law_pairs G__law_without_by (PySem.W.mg_of X G a__law_without_by) k__law_without_by b__law_without_by m_int m_range m_len m_list
theorem law_sp {K : PySem.W.Frag} {H : Hp} {a : Addr} {ns : List Int} {E : XK} (hl : ns.length ≤ 63) (hS : SqL K H a (ns.map V.int)) : spF K R_law [.ref a] H (fun v _ => v = .bl true) E :=
  ⟨H, [.scr ns], .im (.bl true), fun _ _ z => z, .cons (.scr hS) .nil, ⟨ns, rfl, hl, rfl⟩, fun v A' B' fp g ok _ => by
    obtain ⟨_, w, e, r⟩ := ok
    cases e
    cases r
    rfl⟩
end Sx
open PySem PySem.W PyProof.Rows
set_option maxHeartbeats 0 in
theorem PySem.Challenge.cw_slotfitter_k08_rows_that_stand_holds : PySem.Challenge.rw_slotfitter_k08_rows_that_stand.Holds := by
  w_on; o_law; k_head; (case hw => w_witness2)
  k_fill
  refine L2.walk_of (l := PySem.Challenge.rw_slotfitter_k08_rows_that_stand) (n := 63) (k := 5) (x := "_law_script") (CX := fun _ => L2.CX0) (sp := fun w => Sf.spF _ Sf.R_law) rfl (by decide) rfl ⟨rfl, by decide, by decide⟩ (fun w h Y => PySem.W.kIn_of Y) ?F (fun _ _ a ns hl _ hS => Sx.law_sp hl hS) (fun _ _ _ _ _ h => h)
  case F =>
    intro w mg fa h KX G hmg
    refine' Sx.all_mk KX G hmg ?a__law_cell_at ?l__law_cell_at ?c__law_cell_at ?k__law_cell_at ?a__law_drawn ?l__law_drawn ?c__law_drawn ?k__law_drawn ?a__law_ways_by ?l__law_ways_by ?c__law_ways_by ?k__law_ways_by ?a__law_rest_by ?l__law_rest_by ?c__law_rest_by ?k__law_rest_by ?a__law_own_sign ?l__law_own_sign ?c__law_own_sign ?k__law_own_sign ?a__law_row_by ?l__law_row_by ?c__law_row_by ?k__law_row_by ?a__law_program_by ?l__law_program_by ?c__law_program_by ?k__law_program_by ?a__law_names_by ?l__law_names_by ?c__law_names_by ?k__law_names_by ?a__law_copy ?l__law_copy ?c__law_copy ?k__law_copy ?a__law_places ?l__law_places ?c__law_places ?k__law_places ?a__law_ahead_by ?l__law_ahead_by ?c__law_ahead_by ?k__law_ahead_by ?a__law_needed_by ?l__law_needed_by ?c__law_needed_by ?k__law_needed_by ?a__law_kept_by ?l__law_kept_by ?c__law_kept_by ?k__law_kept_by ?a_ahead ?l_ahead ?c_ahead ?k_ahead ?a_behind_of ?l_behind_of ?c_behind_of ?k_behind_of ?a_needed ?l_needed ?c_needed ?k_needed ?a_reached ?l_reached ?c_reached ?k_reached ?a_standing ?l_standing ?c_standing ?k_standing ?a_kept ?l_kept ?c_kept ?k_kept ?a_cut ?l_cut ?c_cut ?k_cut ?a_without ?l_without ?c_without ?k_without ?a__law_whole ?l__law_whole ?c__law_whole ?k__law_whole ?a__law_numbers ?l__law_numbers ?c__law_numbers ?k__law_numbers ?a__law_row_same ?l__law_row_same ?c__law_row_same ?k__law_row_same ?a__law_same ?l__law_same ?c__law_same ?k__law_same ?a__law_pairs ?l__law_pairs ?c__law_pairs ?k__law_pairs ?a__law_without_by ?l__law_without_by ?c__law_without_by ?k__law_without_by ?a_law ?l_law ?c_law ?k_law ?z_all ?z_bool ?z_int ?z_isinstance ?z_len ?z_list ?z_max ?z_min ?z_range ?z_reversed ?z_sorted ?z_str ?z_tuple
    (case a__law_cell_at => k_is); (case l__law_cell_at => k_is); (case c__law_cell_at => k_is); (case k__law_cell_at => k_is); (case a__law_drawn => k_is); (case l__law_drawn => k_is); (case c__law_drawn => k_is); (case k__law_drawn => k_is); (case a__law_ways_by => k_is); (case l__law_ways_by => k_is); (case c__law_ways_by => k_is); (case k__law_ways_by => k_is); (case a__law_rest_by => k_is); (case l__law_rest_by => k_is); (case c__law_rest_by => k_is); (case k__law_rest_by => k_is); (case a__law_own_sign => k_is); (case l__law_own_sign => k_is); (case c__law_own_sign => k_is); (case k__law_own_sign => k_is); (case a__law_row_by => k_is); (case l__law_row_by => k_is); (case c__law_row_by => k_is); (case k__law_row_by => k_is); (case a__law_program_by => k_is); (case l__law_program_by => k_is); (case c__law_program_by => k_is); (case k__law_program_by => k_is); (case a__law_names_by => k_is); (case l__law_names_by => k_is); (case c__law_names_by => k_is); (case k__law_names_by => k_is); (case a__law_copy => k_is); (case l__law_copy => k_is); (case c__law_copy => k_is); (case k__law_copy => k_is); (case a__law_places => k_is); (case l__law_places => k_is); (case c__law_places => k_is); (case k__law_places => k_is); (case a__law_ahead_by => k_is); (case l__law_ahead_by => k_is); (case c__law_ahead_by => k_is); (case k__law_ahead_by => k_is); (case a__law_needed_by => k_is); (case l__law_needed_by => k_is); (case c__law_needed_by => k_is); (case k__law_needed_by => k_is); (case a__law_kept_by => k_is); (case l__law_kept_by => k_is); (case c__law_kept_by => k_is); (case k__law_kept_by => k_is); (case a_ahead => k_is); (case l_ahead => k_is); (case c_ahead => k_is); (case k_ahead => k_is); (case a_behind_of => k_is); (case l_behind_of => k_is); (case c_behind_of => k_is); (case k_behind_of => k_is); (case a_needed => k_is); (case l_needed => k_is); (case c_needed => k_is); (case k_needed => k_is); (case a_reached => k_is); (case l_reached => k_is); (case c_reached => k_is); (case k_reached => k_is); (case a_standing => k_is); (case l_standing => k_is); (case c_standing => k_is); (case k_standing => k_is); (case a_kept => k_is); (case l_kept => k_is); (case c_kept => k_is); (case k_kept => k_is); (case a_cut => k_is); (case l_cut => k_is); (case c_cut => k_is); (case k_cut => k_is); (case a_without => k_is); (case l_without => k_is); (case c_without => k_is); (case k_without => k_is); (case a__law_whole => k_is); (case l__law_whole => k_is); (case c__law_whole => k_is); (case k__law_whole => k_is); (case a__law_numbers => k_is); (case l__law_numbers => k_is); (case c__law_numbers => k_is); (case k__law_numbers => k_is); (case a__law_row_same => k_is); (case l__law_row_same => k_is); (case c__law_row_same => k_is); (case k__law_row_same => k_is); (case a__law_same => k_is); (case l__law_same => k_is); (case c__law_same => k_is); (case k__law_same => k_is); (case a__law_pairs => k_is); (case l__law_pairs => k_is); (case c__law_pairs => k_is); (case k__law_pairs => k_is); (case a__law_without_by => k_is); (case l__law_without_by => k_is); (case c__law_without_by => k_is); (case k__law_without_by => k_is); (case a_law => k_is); (case l_law => k_is); (case c_law => k_is); (case k_law => k_is); (case z_all => k_is); (case z_bool => k_is); (case z_int => k_is); (case z_isinstance => k_is); (case z_len => k_is); (case z_list => k_is); (case z_max => k_is); (case z_min => k_is); (case z_range => k_is); (case z_reversed => k_is); (case z_sorted => k_is); (case z_str => k_is); (case z_tuple => k_is)
