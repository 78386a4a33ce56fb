import PyProof.Rows.All
import Wide.All
import OpenK.AllK
import Wide.FinOn
import HandS.ForMost
import HandS.Exc
import HandS.ExcOwn
import HandS.ExcInit
import HandS.TryOnly
import HandS.WordsExc
import HandS.Lambda
import HandS.EndTab
import HandS.HeadWalk
import HandS.Deep
import HandS.DeepEq
import HandS.IsInst
import HandS.TupAny
import HandS.Zip
import HandS.Walk
import HandS.Flow
import HandS.Style
import HandS.Defaults
import HandS.Property
import HandS.ClsMeth
import HandS.DictComp
import HandS.SortInts
import HandS.SortKw
import HandS.SortRule
import HandS.HeadNt
import HandS.HeadHook4
import HandS.Head2
import KE.GoesMore
import KE.GoesEnum
import KE.GoesNew
import KE.GoesZip
import KE.KDictKeyed
import KE.KDictPairs
import KE.KDictWalk
import KE.KDictList
import KE.KDictCopyH
import KE.KSortKey
import HandS.HeadHook1
import HandS.HeadHook2
import HandS.HeadHook3
import KE.KStateDown
import Lean
import HandS.Head0
import HandS.Head1
import KE.DataMinMax
import KE.SortKeyHeap
import KE.KTupSum
import KE.KRevSl
import HandS.HeadEnd
import PySem.Challenge.RW_sparerows_k48_whole_mends_and_trees
section
set_option Elab.async false
set_option linter.all false
set_option maxRecDepth 100000
set_option maxHeartbeats 4000000
/-! Sp: the layer: growth of the abstract heap (all but code tables stay), data, steps. -/
namespace Sp
open PySem L2
abbrev Fg : Type := PySem.W.Frag
abbrev D : Type := PyData
def top (i : Nat) : Stmt := PySem.Challenge.pw_sparerows_k48_whole_mends_and_trees.main.body.getD i (.Pass ⟨0, 0, 0, 0⟩)

/-! ### growth -/
structure Ex (T : List (Addr × Str)) (H H' : Hp) : Prop where
  ext : LamX.ExtN H H'
  tab : LamX.Tabs T H → LamX.Tabs T H'
section
variable {T : List (Addr × Str)} {H H' H1 H2 : Hp} {K : Fg} {a p : Addr} {o : HO} {xs ys : List V}
theorem Ex.refl (H : Hp) : Ex T H H := ⟨LamX.ExtN.refl H, fun t => t⟩
theorem Ex.trans (a : Ex T H H1) (b : Ex T H1 H2) : Ex T H H2 := ⟨a.ext.trans b.ext, fun t => b.tab (a.tab t)⟩
theorem Ex.of (e : ∀ b o, H b = some o → H' b = some o) : Ex T H H' := ⟨LamX.ExtN.of e, fun t => t.ext e⟩
theorem upd_keep (h : H p = none) : ∀ b u, H b = some u → upd H p o b = some u := fun b u e => by
  rw [upd_ne (ne_of_none e h)]
  exact e
theorem Ex.new (h : H p = none) : Ex T H (upd H p o) := .of (upd_keep h)
/-- what is no table and nothing by its object -/
def Pln : HO → Prop
  | .tbl _ => False
  | .ext _ => False
  | _ => True
/-- nothing but a table stands at p -/
def New (H : Hp) (p : Addr) : Prop := ∀ o, H p = some o → ∃ ps, o = HO.tbl ps
theorem New.of (h : H p = none) : New H p := fun o e => by rw [h] at e; cases e
theorem Ex.at (e : Ex T H H') (h : H a = some o) (n : ∀ ps, o ≠ .tbl ps := by intro _ z; cases z) : H' a = some o := e.ext a o h n
theorem Ex.free (e : Ex T H H') (h : New H' p) : New H p := fun o q => by
  by_cases z : ∃ ps, o = .tbl ps
  · exact z
  · exact h o (e.ext p o q fun ps hp => z ⟨ps, hp⟩)
theorem Ex.free0 (e : Ex T H H') (h : H' p = none) : New H p := e.free (.of h)
/-- an object that H does not know may change -/
theorem Ex.mut {u : HO} (e : Ex T H H') (h : New H p) (hp : H' p = some u) (n : Pln u) : Ex T H (upd H' p o) := by
  refine ⟨fun b v q nt => ?_, fun t => ?_⟩
  · have nb : b ≠ p := fun z => by
      rw [z] at q
      obtain ⟨ps, rfl⟩ := h v q
      exact nt ps rfl
    rw [upd_ne nb]
    exact e.ext b v q nt
  · intro q hq
    obtain ⟨ps, h1, h2, h3⟩ := e.tab t q hq
    have np : q.1 ≠ p := fun z => by
      rw [z, hp] at h1
      cases h1
      exact n
    refine ⟨ps, by rw [upd_ne np]; exact h1, h2, fun pos cv hc => ?_⟩
    obtain ⟨c, e1, e2⟩ := h3 pos cv hc
    have nc : c ≠ p := fun z => by
      rw [z] at e2
      rw [hp] at e2
      have e3 := Option.some.inj e2
      rw [e3] at n
      exact n
    exact ⟨c, e1, by rw [upd_ne nc]; exact e2⟩
/-- .. of an object that is not there yet -/
theorem Ex.add (e : Ex T H H') (h : H' p = none) : Ex T H (upd H' p o) := e.trans (.new h)
theorem Ex.rd {u : HO} (e : Ex T H H') (h : Rd H a u) (n : ∀ ps, u ≠ .tbl ps := by intro _ z; cases z) : Rd H' a u := by
  rcases h with h | ⟨o, h⟩
  · exact .inl (e.ext a u h n)
  · exact .inr ⟨o, e.at h⟩
theorem Ex.sl (e : Ex T H H') (h : SqL K H a xs) : SqL K H' a xs := by
  rcases h with h | h
  · exact .inl (e.rd h)
  · exact .inr h
theorem Ex.st (e : Ex T H H') (h : SqT K H a xs) : SqT K H' a xs := by
  rcases h with h | h
  · exact .inl (e.rd h)
  · exact .inr h
end

/-! ### data: tuples all through -/
mutual
inductive Tp (K : Fg) (H : Hp) : V → D → Prop
  | non : Tp K H .non .none
  | bl (b : Bool) : Tp K H (.bl b) (.bool b)
  | int (i : Int) : Tp K H (.int i) (.int i)
  | str (x : Str) : Tp K H (.str x) (.str x)
  | tup {a : Addr} {xs : List V} {ds : List D} : SqT K H a xs → TpAll K H xs ds → Tp K H (.ref a) (.tuple ds)
inductive TpAll (K : Fg) (H : Hp) : List V → List D → Prop
  | nil : TpAll K H [] []
  | cons {v : V} {vs : List V} {d : D} {ds : List D} : Tp K H v d → TpAll K H vs ds → TpAll K H (v :: vs) (d :: ds)
end
section
variable {T : List (Addr × Str)} {H H' : Hp} {K : Fg} {v : V} {xs : List V} {p : Addr} {o u : HO}
theorem Tp.mv (e : ∀ a xs, SqT K H a xs → SqT K H' a xs) {d : D} {v : V} (h : Tp K H v d) : Tp K H' v d :=
  Tp.rec (motive_1 := fun v d _ => Tp K H' v d) (motive_2 := fun vs ds _ => TpAll K H' vs ds) .non (fun b => .bl b) (fun i => .int i) (fun x => .str x) (fun h1 _ h2 => .tup (e _ _ h1) h2) .nil (fun _ _ h1 h2 => .cons h1 h2) h
theorem TpAll.mv (e : ∀ a xs, SqT K H a xs → SqT K H' a xs) : ∀ {ds : List D} {vs : List V}, TpAll K H vs ds → TpAll K H' vs ds
  | _, _, .nil => .nil
  | _, _, .cons h1 h2 => .cons (h1.mv e) (TpAll.mv e h2)
theorem Ex.tp (e : Ex T H H') {d : D} {v : V} (h : Tp K H v d) : Tp K H' v d := h.mv fun _ _ => e.st
theorem Ex.tps (e : Ex T H H') {ds : List D} {vs : List V} (h : TpAll K H vs ds) : TpAll K H' vs ds := h.mv fun _ _ => e.st
/-- something that is no tuple changes at p -/
theorem sqt_upd {a : Addr} (hp : ∀ xs, ¬ Rd H p (.tup xs)) (h : SqT K H a xs) : SqT K (upd H p o) a xs := by
  rcases h with h | h
  · have n : a ≠ p := fun z => by
      rw [z] at h
      exact hp _ h
    rcases h with h | ⟨ob, h⟩
    · exact .inl (.inl (by rw [upd_ne n]; exact h))
    · exact .inl (.inr ⟨ob, by rw [upd_ne n]; exact h⟩)
  · exact .inr h
def NoTup (H : Hp) (p : Addr) : Prop := ∀ xs, ¬ Rd H p (.tup xs)
theorem noTup_of (h : H p = some u) (n1 : ∀ xs, u ≠ .tup xs := by intro _ z; cases z) (n2 : ∀ o v, u ≠ .frz o v := by intro _ _ z; cases z) : NoTup H p := fun xs r => by
  rcases r with r | ⟨ob, r⟩
  · rw [h] at r
    exact n1 _ (Option.some.inj r)
  · rw [h] at r
    exact n2 _ _ (Option.some.inj r)
theorem noTup_none (h : H p = none) : NoTup H p := fun xs r => by
  rcases r with r | ⟨ob, r⟩ <;> (rw [h] at r; cases r)
theorem Tp.up {d : D} (h : Tp K H v d) (hp : NoTup H p) : Tp K (upd H p o) v d := h.mv fun _ _ => sqt_upd hp
theorem TpAll.up {ds : List D} (h : TpAll K H xs ds) (hp : NoTup H p) : TpAll K (upd H p o) xs ds := h.mv fun _ _ => sqt_upd hp
mutual
theorem Tp.dp : ∀ {v : V} {d : D}, Tp K H v d → Dp K H v d
  | _, _, .non => .non
  | _, _, .bl b => .bl b
  | _, _, .int i => .int i
  | _, _, .str x => .str x
  | _, _, .tup h1 h2 => .tup h1 (TpAll.dps h2)
theorem TpAll.dps : ∀ {vs : List V} {ds : List D}, TpAll K H vs ds → DpAll K H vs ds
  | _, _, .nil => .nil
  | _, _, .cons h1 h2 => .cons (Tp.dp h1) (TpAll.dps h2)
end
theorem tp_int {n : Int} (h : Tp K H v (.int n)) : v = .int n := by cases h; rfl
theorem tp_non (h : Tp K H v .none) : v = .non := by cases h; rfl
theorem tp_bl {b : Bool} (h : Tp K H v (.bool b)) : v = .bl b := by cases h; rfl
theorem tp_str {x : Str} (h : Tp K H v (.str x)) : v = .str x := by cases h; rfl
theorem tp_tup {ds : List D} (h : Tp K H v (.tuple ds)) : ∃ a xs, v = .ref a ∧ SqT K H a xs ∧ TpAll K H xs ds := by
  cases h with
  | tup h1 h2 => exact ⟨_, _, rfl, h1, h2⟩
theorem TpAll.len : ∀ {xs : List V} {ds : List D}, TpAll K H xs ds → xs.length = ds.length
  | _, _, .nil => rfl
  | _, _, .cons _ h => congrArg Nat.succ (TpAll.len h)
theorem TpAll.get : ∀ {xs : List V} {ds : List D} {i : Nat} {d : D}, TpAll K H xs ds → ds[i]? = some d → ∃ x, xs[i]? = some x ∧ Tp K H x d
  | _, _, _, _, .nil, h => by simp at h
  | _, _, 0, _, .cons h1 _, h => by
    simp only [List.getElem?_cons_zero, Option.some.injEq] at h
    subst h
    exact ⟨_, rfl, h1⟩
  | _, _, i + 1, d, .cons _ h2, h => by
    obtain ⟨x, e1, e2⟩ := TpAll.get (i := i) h2 (by simpa using h)
    exact ⟨x, by simpa using e1, e2⟩
theorem TpAll.got : ∀ {xs : List V} {ds : List D} {i : Nat} {x : V}, TpAll K H xs ds → xs[i]? = some x → ∃ d, ds[i]? = some d ∧ Tp K H x d
  | _, _, _, _, .nil, h => by simp at h
  | _, _, 0, _, .cons h1 _, h => by
    simp only [List.getElem?_cons_zero, Option.some.injEq] at h
    subst h
    exact ⟨_, rfl, h1⟩
  | _, _, i + 1, x, .cons _ h2, h => by
    obtain ⟨d, e1, e2⟩ := TpAll.got (i := i) h2 (by simpa using h)
    exact ⟨d, by simpa using e1, e2⟩
theorem TpAll.app : ∀ {xs ys : List V} {ds es : List D}, TpAll K H xs ds → TpAll K H ys es → TpAll K H (xs ++ ys) (ds ++ es)
  | _, _, _, _, .nil, h => h
  | _, _, _, _, .cons h1 h2, h => .cons h1 (TpAll.app h2 h)
theorem TpAll.one {d : D} (h : Tp K H v d) : TpAll K H [v] [d] := .cons h .nil
theorem TpAll.take : ∀ (n : Nat) {xs : List V} {ds : List D}, TpAll K H xs ds → TpAll K H (xs.take n) (ds.take n)
  | 0, _, _, _ => .nil
  | _ + 1, _, _, .nil => .nil
  | n + 1, _, _, .cons h1 h2 => .cons h1 (TpAll.take n h2)
theorem TpAll.drop : ∀ (n : Nat) {xs : List V} {ds : List D}, TpAll K H xs ds → TpAll K H (xs.drop n) (ds.drop n)
  | 0, _, _, h => h
  | _ + 1, _, _, .nil => .nil
  | n + 1, _, _, .cons _ h2 => TpAll.drop n h2
theorem TpAll.ints : ∀ {l : List Int}, TpAll K H (l.map V.int) (l.map PyData.int)
  | [] => .nil
  | n :: _ => .cons (.int n) TpAll.ints
theorem tpInts : ∀ {l : List Int} {xs : List V}, TpAll K H xs (l.map PyData.int) → xs = l.map V.int
  | [], _, h => by cases h; rfl
  | n :: l, _, h => by
    cases h with
    | cons h1 h2 => rw [tp_int h1, tpInts h2]; rfl
/-- a source whose items stand for a list of one's own -/
theorem TpAll.src {α : Type} {l : List α} {enc : α → D} {i : Nat} {x : V} (h : TpAll K H xs (l.map enc)) (hi : xs[i]? = some x) : ∃ z, l[i]? = some z ∧ Tp K H x (enc z) := by
  obtain ⟨d, e1, e2⟩ := h.got hi
  rw [List.getElem?_map] at e1
  cases q : l[i]? with
  | none => rw [q] at e1; cases e1
  | some z =>
    rw [q] at e1
    cases e1
    exact ⟨z, rfl, e2⟩
/-- two readings of one object are one -/
theorem Tp.shaped_len {ds : List D} (h : TpAll K H xs ds) : xs.length = ds.length := h.len
end

/-! ### comprehensions -/
/-- the body of a comprehension's reading, behind what it walks -/
def LcG (J : It) (g : TG) (tt : TT) (te : TE) (vs : List Nat) (σ : L2.St) (H1 : Hp) (Q : VK) : Prop := ∀ L, H1 L = none → ∃ W : Nat → Nat → Hp → Prop, (∃ m, W 0 m (upd H1 L (.lst []))) ∧ ∀ i m H, W i m H →
  (J.stop i H ∧ Q (.ref L) H) ∨ (J.go i H ∧ ∃ Nx : Hp → Prop, (∀ H', Nx H' → ∃ m', m' < m ∧ W (i + 1) m' H') ∧ ∀ x H', J.yld i H x H' → g x (wipe σ vs) H' fun σ2 H2 => wipe σ2 vs = wipe σ vs ∧ tt σ2 H2 fun b H3 =>
    if b = true then te σ2 H3 fun y H4 => ∃ acc, H4 L = some (.lst acc) ∧ acc.length < sizeLine ∧ Nx (upd H4 L (.lst (acc ++ [y]))) else Nx H3)
theorem st_lc {wi : TI} {g : TG} {tt : TT} {te : TE} {vs : List Nat} {σ : L2.St} {H : Hp} {Q : VK} (q : wi σ H fun J H1 => LcG J g tt te vs σ H1 Q) : tLc wi g tt te vs σ H Q := q
theorem st_iT {K : Fg} {tl : TE} {σ : L2.St} {H : Hp} {R : It → Hp → Prop} (q : tl σ H fun x H1 => ∃ a, x = .ref a ∧ (∃ xs, SqT K H1 a xs) ∧ R (Itt K a) H1) : iTup K tl σ H R := q
theorem st_iL {K : Fg} {tl : TE} {σ : L2.St} {H : Hp} {R : It → Hp → Prop} (q : tl σ H fun x H1 => ∃ a, x = .ref a ∧ (∃ xs, SqL K H1 a xs) ∧ R (Itl K a) H1) : iList K tl σ H R := q
theorem st_iR1 {ta : TA} {σ : L2.St} {H : Hp} {R : It → Hp → Prop} (q : ta σ H fun vs H1 => ∃ j : Int, vs = [.int j] ∧ -(2 ^ 62) ≤ j ∧ j < 2 ^ 62 ∧ R (Itr 0 j.toNat) H1) : iRng1 ta σ H R := q
theorem st_iR2 {ta : TA} {σ : L2.St} {H : Hp} {R : It → Hp → Prop} (q : ta σ H fun vs H1 => ∃ i j : Int, vs = [.int i, .int j] ∧ (-(2 ^ 62) ≤ i ∧ i < 2 ^ 62 ∧ -(2 ^ 62) ≤ j ∧ j < 2 ^ 62) ∧ R (Itr i (j - i).toNat) H1) : iRng2 ta σ H R := q
theorem sz_of {n : Nat} (h : n ≤ 100000) : n ≤ sizeLine := Nat.le_trans h (by decide)
theorem sz_lt {n : Nat} (h : n < 100000) : n < sizeLine := Nat.lt_of_lt_of_le h (by decide)
section
variable {T : List (Addr × Str)} {K : Fg} {α : Type} {g : TG} {tt : TT} {te : TE} {vs : List Nat} {σ : L2.St} {H : Hp} {Q : VK} {a : Addr} {xs : List V}
/-- what a turn over an item has to show -/
def LcTurn (T : List (Addr × Str)) (K : Fg) (g : TG) (tt : TT) (te : TE) (vs : List Nat) (σ : L2.St) (H : Hp) (b : Bool) (d : D) (x : V) : Prop :=
  ∀ (Yes : V → Hp → Prop) (No : Hp → Prop), (b = true → ∀ y H4, Ex T H H4 → Tp K H4 y d → Yes y H4) → (b = false → ∀ H3, Ex T H H3 → No H3) →
    g x (wipe σ vs) H fun σ2 H2 => wipe σ2 vs = wipe σ vs ∧ tt σ2 H2 fun c H3 => if c = true then te σ2 H3 Yes else No H3
/-- the list so far -/
structure LcP (T : List (Addr × Str)) (K : Fg) (H : Hp) (L : Addr) (ds : List D) (H' : Hp) : Prop where
  new : New H L
  ex : Ex T H H'
  at_ : ∃ ys, H' L = some (.lst ys) ∧ TpAll K H' ys ds
theorem LcP.start {L : Addr} (h : H L = none) : LcP T K H L [] (upd H L (.lst [])) := ⟨.of h, .new h, [], upd_same, .nil⟩
theorem LcP.skip {L : Addr} {ds : List D} {H1 H2 : Hp} (p : LcP T K H L ds H1) (e : Ex T H1 H2) : LcP T K H L ds H2 := by
  obtain ⟨n, e0, ys, h1, h2⟩ := p
  exact ⟨n, e0.trans e, ys, e.at h1, e.tps h2⟩
theorem LcP.put {L : Addr} {ds : List D} {d : D} {y : V} {H1 : Hp} (p : LcP T K H L ds H1) (hy : Tp K H1 y d) (hz : ds.length < 100000) : ∃ acc, H1 L = some (.lst acc) ∧ acc.length < sizeLine ∧ LcP T K H L (ds ++ [d]) (upd H1 L (.lst (acc ++ [y]))) := by
  obtain ⟨n, e0, ys, h1, h2⟩ := p
  have nt : NoTup H1 L := noTup_of h1
  exact ⟨ys, h1, sz_lt (by rw [h2.len]; exact hz), n, e0.mut n h1 trivial, _, upd_same, (h2.up nt).app (.one (hy.up nt))⟩
theorem lc_step {L : Addr} {ds : List D} {b : Bool} {d : D} {x : V} {H1 : Hp} {Nx : Hp → Prop} (p : LcP T K H L ds H1) (hz : ds.length < 100000) (turn : LcTurn T K g tt te vs σ H1 b d x) (hN : ∀ H', LcP T K H L (if b = true then ds ++ [d] else ds) H' → Nx H') :
    g x (wipe σ vs) H1 fun σ2 H2 => wipe σ2 vs = wipe σ vs ∧ tt σ2 H2 fun c H3 =>
      if c = true then te σ2 H3 fun y H4 => ∃ acc, H4 L = some (.lst acc) ∧ acc.length < sizeLine ∧ Nx (upd H4 L (.lst (acc ++ [y]))) else Nx H3 := by
  refine turn _ _ (fun hb y H4 e hy => ?_) (fun hb H3 e => ?_)
  · obtain ⟨acc, h1, h2, h3⟩ := (p.skip e).put hy hz
    exact ⟨acc, h1, h2, hN _ (by rw [if_pos hb]; exact h3)⟩
  · exact hN _ (by rw [if_neg (by rw [hb]; decide)]; exact p.skip e)
/-- the items kept so far -/
def kept {α : Type} (b : α → Bool) (G : α → D) (l : List α) : List D := (l.filter b).map G
theorem kept_snoc {α : Type} {b : α → Bool} {G : α → D} {l : List α} {z : α} {i : Nat} (h : l[i]? = some z) : kept b G (l.take (i + 1)) = if b z = true then kept b G (l.take i) ++ [G z] else kept b G (l.take i) := by
  unfold kept
  rw [List.take_succ, h]
  simp only [Option.toList_some, List.filter_append, List.map_append]
  cases hb : b z with
  | true => simp [hb]
  | false => simp [hb]
theorem kept_len {α : Type} {b : α → Bool} {G : α → D} {l : List α} {i : Nat} : (kept b G (l.take i)).length ≤ i := by
  unfold kept
  rw [List.length_map]
  exact Nat.le_trans (List.length_filter_le _ _) (by rw [List.length_take]; exact Nat.min_le_left _ _)
/-- over a tuple -/
theorem lcT {l : List α} {enc : α → D} (b : α → Bool) (G : α → D) (hs : SqT K H a xs) (hx : TpAll K H xs (l.map enc)) (hz : l.length ≤ 100000)
    (turn : ∀ z x H1, z ∈ l → Ex T H H1 → Tp K H1 x (enc z) → LcTurn T K g tt te vs σ H1 (b z) (G z) x)
    (fin : ∀ p H' ys, New H p → Ex T H H' → H' p = some (.lst ys) → TpAll K H' ys ((l.filter b).map G) → Q (.ref p) H') : LcG (Itt K a) g tt te vs σ H Q := by
  intro L hL
  have hlen : xs.length = l.length := by rw [hx.len, List.length_map]
  refine lc_tup (xs := xs) (fun i H' => LcP T K H L (kept b G (l.take i)) H') (by rw [List.take_zero]; exact .start hL) (fun i H' _ p => p.ex.st hs) (fun i x H' hi p => ?_) (fun H' p => ?_)
  · obtain ⟨z, hz', hxz⟩ := hx.src hi
    have hil : i < l.length := by have := (List.getElem?_eq_some_iff.mp hi).1; omega
    refine lc_step p (by have := kept_len (b := b) (G := G) (l := l) (i := i); omega) (turn z x H' (List.mem_of_getElem? hz') p.ex (p.ex.tp hxz)) fun H2 q => ?_
    rw [kept_snoc hz']
    exact q
  · obtain ⟨ys, h1, h2⟩ := p.at_
    rw [hlen, List.take_length] at h2
    exact fin L H' ys p.new p.ex h1 h2
/-- over a list that stays -/
theorem lcL {l : List α} {enc : α → D} (b : α → Bool) (G : α → D) (hs : SqL K H a xs) (hx : TpAll K H xs (l.map enc)) (hz : l.length ≤ 100000)
    (turn : ∀ z x H1, z ∈ l → Ex T H H1 → Tp K H1 x (enc z) → LcTurn T K g tt te vs σ H1 (b z) (G z) x)
    (fin : ∀ p H' ys, New H p → Ex T H H' → H' p = some (.lst ys) → TpAll K H' ys ((l.filter b).map G) → Q (.ref p) H') : LcG (Itl K a) g tt te vs σ H Q := by
  intro L hL
  have hlen : xs.length = l.length := by rw [hx.len, List.length_map]
  refine lc_list (xs := xs) (fun i H' => LcP T K H L (kept b G (l.take i)) H') (by rw [List.take_zero]; exact .start hL) (fun i H' _ p => p.ex.sl hs) (fun i x H' hi p => ?_) (fun H' p => ?_)
  · obtain ⟨z, hz', hxz⟩ := hx.src hi
    have hil : i < l.length := by have := (List.getElem?_eq_some_iff.mp hi).1; omega
    refine lc_step p (by have := kept_len (b := b) (G := G) (l := l) (i := i); omega) (turn z x H' (List.mem_of_getElem? hz') p.ex (p.ex.tp hxz)) fun H2 q => ?_
    rw [kept_snoc hz']
    exact q
  · obtain ⟨ys, h1, h2⟩ := p.at_
    rw [hlen, List.take_length] at h2
    exact fin L H' ys p.new p.ex h1 h2
/-- over range(lo, lo + n) -/
theorem lcR {lo : Int} {n : Nat} (b : Nat → Bool) (G : Nat → D) (hz : n ≤ 100000)
    (turn : ∀ z H1, z < n → Ex T H H1 → LcTurn T K g tt te vs σ H1 (b z) (G z) (.int (lo + z)))
    (fin : ∀ p H' ys, New H p → Ex T H H' → H' p = some (.lst ys) → TpAll K H' ys (((List.range n).filter b).map G) → Q (.ref p) H') : LcG (Itr lo n) g tt te vs σ H Q := by
  intro L hL
  refine lc_range (lo := lo) (n := n) (fun i H' => LcP T K H L (kept b G ((List.range n).take i)) H') (by rw [List.take_zero]; exact .start hL) (fun i H' hi p => ?_) (fun H' p => ?_)
  · refine lc_step p (by have := kept_len (b := b) (G := G) (l := List.range n) (i := i); omega) (turn i H' hi p.ex) fun H2 q => ?_
    rw [kept_snoc (z := i) (by rw [List.getElem?_range hi])]
    exact q
  · obtain ⟨ys, h1, h2⟩ := p.at_
    rw [show (List.range n).take n = List.range n by rw [List.take_of_length_le]; simp] at h2
    exact fin L H' ys p.new p.ex h1 h2
end
/-! ### steps of a reading -/
section
variable {K : Fg} {σ : L2.St} {H : Hp} {v x y : V} {Q : VK} {i j : Int} {k : Nat} {ta tb tc te : TE} {tt tu : TT} {t u w : TS} {De : Ends} {g : TG} {r : R2} {b : Bool}
theorem st_var {i : Nat} (h : σ[i]? = some (some v)) (q : Q v H) : tVar i σ H Q := ⟨v, h, q⟩
theorem st_c (q : Q v H) : tC v σ H Q := q
theorem st_op (q : ta σ H fun x H1 => tb σ H1 fun y H2 => r x y H2 Q) : tOp r ta tb σ H Q := q
theorem st_un {r : V → Hp → VK → Prop} (q : ta σ H fun x H1 => r x H1 Q) : tUn r ta σ H Q := q
theorem st_seq (q : t { De with nx := u De } σ H) : tSeq t u De σ H := q
theorem st_asg (q : te σ H fun x H1 => g x σ H1 De.nx) : tAsg te g De σ H := q
theorem st_name {i : Nat} {Q : L2.St → Hp → Prop} (q : Q (σ.set i (some v)) H) : gName i v σ H Q := q
theorem st_ret (q : te σ H De.rt) : tRet te De σ H := q
theorem st_drop (q : te σ H fun _ H1 => De.nx σ H1) : tDrop te De σ H := q
theorem st_next (q : De.nx σ H) : tNext De σ H := q
theorem st_if (q : tt σ H fun b H1 => if b = true then t De σ H1 else u De σ H1) : tIfS tt t u De σ H := q
theorem st_nx {f : L2.St → Hp → Prop} {r : VK} {b c : L2.St → Hp → Prop} (q : f σ H) : Ends.nx ⟨f, r, b, c⟩ σ H := q
theorem st_rt {f : L2.St → Hp → Prop} {r : VK} {b c : L2.St → Hp → Prop} (q : r v H) : Ends.rt ⟨f, r, b, c⟩ v H := q
theorem st_rt' {f : L2.St → Hp → Prop} {r : VK} {b c : L2.St → Hp → Prop} (q : te σ H r) : te σ H (Ends.rt ⟨f, r, b, c⟩) := q
theorem st_cons {tr : TA} {Q : List V → Hp → Prop} (q : ta σ H fun x H1 => tr σ H1 fun xs H2 => Q (x :: xs) H2) : tCons ta tr σ H Q := q
theorem st_nil {Q : List V → Hp → Prop} (q : Q [] H) : tNil σ H Q := q
theorem st_cb {r : List V → Hp → VK → Prop} {tr : TA} (q : tr σ H fun vs H1 => r vs H1 Q) : tCB r tr σ H Q := q
theorem st_call {sp : Sp} {dvs : List V} {E : XK} {tr : TA} (q : tr σ H fun vs H1 => sp (vs ++ dvs) H1 Q E) : tCall sp dvs E tr σ H Q := q
theorem st_test {Q : Bool → Hp → Prop} (q : te σ H fun x H' => ∃ k, x = .bl k ∧ Q k H') : tTest te σ H Q := q
theorem st_B {Q : Bool → Hp → Prop} (q : te σ H fun x H' => ∃ k, x = .bl k ∧ Q k H') : tB te σ H Q := q
theorem st_bl {Q : Bool → Hp → Prop} (q : Q b H) : ∃ k, V.bl b = V.bl k ∧ Q k H := ⟨b, rfl, q⟩
theorem st_blx {P : Bool → Prop} (q : P b) : ∃ k, V.bl b = V.bl k ∧ P k := ⟨b, rfl, q⟩
theorem st_not {Q : Bool → Hp → Prop} (q : tt σ H fun c H1 => Q (!c) H1) : tNot tt σ H Q := q
theorem st_and {Q : Bool → Hp → Prop} (q : tt σ H fun c H1 => if c = true then tu σ H1 Q else Q false H1) : tAnd tt tu σ H Q := q
theorem st_or {Q : Bool → Hp → Prop} (q : tt σ H fun c H1 => if c = true then Q true H1 else tu σ H1 Q) : tOr tt tu σ H Q := q
theorem st_andV (q : ta σ H fun x H1 => ∃ c, x = .bl c ∧ if c = true then tb σ H1 Q else Q (.bl false) H1) : tAndV ta tb σ H Q := q
theorem st_orV (q : ta σ H fun x H1 => ∃ c, x = .bl c ∧ if c = true then Q (.bl true) H1 else tb σ H1 Q) : tOrV ta tb σ H Q := q
theorem st_notV (q : ta σ H fun x H1 => ∃ c, x = .bl c ∧ Q (.bl (!c)) H1) : tNotV ta σ H Q := q
theorem st_tif (q : tt σ H fun c H1 => if c = true then ta σ H1 Q else tb σ H1 Q) : tIf tt ta tb σ H Q := q
theorem st_T {A B : Prop} (h : b = true) (q : A) : if b = true then A else B := by rw [if_pos h]; exact q
theorem st_F {A B : Prop} (h : b = false) (q : B) : if b = true then A else B := by rw [if_neg (by rw [h]; decide)]; exact q
theorem st_tup {tr : TA} (q : tr σ H fun xs H1 => xs.length ≤ sizeLine ∧ ∀ p, H1 p = none → Q (.ref p) (upd H1 p (.tup xs))) : tTup tr σ H Q := q
theorem st_lst {tr : TA} (q : tr σ H fun xs H1 => xs.length ≤ sizeLine ∧ ∀ p, H1 p = none → Q (.ref p) (upd H1 p (.lst xs))) : tLst tr σ H Q := q
theorem st_I0 {g : Int → Int → V} (q : Q (g i j) H) : rI0 g (.int i) (.int j) H Q := ⟨i, j, rfl, rfl, q⟩
theorem st_I {C : Int → Int → Prop} {g : Int → Int → V} (c : C i j) (q : Q (g i j) H) : rI C g (.int i) (.int j) H Q := ⟨i, j, rfl, rfl, c, q⟩
theorem st_U {g : Int → V} (q : Q (g i) H) : rU g (.int i) H Q := ⟨i, rfl, q⟩
theorem dec_i {i j : Int} : decide (V.int i = V.int j) = decide (i = j) := by
  by_cases e : i = j
  · subst e; simp
  · rw [decide_eq_false e, decide_eq_false (fun q => e (V.int.inj q))]
theorem st_eqI (q : Q (.bl (decide (i = j))) H) : rEq (.int i) (.int j) H Q := ⟨rfl, by rw [dec_i]; exact q⟩
theorem st_neI (q : Q (.bl (!decide (i = j))) H) : rNe (.int i) (.int j) H Q := ⟨rfl, by rw [dec_i]; exact q⟩
theorem st_isN (q : Q (.bl (decide (x = .non))) H) : (fun (x y : V) (H : Hp) (Q : VK) => y = .non ∧ Q (.bl (decide (x = .non))) H) x .non H Q := ⟨rfl, q⟩
theorem st_chain {r r' : R2} (q : ta σ H fun x H1 => tb σ H1 fun y H2 => r x y H2 fun z H3 => ∃ k, z = .bl k ∧ (if k = true then tc σ H3 fun w' H4 => r' y w' H4 Q else Q (.bl false) H3)) : tChain r r' ta tb tc σ H Q := q
theorem st_ixL {a : Addr} (h : SqL K H a xs) (e : atI xs i = some v) (q : Q v H) : rIx K (.ref a) (.int i) H Q := .inl ⟨a, xs, i, v, rfl, rfl, h, e, q⟩
theorem st_ixT {a : Addr} (h : SqT K H a xs) (e : atI xs i = some v) (q : Q v H) : rIx K (.ref a) (.int i) H Q := .inr (.inl ⟨a, xs, i, v, rfl, rfl, h, e, q⟩)
end
end Sp
end
section
set_option Elab.async false
set_option linter.all false
set_option maxRecDepth 100000
set_option maxHeartbeats 4000000
set_option autoImplicit false
/-! Sp: what the Hook looks at: defs found by paths, the facts asked. -/
namespace Sp
open PySem PySem.Spec PyProof.Rows L2
/-- one def: where it stands, its name, qualified name, statement -/
structure Dt where
  at_ : Fg → Addr
  name : Str
  qual : Str
  st : Stmt
def fnP (K : Fg) (a : Addr) : He.FnW := match K.lookup a with
  | some ⟨_, _, .func fd, _⟩ => some (fd.name, fd.qualname, fd.params, fd.body, fd.scope, fd.globals, fd.closure, fd.builtins)
  | _ => none
def Dt.val (d : Dt) : He.FnW := some (d.name, d.qual, defArgs d.st, .stmts (defBody d.st), defScope d.st, mainGlobals, [], builtinsNs)
def isNon : Value → Bool
  | .none => true
  | _ => false
def Dt.ok (K : Fg) (d : Dt) : Bool := PySem.W.keepIn K (.ref (d.at_ K)) && (match K.lookup (d.at_ K) with
  | some ⟨_, _, .func fd, _⟩ => PySem.W.codeIn K fd.code d.qual && isNon fd.defaults
  | _ => false)
def gP (x : Str) (K : Fg) : Addr := He.ga K x
def mP (C m : Str) (K : Fg) : Addr := He.ma K (He.ga K C) m
/-- a property's getter -/
def pP (C m : Str) (K : Fg) : Addr := match PySem.W.recIn K (He.ma K (He.ga K C) m) "property" with
  | some (.ref g :: _) => g
  | _ => 0
def cR (K : Fg) (C m : Str) : Addr := match PySem.W.findCls K (.ref (He.ga K C)) (.type "type") m with
  | some (.get _ (.ref p) _ _) => p
  | _ => 0
/-- a classmethod's def -/
def cP (C m : Str) (K : Fg) : Addr := match PySem.W.recIn K (cR K C m) "classmethod" with
  | some (.ref g :: _) => g
  | _ => 0
def propB (K : Fg) (C m : Str) : Bool := He.eqO (PySem.W.findIn K (.ref (He.ga K C)) m) (some (some (.ref (He.ma K (He.ga K C) m)))) && (He.eqO (PySem.W.specialIn K (.ref (He.ma K (He.ga K C) m)) "__get__") (some (some (.builtin "property.__get__"))) &&
  (decide (PySem.W.takesIn K (.ref (He.ma K (He.ga K C) m)) = some true) && (match PySem.W.recIn K (He.ma K (He.ga K C) m) "property" with
    | some (.ref _ :: _) => true
    | _ => false)))
def clsrB (K : Fg) (C : Str) : Bool := PySem.W.readsIn K (He.ga K C) (.type "type") && He.eqO (PySem.W.specialIn K (.ref (He.ga K C)) "__getattribute__") (some (some (.builtin "type.__getattribute__")))
def cmetB (K : Fg) (C m : Str) : Bool := (match PySem.W.findCls K (.ref (He.ga K C)) (.type "type") m with
  | some (.get a (.ref _) o t) => decide (a = .builtin "classmethod.__get__") && (isNon o && decide (t = .ref (He.ga K C)))
  | _ => false) && ((match PySem.W.recIn K (cR K C m) "classmethod" with
  | some (.ref _ :: _) => true
  | _ => false) && PySem.W.fnIn K (cP C m K))
def oexB (K : Fg) (x : Str) : Bool := (match K.lookup (He.ga K x) with
  | some ⟨.type "type", _, .cls cd, sl⟩ => (match cd.mro, sl.toList with
    | .ref C' :: bm, [_, _, _, _, some (.builtin n), _] => C' == He.ga K x && (n == "ValueError.__new__" && (!cd.hasDel && (cd.hasDict && PySem.HandSPX.refsVE bm)))
    | _, _ => false)
  | _ => false) && (He.eqO (PySem.W.findIn K (.ref (He.ga K x)) "__setattr__") (some (some (.builtin "object.__setattr__"))) && (decide (PySem.W.subIn K (.ref (He.ga K x)) (.type "BaseException") = some true) && (decide (PySem.W.typeIn K (.ref (He.ga K x)) = some (.type "type")) && PySem.W.keepIn K (.ref (He.ga K x)))))
def clsA (g : Addr → Option Obj) (m : Value) : List Addr := match m with
  | .ref a => (match g a with
    | some ⟨_, _, .func fd, _⟩ => a :: He.refV fd.code
    | some ⟨_, _, .fields vs, _⟩ => a :: vs.toList.flatMap fun v => match v with
      | .ref f => (match g f with
        | some ⟨_, _, .func fd, _⟩ => f :: He.refV fd.code
        | _ => [])
      | _ => []
    | _ => [])
  | _ => []
def topA (g : Addr → Option Obj) (v : Value) : List Addr := match v with
  | .ref a => (match g a with
    | some ⟨_, _, .func fd, _⟩ => a :: He.refV fd.code
    | some ⟨_, _, .cls cd, _⟩ => a :: cd.ns :: (match g cd.ns with
      | some ⟨_, _, .dict es _, _⟩ => es.toList.flatMap fun e => clsA g e.val
      | _ => [])
    | _ => [])
  | _ => []
def asW (g : Addr → Option Obj) : List Addr := mainGlobals :: cStatics :: (match g mainGlobals with
  | some ⟨_, _, .dict es _, _⟩ => es.toList.flatMap fun e => topA g e.val
  | _ => [])
abbrev AlP : Type := Bool × List He.FnW
def obsP (fa : List He.Fa) (fn : List Dt) (tf : Fg → Addr) (ex : Fg → Bool) (g : Addr → Option Obj) : AlP :=
  let K := He.frT g (asW g)
  (((fa.all fun f => f.ok K) && fn.all fun d => d.ok K) && (ex K && (PySem.W.codeHdIn K (tf K) (He.tabOf K (tf K)) && (match g (He.tabOf K (tf K)) with
    | some o => He.emptyTab o
    | none => false))), fn.map fun d => fnP K (d.at_ K))
def valP (fn : List Dt) : AlP := (true, fn.map Dt.val)
def d_is_whole : Dt := ⟨(gP "is_whole"), "is_whole", "is_whole", top 12⟩
def d_is_below : Dt := ⟨(gP "is_below"), "is_below", "is_below", top 13⟩
def d_is_pair : Dt := ⟨(gP "is_pair"), "is_pair", "is_pair", top 14⟩
def d_ascends : Dt := ⟨(gP "ascends"), "ascends", "ascends", top 15⟩
def d_is_link : Dt := ⟨(gP "is_link"), "is_link", "is_link", top 56⟩
def d_net_error : Dt := ⟨(gP "net_error"), "net_error", "net_error", top 57⟩
def d_Net___init__ : Dt := ⟨(mP "Net" "__init__"), "__init__", "Net.__init__", inClass (top 58) 0⟩
def d_Net_nodes : Dt := ⟨(pP "Net" "nodes"), "nodes", "Net.nodes", inClass (top 58) 1⟩
def d_Net___len__ : Dt := ⟨(mP "Net" "__len__"), "__len__", "Net.__len__", inClass (top 58) 7⟩
def d_Net_at : Dt := ⟨(mP "Net" "at"), "at", "Net.at", inClass (top 58) 3⟩
def d_Net_far : Dt := ⟨(mP "Net" "far"), "far", "Net.far", inClass (top 58) 4⟩
def d_number_of : Dt := ⟨(gP "number_of"), "number_of", "number_of", top 18⟩
def d_outage_of : Dt := ⟨(gP "outage_of"), "outage_of", "outage_of", top 19⟩
def d_outages_error : Dt := ⟨(gP "outages_error"), "outages_error", "outages_error", top 17⟩
def d_Outages___init__ : Dt := ⟨(mP "Outages" "__init__"), "__init__", "Outages.__init__", inClass (top 21) 0⟩
def d_Outages_full : Dt := ⟨(cP "Outages" "full"), "full", "Outages.full", inClass (top 21) 1⟩
def d_Outages_members : Dt := ⟨(mP "Outages" "members"), "members", "Outages.members", inClass (top 21) 6⟩
def d_is_key : Dt := ⟨(gP "is_key"), "is_key", "is_key", top 50⟩
def d_is_row : Dt := ⟨(gP "is_row"), "is_row", "is_row", top 51⟩
def d_book_error : Dt := ⟨(gP "book_error"), "book_error", "book_error", top 52⟩
def d_keys_of : Dt := ⟨(gP "keys_of"), "keys_of", "keys_of", top 53⟩
def d_Book___init__ : Dt := ⟨(mP "Book" "__init__"), "__init__", "Book.__init__", inClass (top 54) 0⟩
def d_Book_net : Dt := ⟨(pP "Book" "net"), "net", "Book.net", inClass (top 54) 3⟩
def d_Book_target : Dt := ⟨(pP "Book" "target"), "target", "Book.target", inClass (top 54) 4⟩
def d_Book_row_at : Dt := ⟨(mP "Book" "row_at"), "row_at", "Book.row_at", inClass (top 54) 7⟩
def d_Book_rows : Dt := ⟨(pP "Book" "rows"), "rows", "Book.rows", inClass (top 54) 6⟩
def d_Book_with_rows : Dt := ⟨(mP "Book" "with_rows"), "with_rows", "Book.with_rows", inClass (top 54) 8⟩
def d_Book_turning : Dt := ⟨(cP "Book" "turning"), "turning", "Book.turning", inClass (top 54) 1⟩
def d_next_stop : Dt := ⟨(gP "next_stop"), "next_stop", "next_stop", top 23⟩
def d_walked : Dt := ⟨(gP "walked"), "walked", "walked", top 24⟩
def d_walk : Dt := ⟨(gP "walk"), "walk", "walk", top 25⟩
def d_fate : Dt := ⟨(gP "fate"), "fate", "fate", top 26⟩
def d_is_outage : Dt := ⟨(gP "is_outage"), "is_outage", "is_outage", top 28⟩
def d_beside : Dt := ⟨(gP "beside"), "beside", "beside", top 29⟩
def d_spread : Dt := ⟨(gP "spread"), "spread", "spread", top 30⟩
def d_every_outage : Dt := ⟨(gP "every_outage"), "every_outage", "every_outage", top 32⟩
def d_each_case : Dt := ⟨(gP "each_case"), "each_case", "each_case", top 33⟩
def d_is_home : Dt := ⟨(gP "is_home"), "is_home", "is_home", top 34⟩
def d_is_missed : Dt := ⟨(gP "is_missed"), "is_missed", "is_missed", top 35⟩
def d_first_miss_within : Dt := ⟨(gP "first_miss_within"), "first_miss_within", "first_miss_within", top 36⟩
def d_first_miss : Dt := ⟨(gP "first_miss"), "first_miss", "first_miss", top 37⟩
def d_strength : Dt := ⟨(gP "strength"), "strength", "strength", top 38⟩
def d_changed : Dt := ⟨(gP "changed"), "changed", "changed", top 40⟩
def d_choices : Dt := ⟨(gP "choices"), "choices", "choices", top 41⟩
def d_fitting : Dt := ⟨(gP "fitting"), "fitting", "fitting", top 43⟩
def d_tree_behind : Dt := ⟨(gP "tree_behind"), "tree_behind", "tree_behind", top 44⟩
def d_mend_tree : Dt := ⟨(gP "mend_tree"), "mend_tree", "mend_tree", top 45⟩
def d_has_form : Dt := ⟨(gP "has_form"), "has_form", "has_form", top 46⟩
def d_holds_behind : Dt := ⟨(gP "holds_behind"), "holds_behind", "holds_behind", top 47⟩
def d_mend_tree_holds : Dt := ⟨(gP "mend_tree_holds"), "mend_tree_holds", "mend_tree_holds", top 48⟩
def d_TooMany___init__ : Dt := ⟨(mP "TooMany" "__init__"), "__init__", "TooMany.__init__", inClass (top 10) 0⟩
def d_fewest_mend : Dt := ⟨(gP "fewest_mend"), "fewest_mend", "fewest_mend", top 42⟩
def d__law_told : Dt := ⟨(gP "_law_told"), "_law_told", "_law_told", top 72⟩
def d__law_next : Dt := ⟨(gP "_law_next"), "_law_next", "_law_next", top 60⟩
def d__law_deck : Dt := ⟨(gP "_law_deck"), "_law_deck", "_law_deck", top 62⟩
def d__law_at : Dt := ⟨(gP "_law_at"), "_law_at", "_law_at", top 66⟩
def d__law_pairs : Dt := ⟨(gP "_law_pairs"), "_law_pairs", "_law_pairs", top 63⟩
def d__law_keys : Dt := ⟨(gP "_law_keys"), "_law_keys", "_law_keys", top 67⟩
def d__law_far : Dt := ⟨(gP "_law_far"), "_law_far", "_law_far", top 65⟩
def d__law_wise : Dt := ⟨(gP "_law_wise"), "_law_wise", "_law_wise", top 68⟩
def d__law_row : Dt := ⟨(gP "_law_row"), "_law_row", "_law_row", top 69⟩
def d__law_net : Dt := ⟨(gP "_law_net"), "_law_net", "_law_net", top 64⟩
def d__law_book : Dt := ⟨(gP "_law_book"), "_law_book", "_law_book", top 70⟩
def d__law_mending : Dt := ⟨(gP "_law_mending"), "_law_mending", "_law_mending", top 71⟩
def d__law_is_good : Dt := ⟨(gP "_law_is_good"), "_law_is_good", "_law_is_good", top 73⟩
def d__law_drawn : Dt := ⟨(gP "_law_drawn"), "_law_drawn", "_law_drawn", top 74⟩
def d__law_right : Dt := ⟨(gP "_law_right"), "_law_right", "_law_right", top 75⟩
def d__law_is_ring_mended : Dt := ⟨(gP "_law_is_ring_mended"), "_law_is_ring_mended", "_law_is_ring_mended", top 76⟩
def d_law : Dt := ⟨(gP "law"), "law", "law", top 77⟩
def fnD0 : List Dt := [d_is_whole, d_is_below, d_is_pair, d_ascends, d_is_link, d_net_error, d_Net___init__, d_Net_nodes, d_Net___len__, d_Net_at, d_Net_far, d_number_of, d_outage_of, d_outages_error, d_Outages___init__, d_Outages_full]
def fnD1 : List Dt := [d_Outages_members, d_is_key, d_is_row, d_book_error, d_keys_of, d_Book___init__, d_Book_net, d_Book_target, d_Book_row_at, d_Book_rows, d_Book_with_rows, d_Book_turning, d_next_stop, d_walked, d_walk, d_fate]
def fnD2 : List Dt := [d_is_outage, d_beside, d_spread, d_every_outage, d_each_case, d_is_home, d_is_missed, d_first_miss_within, d_first_miss, d_strength, d_changed, d_choices, d_fitting, d_tree_behind, d_mend_tree, d_has_form]
def fnD3 : List Dt := [d_holds_behind, d_mend_tree_holds, d_TooMany___init__, d_fewest_mend, d__law_told, d__law_next, d__law_deck, d__law_at, d__law_pairs, d__law_keys, d__law_far, d__law_wise, d__law_row, d__law_net, d__law_book, d__law_mending]
def fnD4 : List Dt := [d__law_is_good, d__law_drawn, d__law_right, d__law_is_ring_mended, d_law]
def fnD : List Dt := fnD0 ++ fnD1 ++ fnD2 ++ fnD3 ++ fnD4
def faD0 : List He.Fa := [.free "isinstance", .free "len", .free "all", .free "sum", .free "sorted", .free "min", .free "max", .free "abs", .free "range", .free "enumerate", .free "zip", .free "int", .free "bool", .free "str", .free "tuple", .free "list"]
def faD1 : List He.Fa := [.free "dict", .free "set", .glo "is_whole", .glo "is_below", .glo "is_pair", .glo "ascends", .glo "is_link", .glo "net_error", .glo "number_of", .glo "outage_of", .glo "outages_error", .glo "is_key", .glo "is_row", .glo "book_error", .glo "keys_of", .glo "next_stop"]
def faD2 : List He.Fa := [.glo "walked", .glo "walk", .glo "fate", .glo "is_outage", .glo "beside", .glo "spread", .glo "every_outage", .glo "each_case", .glo "is_home", .glo "is_missed", .glo "first_miss_within", .glo "first_miss", .glo "strength", .glo "changed", .glo "choices", .glo "fitting"]
def faD3 : List He.Fa := [.glo "tree_behind", .glo "mend_tree", .glo "has_form", .glo "holds_behind", .glo "mend_tree_holds", .glo "fewest_mend", .glo "_law_told", .glo "_law_next", .glo "_law_deck", .glo "_law_at", .glo "_law_pairs", .glo "_law_keys", .glo "_law_far", .glo "_law_wise", .glo "_law_row", .glo "_law_net"]
def faD4 : List He.Fa := [.glo "_law_book", .glo "_law_mending", .glo "_law_is_good", .glo "_law_drawn", .glo "_law_right", .glo "_law_is_ring_mended", .glo "law", .glo "Net", .glo "Outages", .glo "Book", .glo "TooMany", .int "MAX_LINKS" 8, .int "MAX_NODES" 7, .cls "Net", .cls "Outages", .cls "Book"]
def faD5 : List He.Fa := [.mkr "Net", .mkr "Outages", .mkr "Book", .noat "Net" "size", .noat "Net" "pairs", .noat "Outages" "width", .noat "Outages" "cells", .noat "Book" "ground", .noat "Book" "goal", .noat "Book" "width", .noat "Book" "told", .noat "Book" "turns", .noat "TooMany" "limit", .meth "Net" "__len__", .meth "Net" "at", .meth "Net" "far"]
def faD6 : List He.Fa := [.meth "Outages" "members", .meth "Book" "row_at", .meth "Book" "with_rows", .meth "TooMany" "__init__", .exm "TooMany" "TooMany" true]
def faD : List He.Fa := faD0 ++ faD1 ++ faD2 ++ faD3 ++ faD4 ++ faD5 ++ faD6
def exD (K : Fg) : Bool := propB K "Net" "nodes" && (propB K "Book" "net" && (propB K "Book" "target" && (propB K "Book" "rows" && (cmetB K "Outages" "full" && (cmetB K "Book" "turning" && (clsrB K "Book" && (clsrB K "Outages" && (oexB K "TooMany"))))))))
def tfD (K : Fg) : Addr := match K.lookup (mP "Outages" "members" K) with
  | some ⟨_, _, .func fd, _⟩ => (match fd.code with
    | .ref c => c
    | _ => 0)
  | _ => 0
end Sp
end
section
set_option Elab.async false
set_option linter.all false
set_option maxRecDepth 100000
set_option maxHeartbeats 0
set_option autoImplicit false
/-! Sp: the head's run, with what the Hook looks at. It stands early: the kernel needs some 9 GB for it. -/
namespace Sp
open PySem PySem.W PySem.Calls PyProof.Rows
abbrev Rr : OpenRow := OpenLaw.row PySem.Challenge.rw_sparerows_k48_whole_mends_and_trees
abbrev qv : Program := view Rr.prog [77]
def hk0 : PySem.W.Hook where
  α := AlP
  obs := fun s => obsP faD fnD tfD exD s.heap.get?
  val := fun _ => valP fnD
  says := fun _ _ => True
  of := fun _ _ _ => trivial
  keeps := fun _ _ _ _ _ => trivial
def ob (s : SharedT) : AlP := obsP faD fnD tfD exD (HandSHeadRun.getT s)
def names0 : List PySem.Str := [("_wall" : PySem.Str), ("MAX_LINKS" : PySem.Str), ("MAX_MENDS" : PySem.Str), ("MAX_NODES" : PySem.Str), ("__name__" : PySem.Str), ("SpareError" : PySem.Str), ("BadBook" : PySem.Str), ("BadLink" : PySem.Str), ("BadNet" : PySem.Str), ("BadOutages" : PySem.Str), ("TooMany" : PySem.Str), ("is_whole" : PySem.Str), ("is_below" : PySem.Str), ("is_pair" : PySem.Str), ("ascends" : PySem.Str), ("outages_error" : PySem.Str), ("number_of" : PySem.Str)]
def names1 : List PySem.Str := [("outage_of" : PySem.Str), ("made" : PySem.Str), ("Outages" : PySem.Str), ("next_stop" : PySem.Str), ("walked" : PySem.Str), ("walk" : PySem.Str), ("fate" : PySem.Str), ("is_outage" : PySem.Str), ("beside" : PySem.Str), ("spread" : PySem.Str), ("every_outage" : PySem.Str), ("each_case" : PySem.Str), ("is_home" : PySem.Str), ("is_missed" : PySem.Str), ("first_miss_within" : PySem.Str), ("first_miss" : PySem.Str), ("strength" : PySem.Str)]
def names2 : List PySem.Str := [("changed" : PySem.Str), ("choices" : PySem.Str), ("fewest_mend" : PySem.Str), ("fitting" : PySem.Str), ("tree_behind" : PySem.Str), ("mend_tree" : PySem.Str), ("has_form" : PySem.Str), ("holds_behind" : PySem.Str), ("mend_tree_holds" : PySem.Str), ("is_key" : PySem.Str), ("is_row" : PySem.Str), ("book_error" : PySem.Str), ("keys_of" : PySem.Str), ("Book" : PySem.Str), ("is_link" : PySem.Str), ("net_error" : PySem.Str), ("Net" : PySem.Str)]
def names3 : List PySem.Str := [("_law_next" : PySem.Str), ("_law_labels" : PySem.Str), ("_law_deck" : PySem.Str), ("_law_pairs" : PySem.Str), ("_law_net" : PySem.Str), ("_law_far" : PySem.Str), ("_law_at" : PySem.Str), ("_law_keys" : PySem.Str), ("_law_wise" : PySem.Str), ("_law_row" : PySem.Str), ("_law_book" : PySem.Str), ("_law_mending" : PySem.Str), ("_law_told" : PySem.Str), ("_law_is_good" : PySem.Str), ("_law_drawn" : PySem.Str), ("_law_right" : PySem.Str), ("_law_is_ring_mended" : PySem.Str)]
def names : List PySem.Str := names0 ++ names1 ++ names2 ++ names3
theorem run0 (w : World) : HandSHeadRun.RunEq Rr qv hk0 ob 40000 names w := by
  intro os
  kernel_rfl
end Sp
end
section
set_option Elab.async false
set_option linter.all false
set_option maxRecDepth 100000
set_option maxHeartbeats 4000000
namespace Sp
open PySem L2
/-! ### the module's names -/
structure Blt (mg : Str → Option Value) : Prop where
  b_isinstance : mg "isinstance" = none
  b_len : mg "len" = none
  b_all : mg "all" = none
  b_sum : mg "sum" = none
  b_sorted : mg "sorted" = none
  b_min : mg "min" = none
  b_max : mg "max" = none
  b_abs : mg "abs" = none
  b_range : mg "range" = none
  b_enumerate : mg "enumerate" = none
  b_zip : mg "zip" = none
  b_int : mg "int" = none
  b_bool : mg "bool" = none
  b_str : mg "str" = none
  b_tuple : mg "tuple" = none
  b_list : mg "list" = none
  b_dict : mg "dict" = none
  b_set : mg "set" = none
theorem boot_f_isinstance : bootBuiltins "isinstance" = some (.builtin "isinstance") := by decide +kernel
theorem boot_f_len : bootBuiltins "len" = some (.builtin "len") := by decide +kernel
theorem boot_f_all : bootBuiltins "all" = some (.builtin "all") := by decide +kernel
theorem boot_f_sum : bootBuiltins "sum" = some (.builtin "sum") := by decide +kernel
theorem boot_f_sorted : bootBuiltins "sorted" = some (.builtin "sorted") := by decide +kernel
theorem boot_f_min : bootBuiltins "min" = some (.builtin "min") := by decide +kernel
theorem boot_f_max : bootBuiltins "max" = some (.builtin "max") := by decide +kernel
theorem boot_f_abs : bootBuiltins "abs" = some (.builtin "abs") := by decide +kernel
theorem boot_t_int : bootBuiltins "int" = some (.type "int") := by decide +kernel
theorem boot_t_bool : bootBuiltins "bool" = some (.type "bool") := by decide +kernel
theorem boot_t_str : bootBuiltins "str" = some (.type "str") := by decide +kernel
theorem boot_t_tuple : bootBuiltins "tuple" = some (.type "tuple") := by decide +kernel
theorem boot_t_list : bootBuiltins "list" = some (.type "list") := by decide +kernel
theorem boot_t_dict : bootBuiltins "dict" = some (.type "dict") := by decide +kernel
theorem boot_t_set : bootBuiltins "set" = some (.type "set") := by decide +kernel

/-! ### defs by name -/
structure Cal (P : Program) (w : World) (K : Fg) (mg : Str → Option Value) (base : Heap) (k : Nat) (x : Str) (ps : List Str) (sp : Sp) : Prop where
  ex : ∃ f fd, FnOk P w K mg base CX0 k f fd ps sp ∧ mg x = some (.ref f) ∧ PySem.W.keepIn K (.ref f) = true ∧ Binds K fd ps []
structure CalM (P : Program) (w : World) (K : Fg) (mg : Str → Option Value) (base : Heap) (k : Nat) (C : Addr) (m : Str) (ps : List Str) (sp : Sp) : Prop where
  cl : Cls K C
  ex : ∃ f fd, FnOk P w K mg base CX0 k f fd ps sp ∧ Meth K C m f ∧ Binds K fd ps []
structure CalP (P : Program) (w : World) (K : Fg) (mg : Str → Option Value) (base : Heap) (k : Nat) (C : Addr) (m : Str) (sp : Sp) : Prop where
  cl : Cls K C
  ex : ∃ p g fd, PropOf K C m p g ∧ FnOk P w K mg base CX0 k g fd ["self"] sp ∧ Binds K fd ["self"] []
structure CalK (P : Program) (w : World) (K : Fg) (mg : Str → Option Value) (base : Heap) (k : Nat) (C : Addr) (x : Str) (ps : List Str) (sp : Sp) : Prop where
  ex : ∃ f fd, Mk K C f ∧ mg x = some (.ref C) ∧ FnOk P w K mg base CX0 k f fd ps sp ∧ Binds K fd ps []
structure CalC (P : Program) (w : World) (K : Fg) (mg : Str → Option Value) (base : Heap) (k : Nat) (C : Addr) (m : Str) (sp : Sp) : Prop where
  ex : ∃ mc p g, ClX.CRead K C mc ∧ ClX.CMet K C mc m p g ∧ FnR P w K mg base CX0 k g sp
section
variable {X : Cx} {k j : Nat} {C : Addr} {x m : Str} {ps : List Str} {sp : Sp} {e o : Expr} {es : List Expr} {t : TA} {to : TE} {p pos apos : Pos}
theorem pe_cF (c : Cal X.prog X.w X.K X.mg X.base j x ps sp) (hr : Room j X.A) (hg : Gl X x) (ha : PA X (e :: es) t) (hdb : (x == ("__debug__" : Str)) = false := by decide)
    (he : starEach (e :: es) X.env = (false, eval e X.env) :: starEach es X.env := by rfl) (hpl : (backTo pos (starEach es X.env)).any (·.1) = false := by rfl) : PE X (.Call (.Name x p) (e :: es) [] pos) (tCall sp [] E0 t) := by
  obtain ⟨f, fd, F, hm, hk, hb⟩ := c.ex
  exact pe_call F hr hg hm hk hb .nil pass0 ha hdb he hpl
theorem pe_mF {pl : Sem Bool} (c : CalM X.prog X.w X.K X.mg X.base j C m ps sp) (hr : Room j X.A) (ho : PE X o to) (ha : PA X (e :: es) t)
    (hst : starEach (e :: es) X.env = (false, eval e X.env) :: starEach es X.env := by rfl) (hpl : (backTo pos (starEach es X.env)).any (·.1) = false := by rfl)
    (ht : eval (.Call (.Attribute o m apos) (e :: es) [] pos) X.env = (do
      let v ← eval o X.env
      standAt apos.atName
      let (g, fs) ← holding [v] (getMethod v m pl)
      callWith pos g fs (backTo pos (starEach (e :: es) X.env)) (backToKw pos (keywordEach [] X.env))) := by rfl) :
    PE X (.Call (.Attribute o m apos) (e :: es) [] pos) (tMeth C m sp [] E0 to t) := by
  obtain ⟨f, fd, F, hm, hb⟩ := c.ex
  exact pe_meth ho c.cl hm F hr hb .nil pass0 ha hst hpl ht
theorem pe_mF0 {pl : Sem Bool} (c : CalM X.prog X.w X.K X.mg X.base j C m ps sp) (hr : Room j X.A) (ho : PE X o to)
    (ht : eval (.Call (.Attribute o m apos) [] [] pos) X.env = (do
      let v ← eval o X.env
      standAt apos.atName
      let (g, fs) ← holding [v] (getMethod v m pl)
      callWith pos g fs (backTo pos (starEach [] X.env)) (backToKw pos (keywordEach [] X.env))) := by rfl) :
    PE X (.Call (.Attribute o m apos) [] [] pos) (tMeth C m sp [] E0 to tNil) := by
  obtain ⟨f, fd, F, hm, hb⟩ := c.ex
  exact pe_meth0 ho c.cl hm F hr hb .nil pass0 ht
theorem pe_pF (c : CalP X.prog X.w X.K X.mg X.base j C m sp) (hr : Room (j + 1) X.A) (ho : PE X o to) (hab : attributeBase o m X.env (eval o X.env) = eval o X.env) : PE X (.Attribute o m pos) (tProp C sp [] E0 to) := by
  obtain ⟨p, g, fd, hp, F, hb⟩ := c.ex
  exact pe_prop ho c.cl hp F hr hb .nil pass0 hab
theorem pe_kF (c : CalK X.prog X.w X.K X.mg X.base j C x ps sp) (hr : Room (j + 1) X.A) (hg : Gl X x) (ha : PA X (e :: es) t) (hdb : (x == ("__debug__" : Str)) = false := by decide)
    (he : starEach (e :: es) X.env = (false, eval e X.env) :: starEach es X.env := by rfl) (hpl : (backTo pos (starEach es X.env)).any (·.1) = false := by rfl) : PE X (.Call (.Name x p) (e :: es) [] pos) (tMake C sp [] E0 t) := by
  obtain ⟨f, fd, M, hm, F, hb⟩ := c.ex
  exact pe_make M F hr hg hm hb .nil pass0 ha hdb he hpl
theorem pe_clF {pl : Sem Bool} (c : CalC X.prog X.w X.K X.mg X.base j C m sp) (hr : Room j X.A) (ho : PE X o to) (ha : PA X (e :: es) t)
    (hst : starEach (e :: es) X.env = (false, eval e X.env) :: starEach es X.env := by rfl) (hpl : (backTo pos (starEach es X.env)).any (·.1) = false := by rfl)
    (ht : eval (.Call (.Attribute o m apos) (e :: es) [] pos) X.env = (do
      let v ← eval o X.env
      standAt apos.atName
      let (g, fs) ← holding [v] (getMethod v m pl)
      callWith pos g fs (backTo pos (starEach (e :: es) X.env)) (backToKw pos (keywordEach [] X.env))) := by rfl) :
    PE X (.Call (.Attribute o m apos) (e :: es) [] pos) (ClX.tCMeth C sp E0 to t) := by
  obtain ⟨mc, p, g, r, cm, F⟩ := c.ex
  exact ClX.pe_cmeth ho r cm F hr pass0 ha hst hpl ht
end

/-! ### kinds -/
def spTrue (C : List V → Hp → Prop) : Sp := fun vs H Q _ => C vs H ∧ Q (.bl true) H
end Sp
end
section
set_option Elab.async false
set_option linter.all false
set_option maxRecDepth 100000
set_option maxHeartbeats 4000000
namespace Sp
open PySem PySem.Spec PyProof.Rows L2
/-! ### enumerate(tuple), zip(list, tuple) -/
/-- pairs (i, x) of the tuple at a -/
def JeT (K : Fg) (a : Addr) : It :=
  ⟨fun i H => ∃ (xs : List V) (x : V), SqT K H a xs ∧ xs[i]? = some x, fun i H v H' => ∃ t x, v = .ref t ∧ H t = none ∧ H' = upd H t (.tup [.int (i : Nat), x]) ∧ ∀ xs, SqT K H a xs → xs[i]? = some x, fun i H => ∃ xs : List V, SqT K H a xs ∧ xs.length = i⟩
/-- enumerate(t), t a tuple: what enumerate.__new__ makes -/
theorem enum_newT {a : Addr} {its : Array Value} : Meets (Builtin.«enumerate.__new__» ⟨[.type "enumerate", .ref a], []⟩) (fun _ R s => s.heap.IsTuple a its ∧
      R (.ok (.ret (.ref (s.heap.push { cls := .type "tuple_iterator", data := .fields #[.ref a, .int 0 0] }).objs.size)))
        { s with heap := (s.heap.push { cls := .type "tuple_iterator", data := .fields #[.ref a, .int 0 0] }).push { cls := .type "enumerate", data := .fields #[.none, .bool false, .ref s.heap.objs.size, rawInt 0, .none, .none] } }) :=
  .of_wp fun prog w A R s h => by
    obtain ⟨hp, gs, dr, tk, os⟩ := s
    obtain ⟨hT, h⟩ := h
    have hsub := sub_enumerate
    have it_ : ∀ {A' : Around} {E : Value → Shared → Prop} {Q : Value → Shared → Prop}, Q (.ref hp.objs.size) ⟨hp.push { cls := .type "tuple_iterator", data := .fields #[.ref a, .int 0 0] }, gs, dr, tk, os⟩ → wpAny (model prog w) A' (pyIter (.ref a)) Q E ⟨hp, gs, dr, tk, os⟩ :=
      fun q => wpAny_pyIter_tuple (s := ⟨hp, gs, dr, tk, os⟩) hT q
    wp_walk using it_
    refine wpAny_stack_any fun stk => wpAny_pure ?_
    split
    · rename_i c _ _ _ _ _
      cases (c == Value.type "enumerate") <;> (wp_walk using it_; exact ⟨_, rfl, h⟩)
    · wp_walk using it_
      exact ⟨_, rfl, h⟩
theorem call_enumT {prog : Program} {w : World} {A : Around} {E : Value → Shared → Prop} {s : Shared} {a : Addr} {its : Array Value} {Q : Value → Shared → Prop} (hT : s.heap.IsTuple a its)
    (h : ∀ h', IsEnum h' (s.heap.objs.size + 1) s.heap.objs.size 0 .none → h'.IsTupleIter s.heap.objs.size a 0 → (∀ b o, s.heap.get? b = some o → h'.get? b = some o) → Q (.ref (s.heap.objs.size + 1)) { s with heap := h' }) :
    wpAny (model prog w) A (call (.type "enumerate") [.ref a]) Q E s := by
  refine callType_new F.called_enumerate (by decide) (F.typeCall_enumerate_1 _) (F.newCall_enumerate_1 _) (fun obj => F.args_object_init_2 obj _) F.entry_enumerate_new enum_newT ⟨hT, ?_⟩
  generalize hI : ({ cls := .type "tuple_iterator", data := .fields #[.ref a, .int 0 0] } : Obj) = oi
  have fr : oi.isFreed = false := by subst hI; rfl
  have sz : (s.heap.push oi).objs.size = s.heap.objs.size + 1 := Heap.size_push ..
  have key : IsEnum ((s.heap.push oi).push { cls := .type "enumerate", data := .fields #[.none, .bool false, .ref s.heap.objs.size, rawInt 0, .none, .none] }) (s.heap.objs.size + 1) s.heap.objs.size 0 .none := by
    have z := Heap.get?_push_size (s.heap.push oi) (o := { cls := .type "enumerate", data := .fields #[.none, .bool false, .ref s.heap.objs.size, rawInt 0, .none, .none] }) rfl
    rw [sz] at z
    exact z
  show _ ∧ _
  rw [sz]
  have at0 : ((s.heap.push oi).push { cls := .type "enumerate", data := .fields #[.none, .bool false, .ref s.heap.objs.size, rawInt 0, .none, .none] }).get? s.heap.objs.size = some oi := Heap.get?_push_of_some _ (Heap.get?_push_size _ fr)
  refine ⟨⟨_, key, rfl⟩, h _ key ⟨_, at0, ?_, ?_⟩ fun b o x => Heap.get?_push_of_some _ (Heap.get?_push_of_some _ x)⟩ <;> (subst hI; rfl)
theorem turn_eT {P : Program} {w : World} {K : Fg} {elts : List Expr} {n : Nat} {tpos : Pos} (a e it : Addr) (hei : e ≠ it) :
    Turn P w K (.Tuple elts n tpos) (JeT K a) [e, it] e (fun i h => (∃ old, IsEnum h e it ((i : Nat) : Int) old) ∧ h.IsTupleIter it a i) where
  mem := by simp
  obj := fun i h st b hb => by
    obtain ⟨⟨old, he⟩, o, ho, _, hd⟩ := st
    rcases (show b = e ∨ b = it by simpa using hb) with z | z <;> subst z
    · exact ⟨_, he, fun v q => nomatch q⟩
    · exact ⟨o, ho, fun v q => by rw [hd] at q; cases q⟩
  keep := fun i h h' st k => ⟨let ⟨old, he⟩ := st.1; ⟨old, k e (by simp) _ he⟩, st.2.at fun o q => k it (by simp) o q⟩
  item := by
    intro X hP hw hK hc i pins s σ H E I hf st hg
    subst hP hw hK
    obtain ⟨⟨old, he⟩, hit⟩ := st
    obtain ⟨xs, x, hq, hx⟩ := hg
    obtain ⟨its, rv, p, hz⟩ := I.tuple hq
    obtain ⟨u, hu, ru⟩ := rv.get hx
    have p' : s.heap.IsTuple a its.toArray := p
    have hel : e < s.heap.objs.size := Heap.lt_size he
    have hil : it < s.heap.objs.size := by obtain ⟨o, q, _⟩ := hit; exact Heap.lt_size q
    have hia : a ≠ it := fun z => by
      obtain ⟨o, q, c, _⟩ := hit
      obtain ⟨o2, q2, c2, _⟩ := p'
      rw [z, q] at q2; cases q2
      rw [c] at c2
      exact absurd (Value.type.inj c2) (by decide)
    have hea : a ≠ e := fun z => by
      obtain ⟨o2, q2, c2, _⟩ := p'
      rw [z, he] at q2; cases q2
      exact absurd (Value.type.inj c2) (by decide)
    have Dw := Draws.tuple (prog := X.prog) (w := X.w) (A := X.A.in1) (I.ok.hd hc) it a hia its.toArray
    have G := GoesN.enumFrom (elts := elts) (x1 := n) (pos := tpos) 0 Dw e hei (by simp [hei, Ne.symm hea]) (by simp)
    have hi : i < its.toArray.size := by simpa using (List.getElem?_eq_some_iff.mp hu).1
    refine G.goes i s _ E hi ⟨⟨old, by rw [Int.zero_add]; exact he⟩, hit, p'⟩ fun v h' tk Y st' hk _ => ?_
    obtain ⟨t, tt, y, rfl, hn, hy, hT⟩ := Y
    have ey : y = u := by
      have : its.toArray[i]? = some u := by simpa using hu
      rw [hy] at this
      exact Option.some.inj this
    subst ey
    obtain ⟨⟨old', he'⟩, hit', _⟩ := st'
    have nw : ObjOk X.prog X.w (upd H t (.tup [.int (i : Nat), x])) h' t (.tup [.int (i : Nat), x]) :=
      ⟨by show 2 ≤ sizeLine; decide, [.int (0 + (i : Nat)) tt, y], .cons ⟨_, by rw [Int.zero_add]⟩ (.cons ru .nil), hT⟩
    refine ⟨.ref t, _, I.turnedNew (t' := tk) (ch := [e, it]) hk hf hn nw, rfl, ⟨t, x, rfl, I.hok.fresh hn, rfl, fun ys hy => by rw [I.tuple_inj hy hq]; exact hx⟩, ⟨⟨old', by rw [Int.zero_add] at he'; exact he'⟩, hit'⟩, fun b hb => ?_⟩
    have hlt : b < s.heap.objs.size := by
      rcases (show b = e ∨ b = it by simpa using hb) with z | z <;> subst z <;> assumption
    rw [upd_ne (Nat.ne_of_lt (Nat.lt_of_lt_of_le hlt hn))]
    exact (hf b hb).1
  done := by
    intro X hP hw hK hc i pins s σ H E I hf st hg
    subst hP hw hK
    obtain ⟨⟨old, he⟩, hit⟩ := st
    obtain ⟨xs, hq, hx⟩ := hg
    obtain ⟨its, rv, p, hz⟩ := I.tuple hq
    have p' : s.heap.IsTuple a its.toArray := p
    have hia : a ≠ it := fun z => by
      obtain ⟨o, q, c, _⟩ := hit
      obtain ⟨o2, q2, c2, _⟩ := p'
      rw [z, q] at q2; cases q2
      rw [c] at c2
      exact absurd (Value.type.inj c2) (by decide)
    have hea : a ≠ e := fun z => by
      obtain ⟨o2, q2, c2, _⟩ := p'
      rw [z, he] at q2; cases q2
      exact absurd (Value.type.inj c2) (by decide)
    have Dw := Draws.tuple (prog := X.prog) (w := X.w) (A := X.A.in1) (I.ok.hd hc) it a hia its.toArray
    have G := GoesN.enumFrom (elts := elts) (x1 := n) (pos := tpos) 0 Dw e hei (by simp [hei, Ne.symm hea]) (by simp)
    have hl := rv.length
    have hn : its.toArray.size = i := by simp; omega
    exact G.stops s _ E ⟨⟨old, by rw [Int.zero_add, hn]; exact he⟩, by rw [hn]; exact hit, p'⟩ fun h' tk hk _ => I.turnedL (t' := tk) (ch := [e, it]) hk hf
  self := fun A i s Q E st h => let ⟨⟨_, he⟩, _⟩ := st; wpAny_pyIter_enum he h
def iEnumT (K : Fg) (ta : TA) : TI := fun σ H R => ta σ H fun vs H1 => ∃ a xs, vs = [.ref a] ∧ SqT K H1 a xs ∧ R (JeT K a) H1
theorem pi_enumT {X : Cx} {e : Expr} {ta : TA} {p pos tpos : Pos} {elts : List Expr} {n : Nat} (hg : Gl X "enumerate") (hm : X.mg "enumerate" = none) (ha : PA X [e] ta) (hs : starEach [e] X.env = [(false, eval e X.env)] := by rfl) :
    PI X (.Tuple elts n tpos) (.Call (.Name "enumerate" p) [e] [] pos) (iEnumT X.K ta) := by
  refine ⟨fun pins s σ H R I h => ?_⟩
  refine Call_ (ld_blt I hg hm boot_enumerate (PyProof.Rows.callWith_type1 (thn (ha.run pos pins s σ H _ I h) fun us s1 ⟨vs, H1, I1, r1, q1⟩ => ?_) hs rfl))
  obtain ⟨a, xs, rfl, hq, q⟩ := q1
  obtain ⟨u, rfl, r⟩ := vals1 r1
  cases r
  obtain ⟨its, rv, p', hz⟩ := I1.tuple hq
  refine call_enumT p' fun h' he hit hk => wpAny_pyIter_enum he ?_
  have I2 : Inv X pins σ H1 { s1 with heap := h' } := I1.kept (t' := s1.toks) hk
  refine ⟨s1.heap.objs.size + 1, [s1.heap.objs.size + 1, s1.heap.objs.size], _, _, H1, rfl, I2, turn_eT a (s1.heap.objs.size + 1) s1.heap.objs.size (Nat.succ_ne_self _), ⟨⟨.none, he⟩, hit⟩, fun b hb => ?_, q⟩
  have hle : s1.heap.objs.size ≤ b := by
    rcases (show b = s1.heap.objs.size + 1 ∨ b = s1.heap.objs.size by simpa using hb) with z | z
    · rw [z]; exact Nat.le_add_right _ _
    · rw [z]; exact Nat.le_refl _
  exact I1.fpOk hle (I1.hok.fresh hle)
/-- pairs of the list at a and the tuple at b -/
def JzLT (K : Fg) (a b : Addr) : It :=
  ⟨fun i H => ∃ (xs ys : List V) (x y : V), SqL K H a xs ∧ SqT K H b ys ∧ xs[i]? = some x ∧ ys[i]? = some y,
    fun i H v H' => ∃ t x y, v = .ref t ∧ H t = none ∧ H' = upd H t (.tup [x, y]) ∧ (∀ xs, SqL K H a xs → xs[i]? = some x) ∧ ∀ ys, SqT K H b ys → ys[i]? = some y,
    fun i H => ∃ xs ys : List V, SqL K H a xs ∧ SqT K H b ys ∧ min xs.length ys.length = i⟩
theorem turn_zLT {P : Program} {w : World} {K : Fg} {elts : List Expr} {n : Nat} {tpos : Pos} {a b z TI TO i1 i2 : Addr} (S : ZipSep2 z TI TO i1 i2 [i1, a] [i2, b]) (na : a ≠ i1) (nb : b ≠ i2) :
    Turn P w K (.Tuple elts n tpos) (JzLT K a b) [z, TI, TO, i1, i2] z (fun i h => IsZip h z TI TO .none ∧ IsTupOf2 h TI (.ref i1) (.ref i2) ∧ (∃ a1 a2, IsTupOf2 h TO a1 a2) ∧ h.IsListIter i1 a i ∧ h.IsTupleIter i2 b i) where
  mem := by simp
  obj := fun i h st c hc => by
    obtain ⟨hz, hTI, ⟨x, y, hTO⟩, ⟨o1, e1, _, d1⟩, o2, e2, _, d2⟩ := st
    rcases (show c = z ∨ c = TI ∨ c = TO ∨ c = i1 ∨ c = i2 by simpa using hc) with q | q | q | q | q <;> rw [q]
    · exact ⟨_, hz, fun v q => nomatch q⟩
    · exact ⟨_, hTI, fun v q => nomatch q⟩
    · exact ⟨_, hTO, fun v q => nomatch q⟩
    · exact ⟨o1, e1, fun v q => by rw [d1] at q; cases q⟩
    · exact ⟨o2, e2, fun v q => by rw [d2] at q; cases q⟩
  keep := fun i h h' st k => by
    obtain ⟨hz, hTI, ⟨x, y, hTO⟩, h1, h2⟩ := st
    exact ⟨k z (by simp) _ hz, k TI (by simp) _ hTI, ⟨x, y, k TO (by simp) _ hTO⟩, h1.at fun o q => k i1 (by simp) o q, h2.at fun o q => k i2 (by simp) o q⟩
  item := by
    intro X hP hw hK hc i pins s σ H E I hf st hg
    subst hP hw hK
    obtain ⟨hz, hTI, hTO, h1, h2⟩ := st
    obtain ⟨xs, ys, x, y, hqx, hqy, hx, hy⟩ := hg
    obtain ⟨its, rv, pl, _⟩ := I.list hqx
    obtain ⟨its2, rv2, pt, _⟩ := I.tuple hqy
    obtain ⟨u, hu, ru⟩ := rv.get hx
    obtain ⟨u2, hu2, ru2⟩ := rv2.get hy
    have lt : ∀ c ∈ [z, TI, TO, i1, i2], c < s.heap.objs.size := fun c hcm => by
      obtain ⟨x0, y0, hTO'⟩ := hTO
      rcases (show c = z ∨ c = TI ∨ c = TO ∨ c = i1 ∨ c = i2 by simpa using hcm) with q | q | q | q | q <;> rw [q]
      · exact Heap.lt_size hz
      · exact Heap.lt_size hTI
      · exact Heap.lt_size hTO'
      · obtain ⟨_, e1, _⟩ := h1; exact Heap.lt_size e1
      · obtain ⟨_, e2, _⟩ := h2; exact Heap.lt_size e2
    have G := GoesN.zip2 (elts := elts) (x1 := n) (pos := tpos) S (Draws.list (prog := X.prog) (w := X.w) (A := X.A.in1) (I.ok.hd hc) i1 a na its.toArray) (Draws.tuple (prog := X.prog) (w := X.w) (A := X.A.in1) (I.ok.hd hc) i2 b nb its2.toArray)
    have l1 : i < its.toArray.size := by simpa using (List.getElem?_eq_some_iff.mp hu).1
    have l2 : i < its2.toArray.size := by simpa using (List.getElem?_eq_some_iff.mp hu2).1
    refine G.goes i s _ E (by omega) ⟨hz, hTI, hTO, ⟨h1, pl.isList⟩, ⟨h2, pt⟩⟩ fun v h' tk Y st' hk _ => ?_
    obtain ⟨t, p, q, rfl, hn, hp, hq, hT⟩ := Y
    have ep : p = u := by
      have e : its.toArray[i]? = some u := by simpa using hu
      rw [hp] at e
      exact Option.some.inj e
    have eq : q = u2 := by
      have e : its2.toArray[i]? = some u2 := by simpa using hu2
      rw [hq] at e
      exact Option.some.inj e
    subst ep eq
    obtain ⟨z1, z2, z3, z4, z5⟩ := st'
    have nw : ObjOk X.prog X.w (upd H t (.tup [x, y])) h' t (.tup [x, y]) := ⟨by show 2 ≤ sizeLine; decide, [p, q], .cons ru (.cons ru2 .nil), hT⟩
    refine ⟨.ref t, _, I.turnedNew (t' := tk) (ch := [z, TI, TO, i1, i2]) (fun c o hcm => hk c o fun w => hcm (by simp at w ⊢; rcases w with w | w | w | w <;> simp [w])) hf hn nw, rfl,
      ⟨t, x, y, rfl, I.hok.fresh hn, rfl, fun l hl => by rw [I.list_inj hl hqx]; exact hx, fun l hl => by rw [I.tuple_inj hl hqy]; exact hy⟩, ⟨z1, z2, z3, z4.1, z5.1⟩, fun c hcm => ?_⟩
    rw [upd_ne (Nat.ne_of_lt (Nat.lt_of_lt_of_le (lt c hcm) hn))]
    exact (hf c hcm).1
  done := by
    intro X hP hw hK hc i pins s σ H E I hf st hg
    subst hP hw hK
    obtain ⟨hz, hTI, hTO, h1, h2⟩ := st
    obtain ⟨xs, ys, hqx, hqy, he⟩ := hg
    obtain ⟨its, rv, pl, _⟩ := I.list hqx
    obtain ⟨its2, rv2, pt, _⟩ := I.tuple hqy
    have G := GoesN.zip2 (elts := elts) (x1 := n) (pos := tpos) S (Draws.list (prog := X.prog) (w := X.w) (A := X.A.in1) (I.ok.hd hc) i1 a na its.toArray) (Draws.tuple (prog := X.prog) (w := X.w) (A := X.A.in1) (I.ok.hd hc) i2 b nb its2.toArray)
    have l1 := rv.length
    have l2 := rv2.length
    have hn : min its.toArray.size its2.toArray.size = i := by simp; omega
    rw [← hn] at h1 h2
    exact G.stops s _ E ⟨hz, hTI, hTO, ⟨h1, pl.isList⟩, ⟨h2, pt⟩⟩ fun h' tk hk _ => I.turnedL (t' := tk) (ch := [z, TI, TO, i1, i2]) (fun c o hcm => hk c o fun w => hcm (by simp at w ⊢; rcases w with w | w | w | w <;> simp [w])) hf
  self := fun A i s Q E st h => wpAny_pyIter_zip st.1 h
def iZipLT (K : Fg) (ta : TA) : TI := fun σ H R => ta σ H fun vs H1 => ∃ a b xs ys, vs = [.ref a, .ref b] ∧ SqL K H1 a xs ∧ SqT K H1 b ys ∧ R (JzLT K a b) H1
theorem pi_zipLT {X : Cx} {e e2 : Expr} {ta : TA} {p pos tpos : Pos} {elts : List Expr} {n : Nat} (hg : Gl X "zip") (hm : X.mg "zip" = none) (ha : PA X [e, e2] ta)
    (hs : starEach [e, e2] X.env = (false, eval e X.env) :: starEach [e2] X.env := by rfl) (hpl : (backTo pos (starEach [e2] X.env)).any (·.1) = false := by rfl) :
    PI X (.Tuple elts n tpos) (.Call (.Name "zip" p) [e, e2] [] pos) (iZipLT X.K ta) := by
  refine ⟨fun pins s σ H R I h => ?_⟩
  refine Call_ (ld_blt I hg hm PyProof.Rows.boot_zip (PyProof.Rows.callWith_type1 (thn (ha.run pos pins s σ H _ I h) fun us s1 ⟨vs, H1, I1, r1, q1⟩ => ?_) hs hpl))
  obtain ⟨a, b, xs, ys, rfl, hqx, hqy, q⟩ := q1
  obtain ⟨u1, u2, rfl, ra, rb⟩ := vals2 r1
  cases ra
  cases rb
  obtain ⟨its, rv, pl, _⟩ := I1.list hqx
  obtain ⟨its2, rv2, pt, _⟩ := I1.tuple hqy
  have la : a < s1.heap.objs.size := pl.lt
  have lb : b < s1.heap.objs.size := by obtain ⟨o, ho, _⟩ := id pt; exact Heap.lt_size ho
  refine zip_begins2 (begins_list a its.toArray) (begins_tuple b its2.toArray) pl.isList pt fun h' hz hTI hTO h1 h2 hsz hk => wpAny_pyIter_zip hz ?_
  have I2 : Inv X pins σ H1 { s1 with heap := h' } := I1.kept (t' := s1.toks) hk
  have S := zip_sep2 (N := s1.heap.objs.size) (fp1 := [a]) (fp2 := [b]) (by simpa using la) (by simpa using lb)
  refine ⟨s1.heap.objs.size + 4, [s1.heap.objs.size + 4, s1.heap.objs.size + 2, s1.heap.objs.size + 3, s1.heap.objs.size, s1.heap.objs.size + 1], _, _, H1, rfl, I2,
    turn_zLT S (Nat.ne_of_lt la) (Nat.ne_of_lt (Nat.lt_succ_of_lt lb)), ⟨hz, hTI, ⟨_, _, hTO⟩, ⟨_, h1, rfl, rfl⟩, ⟨_, h2, rfl, rfl⟩⟩, fun c hcm => ?_, q⟩
  have hle : s1.heap.objs.size ≤ c := by
    simp only [List.mem_cons, List.not_mem_nil, or_false] at hcm
    rcases hcm with w | w | w | w | w <;> rw [w] <;> first | exact Nat.le_refl _ | exact Nat.le_add_right _ _
  exact I1.fpOk hle (I1.hok.fresh hle)
/-! ### the readings of these walks -/
theorem st_iET {K : Fg} {ta : TA} {σ : L2.St} {H : Hp} {R : It → Hp → Prop} (q : ta σ H fun vs H1 => ∃ a xs, vs = [.ref a] ∧ SqT K H1 a xs ∧ R (JeT K a) H1) : iEnumT K ta σ H R := q
theorem st_iZA {K : Fg} {ta : TA} {σ : L2.St} {H : Hp} {R : It → Hp → Prop} (q : ta σ H fun vs H1 => ∃ a b xs ys, vs = [.ref a, .ref b] ∧ ((SqL K H1 a xs ∧ SqL K H1 b ys ∧ R (Itz K a b) H1) ∨ (SqT K H1 a xs ∧ SqT K H1 b ys ∧ R (RZ.ItzT K a b) H1))) : RZ.iZipA K ta σ H R := q
theorem st_iZLT {K : Fg} {ta : TA} {σ : L2.St} {H : Hp} {R : It → Hp → Prop} (q : ta σ H fun vs H1 => ∃ a b xs ys, vs = [.ref a, .ref b] ∧ SqL K H1 a xs ∧ SqT K H1 b ys ∧ R (JzLT K a b) H1) : iZipLT K ta σ H R := q
section
variable {T : List (Addr × Str)} {K : Fg} {α : Type} {g : TG} {tt : TT} {te : TE} {vs : List Nat} {σ : L2.St} {H : Hp} {Q : VK} {a b : Addr} {xs ys : List V}
/-- a comprehension over enumerate(tuple): t the new pair -/
theorem lcE {l : List α} {enc : α → D} (f : Nat → α → Bool) (G : Nat → α → D) (hs : SqT K H a xs) (hx : TpAll K H xs (l.map enc)) (hz : l.length ≤ 100000)
    (turn : ∀ i z x t H1, l[i]? = some z → Ex T H H1 → Tp K H1 x (enc z) → SqT K H1 t [.int (i : Nat), x] → LcTurn T K g tt te vs σ H1 (f i z) (G i z) (.ref t))
    (fin : ∀ p H' zs, New H p → Ex T H H' → H' p = some (.lst zs) → TpAll K H' zs ((l.zipIdx.filter fun q => f q.2 q.1).map fun q => G q.2 q.1) → Q (.ref p) H') : LcG (JeT K a) g tt te vs σ H Q := by
  intro L hL
  have hlen : xs.length = l.length := by rw [hx.len, List.length_map]
  refine ⟨fun i m H' => m = xs.length - i ∧ i ≤ xs.length ∧ LcP T K H L (kept (fun q : α × Nat => f q.2 q.1) (fun q => G q.2 q.1) (l.zipIdx.take i)) H', ⟨xs.length, by simp, Nat.zero_le _, by rw [List.take_zero]; exact .start hL⟩, ?_⟩
  rintro i m H' ⟨rfl, hi, p⟩
  by_cases hlt : i < xs.length
  · refine .inr ⟨⟨xs, xs[i], p.ex.st hs, by simp [hlt]⟩, fun H2 => LcP T K H L (kept (fun q : α × Nat => f q.2 q.1) (fun q => G q.2 q.1) (l.zipIdx.take (i + 1))) H2, fun H2 p2 => ⟨xs.length - (i + 1), by omega, rfl, hlt, p2⟩, fun v H2 y => ?_⟩
    obtain ⟨t, x, rfl, ht, rfl, hxi⟩ := y
    have hx0 := hxi xs (p.ex.st hs)
    obtain ⟨z, hz', hxz⟩ := hx.src hx0
    have e2 : Ex T H' (upd H' t (.tup [.int (i : Nat), x])) := .new ht
    have hzi : l.zipIdx[i]? = some (z, i) := by rw [List.getElem?_zipIdx, hz']; simp
    refine lc_step (p.skip e2) (by have := kept_len (b := fun q : α × Nat => f q.2 q.1) (G := fun q => G q.2 q.1) (l := l.zipIdx) (i := i); omega) (turn i z x t _ hz' (p.ex.trans e2) (e2.tp (p.ex.tp hxz)) (.of upd_same)) fun H3 q => ?_
    rw [kept_snoc hzi]
    exact q
  · have e : i = xs.length := by omega
    subst e
    refine .inl ⟨⟨xs, p.ex.st hs, rfl⟩, ?_⟩
    obtain ⟨zs, h1, h2⟩ := p.at_
    rw [show l.zipIdx.take xs.length = l.zipIdx by rw [List.take_of_length_le]; simp [hlen]] at h2
    exact fin L H' zs p.new p.ex h1 h2
end
end Sp
end
section
set_option Elab.async false
set_option linter.all false
set_option maxRecDepth 100000
set_option maxHeartbeats 4000000
set_option autoImplicit false
namespace Sp
open PySem PySem.Spec PyProof.Rows L2
section
variable {X : Cx}
/-! ### x in t, t a tuple of data -/
def rInT (K : Fg) : R2 := fun x y H Q => ∃ d ds, Dp K H x d ∧ Dp K H y (.tuple ds) ∧ SeqAt.shaped d = true ∧ SeqAt.shaped (.tuple ds) = true ∧ Q (.bl (ds.any fun z => PyData.eqv z d)) H
def rNotInT (K : Fg) : R2 := fun x y H Q => ∃ d ds, Dp K H x d ∧ Dp K H y (.tuple ds) ∧ SeqAt.shaped d = true ∧ SeqAt.shaped (.tuple ds) = true ∧ Q (.bl (!ds.any fun z => PyData.eqv z d)) H
theorem roomT {A : Around} {d : D} {ds : List D} (sd : SeqAt.shaped d = true) (hu : A.units + 65 < cLine) : A.units + 1 + min (PyData.depthAll ds) d.depth < cLine := by
  unfold SeqAt.shaped at sd
  rw [Bool.and_eq_true] at sd
  have h := of_decide_eq_true sd.2
  omega
theorem op_inT (hu : X.A.units + 65 < cLine) : OpR X (compareOp .In) (rInT X.K) := fun pins s σ H x y v u Q I rx ry h => by
  obtain ⟨d, ds, hd, he, sd, se, q⟩ := h
  obtain ⟨as, r1⟩ := hd.reads I d x v rx
  obtain ⟨bs, r2⟩ := he.reads I (.tuple ds) y u ry
  exact SeqAt.in_tuple_reads r2 r1 (SeqAt.canLay_of_shaped se) (SeqAt.canLay_of_shaped sd) (roomT sd hu) ⟨.bl _, H, I, rfl, q⟩
theorem op_notInT (hu : X.A.units + 65 < cLine) : OpR X (compareOp .NotIn) (rNotInT X.K) := fun pins s σ H x y v u Q I rx ry h => by
  obtain ⟨d, ds, hd, he, sd, se, q⟩ := h
  obtain ⟨as, r1⟩ := hd.reads I d x v rx
  obtain ⟨bs, r2⟩ := he.reads I (.tuple ds) y u ry
  exact SeqAt.notIn_tuple_reads r2 r1 (SeqAt.canLay_of_shaped se) (SeqAt.canLay_of_shaped sd) (roomT sd hu) ⟨.bl _, H, I, rfl, q⟩
/-! ### max, min, sum of a tuple of ints -/
def rMaxT (K : Fg) : List V → Hp → VK → Prop := fun vs H Q => ∃ (a : Addr) (i j : Int), vs = [.ref a] ∧ SqT K H a [.int i, .int j] ∧ i < j ∧ Q (.int j) H
def rMinT (K : Fg) : List V → Hp → VK → Prop := fun vs H Q => ∃ (a : Addr) (i j : Int), vs = [.ref a] ∧ SqT K H a [.int i, .int j] ∧ i < j ∧ Q (.int i) H
theorem reads_int {h : Heap} {v : Value} {n : Int} {as : List Addr} (r : Reads h v (.int n) as) : ∃ t, v = .int n t := by
  cases r
  exact ⟨_, rfl⟩
theorem two_ints {h : Heap} {u1 u2 : Value} {i j : Int} (r1 : L2.RelV (.int i) u1) (r2 : L2.RelV (.int j) u2) : ReadsAll h [u1, u2].toArray.toList [.int i, .int j] ([] ++ ([] ++ [])) := by
  obtain ⟨t1, rfl⟩ := r1
  obtain ⟨t2, rfl⟩ := r2
  exact .cons (.int i t1) (.cons (.int j t2) .nil)
theorem alike2 (i j : Int) : PySem.W.AlikeAll [.int i, .int j] := by
  refine ⟨fun x hx y hy => ?_, fun x hx => ?_⟩
  · simp at hx hy
    rcases hx with rfl | rfl <;> rcases hy with rfl | rfl <;> rfl
  · simp at hx
    rcases hx with rfl | rfl <;> (intro z; cases z)
theorem call_maxT (hc : X.calm = true) (hu : X.A.units + 65 < cLine) : CallR X (.builtin "max") (rMaxT X.K) := fun pins s σ H xs us Q I r h => by
  obtain ⟨a, i, j, rfl, hs, hij, q⟩ := h
  obtain ⟨u, rfl, ru⟩ := vals1 r
  cases ru
  obtain ⟨its, rv, p, hz⟩ := I.tuple hs
  obtain ⟨u1, u2, rfl, r1, r2⟩ := vals2 rv
  refine PySem.W.max_tuple_data (I.ok.hd hc) (show s.heap.IsTuple a _ from p) (two_ints r1 r2) (alike2 i j) (by simp [PyData.depthAll, PyData.depth]; omega) fun k v h' tk bs _ rd kp => ?_
  have e : PySem.W.maxD (.int i) [.int j] = .int j := by
    have z := PySem.W.maxD_ints i [j]
    simp only [List.map_cons, List.map_nil, List.foldl_cons, List.foldl_nil] at z
    rw [z, Int.max_eq_right (by omega)]
  rw [e] at rd
  obtain ⟨t, rfl⟩ := reads_int rd
  exact ⟨.int j, H, I.kept (t' := tk) kp, ⟨t, rfl⟩, q⟩
theorem call_minT (hc : X.calm = true) (hu : X.A.units + 65 < cLine) : CallR X (.builtin "min") (rMinT X.K) := fun pins s σ H xs us Q I r h => by
  obtain ⟨a, i, j, rfl, hs, hij, q⟩ := h
  obtain ⟨u, rfl, ru⟩ := vals1 r
  cases ru
  obtain ⟨its, rv, p, hz⟩ := I.tuple hs
  obtain ⟨u1, u2, rfl, r1, r2⟩ := vals2 rv
  refine PySem.W.min_tuple_data (I.ok.hd hc) (show s.heap.IsTuple a _ from p) (two_ints r1 r2) (alike2 i j) (by simp [PyData.depthAll, PyData.depth]; omega) fun k v h' tk bs _ rd kp => ?_
  have e : PySem.W.minD (.int i) [.int j] = .int i := by
    have z := PySem.W.minD_ints i [j]
    simp only [List.map_cons, List.map_nil, List.foldl_cons, List.foldl_nil] at z
    rw [z, Int.min_eq_left (by omega)]
  rw [e] at rd
  obtain ⟨t, rfl⟩ := reads_int rd
  exact ⟨.int i, H, I.kept (t' := tk) kp, ⟨t, rfl⟩, q⟩
def rSumT (K : Fg) : List V → Hp → VK → Prop := fun vs H Q => ∃ (a : Addr) (i j : Int), vs = [.ref a] ∧ SqT K H a [.int i, .int j] ∧ Q (.int (i + j)) H
theorem call_sumT (hc : X.calm = true) : CallR X (.builtin "sum") (rSumT X.K) := fun pins s σ H xs us Q I r h => by
  obtain ⟨a, i, j, rfl, hs, q⟩ := h
  obtain ⟨u, rfl, ru⟩ := vals1 r
  cases ru
  obtain ⟨its, rv, p, hz⟩ := I.tuple hs
  obtain ⟨u1, u2, rfl, ⟨t1, rfl⟩, ⟨t2, rfl⟩⟩ := vals2 rv
  refine PySem.W.ktm_sumG (xs := #[(i, t1), (j, t2)]) (I.ok.hd hc) (by rw [show intItems #[(i, t1), (j, t2)] = #[.int i t1, .int j t2] by simp [intItems]]; exact p) fun h' tk t' kp => ⟨.int (i + j), H, I.kept (t' := tk) kp, ⟨t', ?_⟩, q⟩
  congr 1
  simp [preSum, numAt]
/-! ### sorted of a list of data -/
def rSortedD (K : Fg) : List V → Hp → VK → Prop := fun vs H Q => ∃ (β : Type) (a : Addr) (xs : List V) (bs : List β) (enc : β → D), vs = [.ref a] ∧ SqL K H a xs ∧ TpAll K H xs (bs.map enc) ∧ PySem.W.AllAlike (bs.map enc) ∧ PySem.W.Sortable (bs.map enc) ∧
  (∀ b ∈ bs, (enc b).depth ≤ 60) ∧ ∀ p ys, H p = none → TpAll K (upd H p (.lst ys)) ys ((bs.mergeSort (PySem.W.dataLe false enc)).map enc) → Q (.ref p) (upd H p (.lst ys))
theorem each_of {K : Fg} {H : Hp} {β : Type} {enc : β → D} : ∀ {bs : List β} {xs : List V} {us : List Value}, TpAll K H xs (bs.map enc) → Vals xs us → PySem.W.EachIs (fun u b => ∃ y, L2.RelV y u ∧ Tp K H y (enc b)) us bs := by
  intro bs
  induction bs with
  | nil =>
    intro xs us h r
    cases h
    cases r
    exact .nil
  | cons b bs ih =>
    intro xs us h r
    cases h with
    | cons h1 h2 =>
      cases r with
      | cons r1 r2 => exact .cons ⟨_, r1, h1⟩ (ih h2 r2)
theorem of_each {K : Fg} {H : Hp} {β : Type} {enc : β → D} : ∀ {us : List Value} {bs : List β}, PySem.W.EachIs (fun u b => ∃ y, L2.RelV y u ∧ Tp K H y (enc b)) us bs → ∃ xs, Vals xs us ∧ TpAll K H xs (bs.map enc) := by
  intro us bs h
  induction h with
  | nil => exact ⟨[], .nil, .nil⟩
  | cons h1 _ ih =>
    obtain ⟨y, r, t⟩ := h1
    obtain ⟨xs, a, b⟩ := ih
    exact ⟨y :: xs, .cons r a, .cons t b⟩
/-- what a sort of the items leaves, as a list of the layer -/
theorem sorted_end {pins : List (Addr × Obj)} {s : Shared} {σ : L2.St} {H : Hp} {Q : VK} {β : Type} {bs : List β} {enc : β → D} {h' : Heap} {tk : Nat} {p : Addr} {out : List Value} {c : Nat} (I : Inv X pins σ H s) (kp : ∀ b o, s.heap.get? b = some o → h'.get? b = some o)
    (hp : s.heap.objs.size ≤ p) (at_ : h'.get? p = some (seqObj "list" out.toArray c)) (hz : bs.length ≤ sizeLine) (eo : PySem.W.EachIs (fun u b => ∃ y, L2.RelV y u ∧ Tp X.K H y (enc b)) out (bs.mergeSort (PySem.W.dataLe false enc)))
    (q : ∀ p ys, H p = none → TpAll X.K (upd H p (.lst ys)) ys ((bs.mergeSort (PySem.W.dataLe false enc)).map enc) → Q (.ref p) (upd H p (.lst ys))) : EP X pins σ Q (.ref p) { s with heap := h', toks := tk } := by
  obtain ⟨ys, h1, h2⟩ := of_each eo
  have hn : H p = none := I.hok.fresh hp
  have hl : ys.length ≤ sizeLine := by
    have e := h2.len
    rw [List.length_map, List.length_mergeSort] at e
    omega
  exact ⟨.ref p, upd H p (.lst ys), I.laid (t' := tk) kp hp ⟨hl, out, c, h1, at_⟩, rfl, q p ys hn (h2.up (noTup_none hn))⟩
theorem call_sortedD (hu : X.A.units + 65 < cLine) : CallR X (.builtin "sorted") (rSortedD X.K) := fun pins s σ H xs us Q I r h => by
  obtain ⟨β, a, xs, bs, enc, rfl, hs, hx, al, so, hd, q⟩ := h
  obtain ⟨u, rfl, ru⟩ := vals1 r
  cases ru
  obtain ⟨its, rv, p, hz⟩ := I.list hs
  have e := each_of hx rv
  have hz' : bs.length ≤ sizeLine := by
    have h1 := hx.len
    rw [List.length_map] at h1
    omega
  refine PySem.W.sorted_data (l := a) (vs := its) (bs := bs) (enc := enc) p.isList e (e.mono fun v b ⟨y, ry, ty⟩ => (ty.dp.reads I _ y v ry)) al so hz' (fun b hb => by have := hd b hb; omega) fun out hol eo => ?_
  obtain ⟨c, hc⟩ := PyProof.Rows.sortedAll_at s.heap its out.toArray
  exact sorted_end (tk := s.toks) I (fun _ _ => PyProof.Rows.sortedAll_old) (Nat.le_succ _) hc hz' eo q
/-- sorted(t), t a tuple -/
def rSortedT (K : Fg) : List V → Hp → VK → Prop := fun vs H Q => ∃ (β : Type) (a : Addr) (xs : List V) (bs : List β) (enc : β → D), vs = [.ref a] ∧ SqT K H a xs ∧ TpAll K H xs (bs.map enc) ∧ PySem.W.AllAlike (bs.map enc) ∧ PySem.W.Sortable (bs.map enc) ∧
  (∀ b ∈ bs, (enc b).depth ≤ 60) ∧ ∀ p ys, H p = none → TpAll K (upd H p (.lst ys)) ys ((bs.mergeSort (PySem.W.dataLe false enc)).map enc) → Q (.ref p) (upd H p (.lst ys))
theorem call_sortedT (hu : X.A.units + 65 < cLine) : CallR X (.builtin "sorted") (rSortedT X.K) := fun pins s σ H xs us Q I r h => by
  obtain ⟨β, a, xs, bs, enc, rfl, hs, hx, al, so, hd, q⟩ := h
  obtain ⟨u, rfl, ru⟩ := vals1 r
  cases ru
  obtain ⟨its, rv, ⟨o, ho, hc, n, hdt⟩, hz⟩ := I.tuple hs
  have e := each_of hx rv
  have hl : its.length ≤ sizeLine := by have := rv.length; omega
  have hz' : bs.length ≤ sizeLine := by
    have h1 := hx.len
    rw [List.length_map] at h1
    omega
  refine call_function_entry_kw kind_sorted plain_sorted entry_sorted (args_sorted1 _) ?_
  unfold Builtin.«sorted»
  refine wpAny_bind (m := checkCount "sorted" 1 1 _) (wpAny_pure ?_)
  refine wpAny_bind (wpAny_collect_seq a (.inr rfl) ho hc hdt (fun h1 k1 => ?_) (by simpa using hl))
  refine wpAny_bind (wpAny_newList ?_ (by simpa using hl))
  have at1 : (h1.push (seqObj "list" its.toArray 0)).get? h1.objs.size = some (seqObj "list" its.toArray 0) := Heap.get?_push_size _ rfl
  have k2 : ∀ b o, s.heap.get? b = some o → (h1.push (seqObj "list" its.toArray 0)).get? b = some o := fun b o z => Heap.get?_push_of_some _ (k1 b o z)
  have I1 : Inv X pins σ H { s with heap := h1 } := I.kept (t' := s.toks) k1
  have I2 : Inv X pins σ H { s with heap := h1.push (seqObj "list" its.toArray 0) } := I.kept (t' := s.toks) k2
  have lt1 : h1.objs.size < (h1.push (seqObj "list" its.toArray 0)).objs.size := Heap.lt_size at1
  have k3 : ∀ b o, b ≠ h1.objs.size → h1.get? b = some o → (PySem.W.sortingHeap (h1.push (seqObj "list" its.toArray 0)) h1.objs.size its).get? b = some o := fun b o hb z => PySem.W.sortingHeap_old hb (Heap.get?_push_of_some _ z)
  have kS : ∀ b o, s.heap.get? b = some o → (PySem.W.sortingHeap (h1.push (seqObj "list" its.toArray 0)) h1.objs.size its).get? b = some o := fun b o z => k3 b o (Nat.ne_of_lt (Heap.lt_size (k1 b o z))) (k1 b o z)
  have IS : Inv X pins σ H { s with heap := PySem.W.sortingHeap (h1.push (seqObj "list" its.toArray 0)) h1.objs.size its } := I.kept (t' := s.toks) kS
  have S : PySem.W.SortsAt X.prog X.w X.A.in1.in1 { s with heap := PySem.W.sortingHeap (h1.push (seqObj "list" its.toArray 0)) h1.objs.size its } (PySem.W.dataKind (PySem.W.sortingHeap (h1.push (seqObj "list" its.toArray 0)) h1.objs.size its) (bs.map enc)) its :=
    PySem.W.SortsAt.data (PySem.W.each_map (R := fun v d => ∃ as, Reads (PySem.W.sortingHeap (h1.push (seqObj "list" its.toArray 0)) h1.objs.size its) v d as) enc (e.mono fun v b ⟨y, ry, ty⟩ => ty.dp.reads IS _ y v ry)) al so fun d hd' => by
      obtain ⟨b, hb, rfl⟩ := List.mem_map.mp hd'
      have := hd b hb
      show X.A.units + 2 + _ < cLine
      omega
  have et : its.toArray.toList.toArray = its.toArray := by simp
  show wpAny _ _ (holding _ _ >>= _) _ _ _
  refine wpAny_bind (wpAny_holding (wpAny_call_entry_kw (self := .ref h1.objs.size) slot_list_sort ⟨_, at1, rfl⟩ entry_list_sort ?body (PyProof.Rows.args_list_sort _)))
  case body =>
    show wpAny (model X.prog X.w) X.A.in1.in1 (Builtin.«list.sort» ⟨[.ref h1.objs.size], []⟩) _ _ _
    refine PySem.W.list_sort_vals (s := { s with heap := h1.push (seqObj "list" its.toArray 0) }) at1 S hl ⟨_, rfl, wpAny_pure ⟨_, rfl, ?_⟩⟩
    obtain ⟨c, hc'⟩ := PyProof.Rows.sortedHeap_at (vs := its) (out := (PySem.W.sortVals (PySem.W.dataKind (PySem.W.sortingHeap (h1.push (seqObj "list" its.toArray 0)) h1.objs.size its) (bs.map enc)) false its its).toArray) at1
    refine sorted_end (s := { s with heap := h1 }) (tk := s.toks) I1 (fun b o z => ?_) (Nat.le_refl _) hc' hz' (PySem.W.sortVals_data false e (e.mono fun v b ⟨y, ry, ty⟩ => ty.dp.reads IS _ y v ry) al) q
    rw [PyProof.Rows.sortedHeap_old (Nat.ne_of_lt (Heap.lt_size z)) (Nat.lt_trans (Heap.lt_size z) lt1)]
    exact Heap.get?_push_of_some _ z
end
end Sp
end
section
set_option Elab.async false
set_option linter.all false
set_option maxRecDepth 100000
set_option maxHeartbeats 4000000
set_option autoImplicit false
namespace Sp
open PySem PySem.Spec PyProof.Rows L2
/-- len(o), o an instance whose class has __len__ -/
def tLenO (C : Addr) (sp : Sp) (ta : TE) : TE := fun σ H Q => ta σ H fun x H1 => ∃ a dx fs, x = .ref a ∧ H1 a = some (.ins C dx fs) ∧ sp [.ref a] H1 (fun v H2 => ∃ n : Int, v = .int n ∧ 0 ≤ n ∧ n < 2 ^ 63 ∧ Q (.int n) H2) E0
section
variable {X : Cx} {j : Nat} {C : Addr} {ps : List Str} {sp : Sp} {e : Expr} {te : TE} {p pos : Pos}
theorem pe_lenO (c : CalM X.prog X.w X.K X.mg X.base j C "__len__" ps sp) (hr : Room (j + 1) X.A) (hg : Gl X "len") (hm : X.mg "len" = none) (he : PE X e te)
    (na : starEach [e] X.env = (false, eval e X.env) :: starEach [] X.env := by rfl) : PE X (.Call (.Name "len" p) [e] [] pos) (tLenO C sp te) := by
  obtain ⟨f, fd, F, mt, hb⟩ := c.ex
  refine ⟨fun pins s σ H Q I h => ?_⟩
  refine Call_ (ld_blt I hg hm boot_f_len ?_)
  refine PyProof.Rows.callWith_builtin1 (PyProof.Rows.args_cons (thn (he.run pins s σ H _ I h) fun u s1 ⟨x, H1, I1, r1, a, dx, fs, ex, ea, q⟩ => PyProof.Rows.args_nil ?_) na) na rfl
  subst ex
  obtain rfl : u = Value.ref a := r1
  obtain ⟨mA, O, _, _, _, _⟩ := ins_get I1.hok ea
  obtain ⟨od, J, _⟩ := O.look
  obtain ⟨m, Fm⟩ := I1.fr
  have hl : [Value.ref a].length = ps.length := by
    rw [← F.len _ _ _ _ q]
    rfl
  refine PySem.W.len_K Fm I1.mod.kin J mt.at_ mt.fn (wpAny_call (codeAny_mono (F.run X.A.in1 X.stack s1 H1 ⟨[.ref a], []⟩ [.ref a] [.ref a] _ E0 hr.in1 I1.env0.in1 (hb _ [.ref a] I1.kIn hl) (.cons rfl .nil) q) fun r s' hq => ?_))
  cases r with
  | error er => exact (show False from hq).elim
  | ok fl =>
    cases fl with
    | ret u =>
      obtain ⟨v, H', I3, rv, n, rfl, h0, h1, q3⟩ := I1.after hq
      obtain ⟨t, rfl⟩ := rv
      exact ⟨⟨h0, h1⟩, .int n, H', I3.tok _, ⟨_, rfl⟩, q3⟩
    | next => exact False.elim hq
    | brk => exact False.elim hq
    | cont => exact False.elim hq
theorem st_lenO {σ : L2.St} {H : Hp} {Q : VK} (q : te σ H fun x H1 => ∃ a dx fs, x = .ref a ∧ H1 a = some (.ins C dx fs) ∧ sp [.ref a] H1 (fun v H2 => ∃ n : Int, v = .int n ∧ 0 ≤ n ∧ n < 2 ^ 63 ∧ Q (.int n) H2) E0) : tLenO C sp te σ H Q := q
/-! ### cls(..) in a classmethod: the slot holds a class -/
def tMakeL (i : Nat) (C : Addr) (sp : Sp) (t : TA) : TE := fun σ H Q => σ[i]? = some (some (.ref C)) ∧ t σ H fun vs H1 => ∀ x dx, H1 x = none → H1 dx = none → dx ≠ x →
  sp (.ref x :: (vs ++ [])) (upd (upd H1 dx (.own x)) x (.ins C dx [])) (fun v H2 => v = .non ∧ Q (.ref x) H2) E0
theorem pe_kL {i : Nat} {x y : Str} {es : List Expr} {t : TA} (c : CalK X.prog X.w X.K X.mg X.base j C y ps sp) (hr : Room (j + 1) X.A) (hN : X.N[i]? = some x) (hv : Vis X.env.scope x) (ha : PA X (e :: es) t)
    (hdb : (x == ("__debug__" : Str)) = false := by decide) (hcd : (x == ("__classdict__" : Str)) = false := by decide)
    (hst : starEach (e :: es) X.env = (false, eval e X.env) :: starEach es X.env := by rfl) (hpl : (backTo pos (starEach es X.env)).any (·.1) = false := by rfl) : PE X (.Call (.Name x p) (e :: es) [] pos) (tMakeL i C sp t) := by
  obtain ⟨f, fd, M, hm, F, hb⟩ := c.ex
  refine ⟨fun pins s σ H Q I h => ?_⟩
  obtain ⟨hs, ht⟩ := h
  refine wpAny_Call_Name_kw (thn ((pe_var (pos := p) hN hv hdb hcd).run pins s σ H (fun v H1 => v = .ref C ∧ H1 = H) I ⟨.ref C, hs, rfl, rfl⟩) fun u s1 ⟨v, H1, I1, r1, q1⟩ => ?_)
  obtain ⟨rfl, rfl⟩ := q1
  cases r1
  refine PySem.W.callWith_K (h₀ := X.base) I.ok.mod.kin M.kp (thn (ha.run pos pins s1 σ _ _ I1 ht) fun us s2 ⟨vs, H2, I2, r, q⟩ => ⟨I2.kIn, ?_⟩) hst hpl
  exact run_make M F hr hb .nil pass0 I2 r q
end
end Sp
end
section
set_option Elab.async false
set_option linter.all false
set_option maxRecDepth 100000
set_option maxHeartbeats 4000000
set_option autoImplicit false
/-! Sp: dicts whose keys are tuples of whole numbers and None. -/
namespace Sp
open PySem PySem.Spec PyProof.Rows L2
abbrev KO : Type := List (Option Int)
def kx : Option Int → V
  | none => .non
  | some i => .int i
def kd : Option Int → D
  | none => .none
  | some i => .int i
def kn : Option Int → NestedKey
  | none => .none
  | some i => .num i
def nk (k : KO) : NestedKey := .tup (k.map kn)
abbrev kD (k : KO) : D := .tuple (k.map kd)
theorem kn_inj {a b : Option Int} (h : kn a = kn b) : a = b := by
  cases a <;> cases b <;> simp_all [kn]
theorem kns_inj : ∀ {a b : KO}, a.map kn = b.map kn → a = b
  | [], [], _ => rfl
  | [], _ :: _, h => by simp at h
  | _ :: _, [], h => by simp at h
  | x :: a, y :: b, h => by
    rw [List.map_cons, List.map_cons] at h
    injection h with h1 h2
    rw [kn_inj h1, kns_inj h2]
theorem nk_inj {a b : KO} (h : nk a = nk b) : a = b := kns_inj (NestedKey.tup.inj h)
theorem kd_inj {a b : Option Int} (h : kd a = kd b) : a = b := by
  cases a <;> cases b <;> simp_all [kd]
theorem tp_kx {K : Fg} {H : Hp} {v : V} {o : Option Int} (h : Tp K H v (kd o)) : v = kx o := by
  cases o with
  | none => exact tp_non h
  | some i => exact tp_int h
theorem tps_kx {K : Fg} {H : Hp} : ∀ {k : KO} {xs : List V}, TpAll K H xs (k.map kd) → xs = k.map kx
  | [], _, h => by cases h; rfl
  | o :: k, _, h => by
    rw [List.map_cons] at h
    cases h with
    | cons h1 h2 => rw [tp_kx h1, tps_kx h2]; rfl
theorem kx_tp {K : Fg} {H : Hp} : ∀ o : Option Int, Tp K H (kx o) (kd o)
  | none => .non
  | some i => .int i
theorem kxs_tp {K : Fg} {H : Hp} : ∀ k : KO, TpAll K H (k.map kx) (k.map kd)
  | [] => .nil
  | o :: k => .cons (kx_tp o) (kxs_tp k)
theorem tp_key {K : Fg} {H : Hp} {v : V} {k : KO} (h : Tp K H v (kD k)) : ∃ a, v = .ref a ∧ SqT K H a (k.map kx) := by
  obtain ⟨a, xs, rfl, h1, h2⟩ := tp_tup h
  rw [tps_kx h2] at h1
  exact ⟨a, rfl, h1⟩

/-! ### the table -/
abbrev Ent : Type := KO × Addr × V
def valN (L : List Ent) (k : KO) : Option V := (L.find? fun x => decide (x.1 = k)).map (·.2.2)
def putN (L : List Ent) (k : KO) (a : Addr) (v : V) : List Ent :=
  if (valN L k).isSome then L.map (fun x => if x.1 = k then (x.1, x.2.1, v) else x) else L ++ [(k, a, v)]
abbrev PnR : Ent → NestedKey × Addr × Value → Prop := fun p q => q.1 = nk p.1 ∧ q.2.1 = p.2.1 ∧ RelV p.2.2 q.2.2
abbrev Pn : List Ent → List (NestedKey × Addr × Value) → Prop := Paired PnR
theorem valN_pos {p : Ent} {r : List Ent} {k : KO} (e : p.1 = k) : valN (p :: r) k = some p.2.2 := by simp [valN, List.find?_cons, e]
theorem valN_neg {p : Ent} {r : List Ent} {k : KO} (e : ¬ p.1 = k) : valN (p :: r) k = valN r k := by simp [valN, List.find?_cons, e]
theorem Pn.val {L : List Ent} {xs : List (NestedKey × Addr × Value)} (r : Pn L xs) (k : KO) : RelO (valN L k) ((atKey xs (nk k)).map (·.2)) := by
  induction r with
  | nil => exact True.intro
  | @cons p q ps qs h t ih =>
    obtain ⟨h1, h2, h3⟩ := h
    by_cases e : p.1 = k
    · have b : atKey (q :: qs) (nk k) = some q.2 := by simp [atKey, List.find?_cons, h1, e]
      rw [valN_pos e, b]; exact h3
    · have e' : ¬ q.1 = nk k := fun z => e (nk_inj (h1.symm.trans z))
      have b : atKey (q :: qs) (nk k) = atKey qs (nk k) := by simp [atKey, List.find?_cons, e']
      rw [valN_neg e, b]; exact ih
theorem Pn.some {L : List Ent} {xs : List (NestedKey × Addr × Value)} (r : Pn L xs) (k : KO) : (valN L k).isSome = (atKey xs (nk k)).isSome := by
  have := (r.val k).isSome_eq
  rw [Option.isSome_map] at this
  exact this
theorem Pn.repl {L : List Ent} {xs : List (NestedKey × Addr × Value)} (r : Pn L xs) (k : KO) {y : V} {u : Value} (ry : RelV y u) :
    Pn (L.map fun x => if x.1 = k then (x.1, x.2.1, y) else x) (xs.map (putAt (nk k) u)) := by
  induction r with
  | nil => exact .nil
  | @cons p q ps qs h t ih =>
    rw [List.map_cons, List.map_cons]
    refine .cons ?_ ih
    obtain ⟨h1, h2, h3⟩ := h
    unfold putAt
    by_cases e : p.1 = k
    · rw [if_pos e, if_pos (by rw [h1, e])]; exact ⟨h1, h2, ry⟩
    · rw [if_neg e, if_neg (fun z => e (nk_inj (h1.symm.trans z)))]; exact ⟨h1, h2, h3⟩
theorem Pn.put {L : List Ent} {xs : List (NestedKey × Addr × Value)} (r : Pn L xs) (k : KO) {b : Addr} {y : V} {u : Value} (ry : RelV y u) : Pn (putN L k b y) (storedH xs (nk k) b u) := by
  unfold putN storedH
  rw [r.some k]
  by_cases q : (atKey xs (nk k)).isSome = true
  · rw [if_pos q, if_pos q]; exact r.repl k ry
  · rw [if_neg q, if_neg q]; exact Paired.snoc r ⟨rfl, rfl, ry⟩
theorem putN_len (L : List Ent) (k : KO) (a : Addr) (v : V) : (putN L k a v).length ≤ L.length + 1 := by
  unfold putN
  split
  · rw [List.length_map]; omega
  · rw [List.length_append, List.length_cons, List.length_nil]; omega
theorem mem_putN {L : List Ent} {k : KO} {a : Addr} {v : V} {x : Ent} (h : x ∈ putN L k a v) : (∃ y ∈ L, x.1 = y.1 ∧ x.2.1 = y.2.1) ∨ (x.1 = k ∧ x.2.1 = a) := by
  unfold putN at h
  split at h
  · obtain ⟨y, hy, rfl⟩ := List.mem_map.mp h
    refine .inl ⟨y, hy, ?_⟩
    split <;> exact ⟨rfl, rfl⟩
  · rcases List.mem_append.mp h with h | h
    · exact .inl ⟨x, h, rfl, rfl⟩
    · rw [List.mem_singleton.mp h]
      exact .inr ⟨rfl, rfl⟩
def DicP (P : Program) (w : World) (d : Addr) (L : List Ent) (h : Heap) : Prop := (d == sysModules) = false ∧ L.length ≤ sizeLine ∧ ∃ xs : List (NestedKey × Addr × Value), Pn L xs ∧
  ∃ o es ep, h.get? d = some o ∧ o.ExactDict ∧ o.data = .dict es ep ∧ es.toList = xs.map (entryOfKey (nestedKind P w)) ∧ (xs.map (·.1)).Nodup
def DicN (P : Program) (w : World) (d : Addr) (L : List Ent) : HO := .ext (DicP P w d L)
theorem DicN.code {P : Program} {w : World} {d : Addr} {L : List Ent} {q : Str} : DicN P w d L ≠ LamX.CodeO d q := fun e => by
  have e' := HO.ext.inj e
  have h1 : ∃ (oc : Obj) (vs : Array Value) (t : Tok), (⟨Array.replicate (d + 1) ⟨.none, none, .fields #[.none, .str q 0], #[]⟩, {}⟩ : Heap).get? d = some oc ∧ oc.data = .fields vs ∧ vs[1]? = some (.str q t) :=
    ⟨⟨.none, none, .fields #[.none, .str q 0], #[]⟩, _, 0, by simp [Heap.get?], rfl, rfl⟩
  have h2 : DicP P w d L (⟨Array.replicate (d + 1) ⟨.none, none, .fields #[.none, .str q 0], #[]⟩, {}⟩ : Heap) := by
    rw [e']
    exact h1
  obtain ⟨_, _, xs, _, o, es, ep, g, _, dt, _⟩ := h2
  obtain ⟨oc, vs, t, g', dt', _⟩ := h1
  rw [g] at g'
  cases g'
  rw [dt] at dt'
  cases dt'
section
variable {P : Program} {w : World} {T : List (Addr × Str)} {H H' : Hp} {K : Fg} {d p : Addr} {L : List Ent} {o : HO}
/-- a new dict is written -/
theorem Ex.mutD (e : Ex T H H') (h : New H p) (hp : H' p = some (DicN P w p L)) : Ex T H (upd H' p o) := by
  refine ⟨fun b v q nt => ?_, fun t => ?_⟩
  · have nb : b ≠ p := fun z => by
      rw [z] at q
      obtain ⟨ps, rfl⟩ := h v q
      exact nt ps rfl
    rw [upd_ne nb]
    exact e.ext b v q nt
  · intro q hq
    obtain ⟨ps, h1, h2, h3⟩ := e.tab t q hq
    have np : q.1 ≠ p := fun z => by
      rw [z, hp] at h1
      cases h1
    refine ⟨ps, by rw [upd_ne np]; exact h1, h2, fun pos cv hc => ?_⟩
    obtain ⟨c, e1, e2⟩ := h3 pos cv hc
    have nc : c ≠ p := fun z => by
      rw [z] at e2
      rw [hp] at e2
      exact DicN.code (Option.some.inj e2)
    exact ⟨c, e1, by rw [upd_ne nc]; exact e2⟩
structure DicAt (P : Program) (w : World) (K : Fg) (H : Hp) (d : Addr) (L : List Ent) : Prop where
  at_ : H d = some (DicN P w d L)
  keys : ∀ x ∈ L, SqT K H x.2.1 (x.1.map kx)
theorem Ex.dicAt (e : Ex T H H') (h : DicAt P w K H d L) : DicAt P w K H' d L := ⟨e.at h.at_, fun x hx => e.st (h.keys x hx)⟩
theorem DicAt.noTup (h : DicAt P w K H d L) : NoTup H d := noTup_of h.at_
theorem DicAt.put (h : DicAt P w K H d L) {k : KO} {a : Addr} (ha : SqT K H a (k.map kx)) (v : V) : DicAt P w K (upd H d (DicN P w d (putN L k a v))) d (putN L k a v) := by
  refine ⟨upd_same, fun x hx => sqt_upd h.noTup ?_⟩
  rcases mem_putN hx with ⟨y, hy, e1, e2⟩ | ⟨e1, e2⟩
  · rw [e1, e2]; exact h.keys y hy
  · rw [e1, e2]; exact ha
end
section
variable {X : Cx} {pins : List (Addr × Obj)} {σ : L2.St} {H : Hp} {s : Shared} {a d : Addr} {k : KO} {L : List Ent} {A : Around} {E : Value → Shared → Prop}
theorem nkey_all {h : Heap} : ∀ {k : KO} {us : List Value}, Vals (k.map kx) us → NestedAll h (k.map kn) us
  | [], _, r => by cases r; exact .nil
  | none :: k, _, r => by
    cases r with
    | cons h1 h2 => cases h1; exact .cons .none (nkey_all h2)
  | some i :: k, _, r => by
    cases r with
    | cons h1 h2 =>
      obtain ⟨t, rfl⟩ := h1
      exact .cons (.int i t) (nkey_all h2)
theorem kn_depth : ∀ k : KO, NestedKey.depthAll (k.map kn) = 0
  | [] => rfl
  | none :: k => by
    show max 0 (NestedKey.depthAll (k.map kn)) = 0
    rw [kn_depth k]; rfl
  | some i :: k => by
    show max 0 (NestedKey.depthAll (k.map kn)) = 0
    rw [kn_depth k]; rfl
theorem nkey_of (I : Inv X pins σ H s) (h : SqT X.K H a (k.map kx)) : (nestedKind X.prog X.w).is s.heap (nk k) a := by
  obtain ⟨its, r, ⟨o, h1, h2, n, h3⟩, _⟩ := I.tuple h
  refine ⟨.tup h1 h2 h3 (by simpa using nkey_all r), ?_⟩
  show NestedKey.depthAll (k.map kn) + 1 ≤ 8
  rw [kn_depth]
  decide
theorem din_of (I : Inv X pins σ H s) (h : DicAt X.prog X.w X.K H d L) : (d == sysModules) = false ∧ L.length ≤ sizeLine ∧ ∃ xs, Pn L xs ∧ s.heap.DictOfH (nestedKind X.prog X.w) d xs := by
  obtain ⟨⟨z, y, xs, r, o, es, ep, h1, h2, h3, h4, h5⟩, _⟩ := (show ObjOk X.prog X.w H s.heap d (DicN X.prog X.w d L) from I.hok d _ h.at_)
  refine ⟨z, y, xs, r, o, es, ep, h1, h2, h3, h4, fun x hx => ?_, h5⟩
  have all : ∀ {l : List Ent} {m : List (NestedKey × Addr × Value)}, Pn l m → (∀ x ∈ l, SqT X.K H x.2.1 (x.1.map kx)) → ∀ x ∈ m, (nestedKind X.prog X.w).is s.heap x.1 x.2.1 := by
    intro l m q
    induction q with
    | nil => intro _ x hx; exact nomatch hx
    | @cons p q ps qs hq t ih =>
      intro hl x hx
      rcases List.mem_cons.mp hx with e | hx
      · subst e
        rw [hq.1, hq.2.1]
        exact nkey_of I (hl p List.mem_cons_self)
      · exact ih (fun y hy => hl y (List.mem_cons_of_mem _ hy)) x hx
  exact all r h.keys x hx
theorem dnew_ok {P : Program} {w : World} {H' : Hp} {h' : Heap} {xs : List (NestedKey × Addr × Value)} (hd : (d == sysModules) = false) (z : L.length ≤ sizeLine) (r : Pn L xs) (dd : h'.DictOfH (nestedKind P w) d xs) :
    ObjOk P w H' h' d (DicN P w d L) := by
  obtain ⟨o, es, ep, h1, h2, h3, h4, _, h5⟩ := dd
  refine ⟨⟨hd, z, xs, r, o, es, ep, h1, h2, h3, h4, h5⟩, ⟨o, h1⟩, fun g1 g2 q e => ?_⟩
  obtain ⟨_, _, xs, r, o, es, ep, h1, h2, h3, h4, h5⟩ := q
  exact ⟨hd, z, xs, r, o, es, ep, e _ h1, h2, h3, h4, h5⟩
theorem nroom (hu : A.units + 64 < cLine) : (nestedKind X.prog X.w).room A.in1 := by
  show A.in1.units + 8 < cLine
  have : A.in1.units ≤ A.units + 1 := by first | exact Nat.le_refl _ | (simp [Around.in1, Around.units]) | (simp [Around.in1, Around.units]; omega)
  omega
end
end Sp
end
section
set_option Elab.async false
set_option linter.all false
set_option maxRecDepth 100000
set_option maxHeartbeats 4000000
set_option autoImplicit false
/-! Sp: the rules for dicts whose keys are tuples of whole numbers and None. -/
namespace Sp
open PySem PySem.Spec PyProof.Rows L2
/-! ### dicts as data -/
def dval (kvs : List (KO × D)) (k : KO) : Option D := (kvs.find? fun x => decide (x.1 = k)).map (·.2)
def dput (kvs : List (KO × D)) (k : KO) (v : D) : List (KO × D) :=
  if (dval kvs k).isSome then kvs.map (fun x => if x.1 = k then (x.1, v) else x) else kvs ++ [(k, v)]
def dputs (kvs : List (KO × D)) : List (KO × D) → List (KO × D)
  | [] => kvs
  | x :: r => dputs (dput kvs x.1 x.2) r
theorem dval_pos {p : KO × D} {r : List (KO × D)} {k : KO} (e : p.1 = k) : dval (p :: r) k = some p.2 := by simp [dval, List.find?_cons, e]
theorem dval_neg {p : KO × D} {r : List (KO × D)} {k : KO} (e : ¬ p.1 = k) : dval (p :: r) k = dval r k := by simp [dval, List.find?_cons, e]
abbrev DdR (K : Fg) (H : Hp) : Ent → KO × D → Prop := fun p q => q.1 = p.1 ∧ Tp K H p.2.2 q.2
abbrev Dd (K : Fg) (H : Hp) : List Ent → List (KO × D) → Prop := Paired (DdR K H)
section
variable {P : Program} {w : World} {T : List (Addr × Str)} {H H' : Hp} {K : Fg} {d p : Addr} {L : List Ent} {o : HO} {kvs : List (KO × D)}
def OptR (K : Fg) (H : Hp) : Option V → Option D → Prop
  | some v, some d => Tp K H v d
  | none, none => True
  | _, _ => False
theorem Dd.val (r : Dd K H L kvs) (k : KO) : OptR K H (valN L k) (dval kvs k) := by
  induction r with
  | nil => exact True.intro
  | @cons p q ps qs h t ih =>
    obtain ⟨h1, h2⟩ := h
    by_cases e : p.1 = k
    · rw [valN_pos e, dval_pos (h1.trans e)]; exact h2
    · rw [valN_neg e, dval_neg (fun z => e (h1.symm.trans z))]; exact ih
theorem OptR.isSome {a : Option V} {b : Option D} (h : OptR K H a b) : a.isSome = b.isSome := by
  cases a <;> cases b <;> first | rfl | exact h.elim
theorem OptR.some {a : Option V} {b : D} (h : OptR K H a (some b)) : ∃ v, a = some v ∧ Tp K H v b := by
  cases a with
  | none => exact h.elim
  | some v => exact ⟨v, rfl, h⟩
theorem OptR.getD {a : Option V} {b : Option D} (h : OptR K H a b) {x : V} {y : D} (hx : Tp K H x y) : Tp K H (a.getD x) (b.getD y) := by
  cases a <;> cases b <;> first | exact hx | exact h | exact h.elim
theorem Dd.repl (r : Dd K H L kvs) (k : KO) {v : V} {c : D} (hv : Tp K H v c) : Dd K H (L.map fun x => if x.1 = k then (x.1, x.2.1, v) else x) (kvs.map fun x => if x.1 = k then (x.1, c) else x) := by
  induction r with
  | nil => exact .nil
  | @cons p q ps qs h t ih =>
    rw [List.map_cons, List.map_cons]
    refine .cons ?_ ih
    obtain ⟨h1, h2⟩ := h
    by_cases e : p.1 = k
    · rw [if_pos e, if_pos (h1.trans e)]; exact ⟨h1, hv⟩
    · rw [if_neg e, if_neg (fun z => e (h1.symm.trans z))]; exact ⟨h1, h2⟩
theorem Dd.put (r : Dd K H L kvs) (k : KO) {a : Addr} {v : V} {c : D} (hv : Tp K H v c) : Dd K H (putN L k a v) (dput kvs k c) := by
  unfold putN dput
  rw [(r.val k).isSome]
  split
  · exact r.repl k hv
  · exact Paired.snoc r ⟨rfl, hv⟩
theorem Dd.mv (r : Dd K H L kvs) (e : ∀ v d, Tp K H v d → Tp K H' v d) : Dd K H' L kvs := Paired.mapP r fun _ _ z => ⟨z.1, e _ _ z.2⟩
structure DicD (P : Program) (w : World) (K : Fg) (H : Hp) (d : Addr) (kvs : List (KO × D)) : Prop where
  ex : ∃ L, DicAt P w K H d L ∧ Dd K H L kvs
theorem Ex.dic (e : Ex T H H') (h : DicD P w K H d kvs) : DicD P w K H' d kvs := by
  obtain ⟨L, h1, h2⟩ := h.ex
  exact ⟨L, e.dicAt h1, h2.mv fun _ _ => e.tp⟩
theorem DicAt.up (h : DicAt P w K H d L) (hp : NoTup H p) (n : p ≠ d) : DicAt P w K (upd H p o) d L := ⟨by rw [upd_ne (Ne.symm n)]; exact h.at_, fun x hx => sqt_upd hp (h.keys x hx)⟩
theorem DicD.up (h : DicD P w K H d kvs) (hp : NoTup H p) (n : p ≠ d) : DicD P w K (upd H p o) d kvs := by
  obtain ⟨L, h1, h2⟩ := h.ex
  exact ⟨L, h1.up hp n, h2.mv fun _ _ z => z.up hp⟩
theorem DicD.noTup (h : DicD P w K H d kvs) : NoTup H d := let ⟨_, h1, _⟩ := h.ex; h1.noTup
theorem DicD.mut (h : DicD P w K H' d kvs) (e : Ex T H H') (n : New H d) : Ex T H (upd H' d o) := let ⟨_, h1, _⟩ := h.ex; e.mutD n h1.at_
/-- d[k] = v on the abstract heap: H' behind it -/
def DPutN (P : Program) (w : World) (K : Fg) (H : Hp) (d : Addr) (k : KO) (v : V) (Q : Hp → Prop) : Prop := ∃ L a, DicAt P w K H d L ∧ SqT K H a (k.map kx) ∧ L.length < sizeLine ∧ Q (upd H d (DicN P w d (putN L k a v)))
theorem DicD.len {L : List Ent} (r : Dd K H L kvs) : L.length = kvs.length := Paired.length r
theorem DicD.put (h : DicD P w K H d kvs) {k : KO} {a : Addr} (ha : SqT K H a (k.map kx)) {v : V} {c : D} (hv : Tp K H v c) (hz : kvs.length < 100000) :
    ∃ L, DicAt P w K H d L ∧ L.length < sizeLine ∧ DicD P w K (upd H d (DicN P w d (putN L k a v))) d (dput kvs k c) := by
  obtain ⟨L, h1, h2⟩ := h.ex
  exact ⟨L, h1, sz_lt (by rw [DicD.len h2]; exact hz), ⟨_, h1.put ha v, (h2.put k hv).mv fun _ _ z => z.up h1.noTup⟩⟩
end
/-! ### operators -/
def rInN (P : Program) (w : World) (K : Fg) : R2 := fun x y H Q => ∃ d kvs k, y = .ref d ∧ DicD P w K H d kvs ∧ Tp K H x (kD k) ∧ Q (.bl (dval kvs k).isSome) H
def rNotInN (P : Program) (w : World) (K : Fg) : R2 := fun x y H Q => ∃ d kvs k, y = .ref d ∧ DicD P w K H d kvs ∧ Tp K H x (kD k) ∧ Q (.bl (!(dval kvs k).isSome)) H
def rIxN (P : Program) (w : World) (K : Fg) : R2 := fun x y H Q => ∃ d kvs k c, x = .ref d ∧ DicD P w K H d kvs ∧ Tp K H y (kD k) ∧ dval kvs k = some c ∧ ∀ v, Tp K H v c → Q v H
section
variable {X : Cx} {pins : List (Addr × Obj)} {σ : L2.St} {H : Hp} {s : Shared} {a d : Addr} {k : KO} {kvs : List (KO × D)} {A : Around} {E : Value → Shared → Prop}
theorem op_inN (hu : X.A.units + 65 < cLine) : OpR X (compareOp .In) (rInN X.prog X.w X.K) := fun pins s σ H x y v u Q I rx ry h => by
  obtain ⟨d, kvs, k, rfl, hd, hk, q⟩ := h
  obtain ⟨a, rfl, ha⟩ := tp_key hk
  obtain ⟨L, h1, h2⟩ := hd.ex
  obtain ⟨z, _, xs, r, dd⟩ := din_of I h1
  cases rx; cases ry
  refine wpAny_in_heap (nroom (X := X) (by omega)) (nkey_of I ha) z dd ?_
  rw [← r.some k, (h2.val k).isSome]
  exact ⟨.bl _, H, I.tok _, rfl, q⟩
theorem op_notInN (hu : X.A.units + 65 < cLine) : OpR X (compareOp .NotIn) (rNotInN X.prog X.w X.K) := fun pins s σ H x y v u Q I rx ry h => by
  obtain ⟨d, kvs, k, rfl, hd, hk, q⟩ := h
  obtain ⟨a, rfl, ha⟩ := tp_key hk
  obtain ⟨L, h1, h2⟩ := hd.ex
  obtain ⟨z, _, xs, r, dd⟩ := din_of I h1
  cases rx; cases ry
  refine wpAny_notIn_heap (nroom (X := X) (by omega)) (nkey_of I ha) z dd ?_
  rw [← r.some k, (h2.val k).isSome]
  exact ⟨.bl _, H, I.tok _, rfl, q⟩
/-- d[k] -/
theorem pe_ixN {o i : Expr} {pos : Pos} {td ty : TE} (hu : X.A.units + 65 < cLine) (ho : PE X o td) (hi : PE X i ty) (hs : NoSl i) : PE X (.Subscript o i pos) (tOp (rIxN X.prog X.w X.K) td ty) := by
  refine ⟨fun pins s σ H Q I h => ?_⟩
  refine subD_of PySem.F.slot_dict_getitem.lookup hs (thn (ho.run pins s σ H _ I h) fun u s1 ⟨x, H1, I1, rx, q1⟩ => thn (hi.run pins s1 σ H1 _ I1 q1) fun iv s2 ⟨y, H2, I2, ry, d, kvs, k, c, ex, hd, hk, hv, q2⟩ => ?_)
  subst ex
  obtain ⟨a, rfl, ha⟩ := tp_key hk
  obtain ⟨L, h1, h2⟩ := hd.ex
  obtain ⟨z, _, xs, r, dd⟩ := din_of I2 h1
  cases rx; cases ry
  have hval := h2.val k
  rw [hv] at hval
  obtain ⟨v, ev, tv⟩ := hval.some
  have rv := r.val k
  rw [ev] at rv
  obtain ⟨u, eu, ru⟩ := RelO.some_of rv
  obtain ⟨p, hp, rfl⟩ := Option.map_eq_some_iff.mp eu
  exact ⟨dd.typeIs, wpAny_getItem_heap (nroom (X := X) (by omega)) (nkey_of I2 ha) dd hp ⟨v, H2, I2.tok _, ru, q2 v tv⟩⟩
/-- d.get(k, x) -/
def tDGetN (P : Program) (w : World) (K : Fg) (td ty tx : TE) : TE := fun σ H Q => td σ H fun x H1 => ∃ d kvs, x = .ref d ∧ DicD P w K H1 d kvs ∧ ty σ H1 fun y H2 => ∃ k, Tp K H2 y (kD k) ∧ tx σ H2 fun z H3 => DicD P w K H3 d kvs ∧ Tp K H3 y (kD k) ∧ ∃ c, Tp K H3 z c ∧ ∀ v, Tp K H3 v ((dval kvs k).getD c) → Q v H3
theorem pe_dgetN {o e f : Expr} {apos cpos : Pos} {td ty tx : TE} (hu : X.A.units + 65 < cLine) (ho : PE X o td) (he : PE X e ty) (hf : PE X f tx) (m : M2 X o "get" apos e f cpos) : PE X (.Call (.Attribute o "get" apos) [e, f] [] cpos) (tDGetN X.prog X.w X.K td ty tx) := by
  refine ⟨fun pins s σ H Q I h => ?_⟩
  refine wpAny_Call_method m.base m.few m.line PySem.F.plainAttrs_dict PySem.F.slot_dict_get PySem.F.type_dict_get (thn (ho.run pins s σ H _ I h) fun u s1 ⟨x, H1, I1, rx, d, kvs, ex, hd, q1⟩ => ?_)
  subst ex
  obtain rfl : u = Value.ref d := rx
  obtain ⟨L, h1, _⟩ := hd.ex
  obtain ⟨z, _, xs, r, dd⟩ := din_of I1 h1
  refine ⟨dd.typeIs, fun b q => ?_, ?_⟩
  · cases q
    obtain ⟨ob, _, _, g1, g2, _⟩ := dd
    exact ⟨ob, g1, g2.2.1⟩
  rw [m.trees]
  refine Calls.callWith_builtin rfl (Calls.evalArgs_plain (Calls.spliced_cons (thn (he.run pins s1 σ H1 _ I1 q1) fun iv s2 ⟨y, H2, I2, ry, k, hk0, q2⟩ =>
    Calls.spliced_cons (thn (hf.run pins s2 σ H2 _ I2 q2) fun fv s3 ⟨zz, H3, I3, rz, hd3, hk, c, hc, q3⟩ => Calls.spliced_nil ?_))))
  obtain ⟨a, rfl, ha⟩ := tp_key hk
  obtain ⟨L, h1, h2⟩ := hd3.ex
  obtain ⟨z, _, xs, r, dd⟩ := din_of I3 h1
  cases ry
  refine call_meetsIn PySem.F.slot_dict_get dd.typeIs PySem.F.entry_dict_get (PySem.F.args_dict_get_3 _ _ _) (meetsH_dict_get_default (nestedKind X.prog X.w) d a z fv) ⟨nroom (X := X) (by omega), nk k, xs, nkey_of I3 ha, dd, ?_⟩
  exact ⟨(valN L k).getD zz, H3, I3.tok _, (r.val k).getD rz, q3 _ ((h2.val k).getD hc)⟩
/-- {} -/
def tDNewN (P : Program) (w : World) : TE := fun _ H Q => ∀ p, H p = none → Q (.ref p) (upd H p (DicN P w p []))
theorem dn_empty {P : Program} {w : World} {H : Hp} (h : Heap) (hb : sysModules < h.objs.size) : ObjOk P w H (h.push { cls := .type "dict", data := .dict #[] }) h.objs.size (DicN P w h.objs.size []) :=
  dnew_ok (beq_eq_false_iff_ne.mpr (Nat.ne_of_gt hb)) (Nat.zero_le _) .nil (Heap.DictOfH.new h)
theorem DicAt.new {P : Program} {w : World} {K : Fg} {H : Hp} {p : Addr} : DicAt P w K (upd H p (DicN P w p [])) p [] := ⟨upd_same, fun _ h => nomatch h⟩
theorem DicD.new {P : Program} {w : World} {K : Fg} {H : Hp} {p : Addr} : DicD P w K (upd H p (DicN P w p [])) p [] := ⟨[], .new, .nil⟩
theorem pe_dnewN {pos : Pos} : PE X (.Dict [] [] pos) (tDNewN X.prog X.w) := ⟨fun pins s σ H Q I h => by
  have e := I.big
  first
    | exact wpAny_Dict_empty ⟨.ref _, _, I.laid (t' := s.toks) (fun b o e => Heap.get?_push_of_some _ e) (Nat.le_refl _) (dn_empty s.heap I.big), rfl, h _ (I.hok.fresh (Nat.le_refl _))⟩
    | skip⟩
end
end Sp
end
section
set_option Elab.async false
set_option linter.all false
set_option maxRecDepth 100000
set_option maxHeartbeats 4000000
set_option autoImplicit false
/-! Sp: dicts whose keys are tuples of whole numbers and None: stores, comprehensions, dict(pairs), list(d). -/
namespace Sp
open PySem PySem.Spec PyProof.Rows L2
section
variable {X : Cx} {pins : List (Addr × Obj)} {σ : L2.St} {H : Hp} {s : Shared} {a d : Addr} {k : KO} {L : List Ent} {A : Around} {E : Value → Shared → Prop}
/-- d[k] = v -/
def sDPutN (P : Program) (w : World) (K : Fg) (td ty tv : TE) : TS := fun De σ H => tv σ H fun v H1 => td σ H1 fun x H2 => ty σ H2 fun y H3 => ∃ d L k a, x = .ref d ∧ DicAt P w K H3 d L ∧ y = .ref a ∧ SqT K H3 a (k.map kx) ∧ L.length < sizeLine ∧
  De.nx σ (upd H3 d (DicN P w d (putN L k a v)))
theorem ps_dputN {o i value : Expr} {pos pos' : Pos} {td ty tv : TE} (hu : X.A.units + 65 < cLine) (ho : PE X o td) (hi : PE X i ty) (hv : PE X value tv) (hs : swapsWith value (some (.Subscript o i pos')) pos.line X.env = pure false) :
    PS X (.Assign [.Subscript o i pos'] value pos) (sDPutN X.prog X.w X.K td ty tv) := by
  refine ⟨fun pins s σ H De I h => ?_⟩
  refine wpAny_Assign_Subscript (thn (hv.run pins s σ H _ I h) fun r s1 ⟨v, H1, I1, rv, q1⟩ => thn (ho.run pins s1 σ H1 _ I1 q1) fun u s2 ⟨x, H2, I2, rx, q2⟩ => thn (hi.run pins s2 σ H2 _ I2 q2) fun iv s3 ⟨y, H3, I3, ry, d, L, k, a, ex, hd, ey, hk, hz, q3⟩ => ?_) hs
  subst ex ey
  cases rx; cases ry
  obtain ⟨z, hl, xs, r', dd⟩ := din_of I3 hd
  have hlx : L.length = xs.length := Paired.length r'
  refine wpAny_setItem_heap (hsz := by rw [← hlx]; exact hl) (nroom (X := X) (by omega)) (nkey_of I3 hk) dd fun h' dd' hs => ?_
  have hl' : (putN L k a v).length ≤ sizeLine := by have := putN_len L k a v; omega
  obtain ⟨o, es, ep, g1, g⟩ := id dd'
  exact ⟨σ, _, d_write I3 (by rw [hd.at_]; exact True.intro) hs ⟨o, g1⟩ (dnew_ok z hl' (r'.put k rv) dd'), q3⟩
/-- d[k] = v by a comprehension -/
theorem dsetN {v : V} {r : Value} {Q : Unit → Shared → Prop} (hu : X.A.units + 65 < cLine) (I : Inv X pins σ H s) (hd : DicAt X.prog X.w X.K H d L) (hz : L.length < sizeLine) (hk : SqT X.K H a (k.map kx)) (rv : RelV v r)
    (h : ∀ s', Inv X pins σ (upd H d (DicN X.prog X.w d (putN L k a v))) s' → Q () s') : wpAny (model X.prog X.w) X.A (dictSet d (.ref a) r) Q E s := by
  obtain ⟨z, hl, xs, r', dd⟩ := din_of I hd
  have hlx : L.length = xs.length := Paired.length r'
  refine wpAny_dictSet_heap (hsz := by rw [← hlx]; exact hl) (show X.A.units + 8 < cLine by omega) (nkey_of I hk) dd fun h' dd' hs => h _ ?_
  have hl' : (putN L k a v).length ≤ sizeLine := by have := putN_len L k a v; omega
  obtain ⟨o, es, ep, g1, g⟩ := id dd'
  exact d_write I (by rw [hd.at_]; exact True.intro) hs ⟨o, g1⟩ (dnew_ok z hl' (r'.put k rv) dd')
end
/-! ### comprehensions -/
/-- {k: v for target in iter if ..}, keys tuples; behind what it walks -/
def DcG (P : Program) (w : World) (K : Fg) (J : It) (g : TG) (tt : TT) (tk tv : TE) (vs : List Nat) (σ : L2.St) (H1 : Hp) (Q : VK) : Prop := ∀ D, H1 D = none → ∃ W : Nat → Nat → Hp → Prop, (∃ m, W 0 m (upd H1 D (DicN P w D []))) ∧ ∀ i m H, W i m H →
  (J.stop i H ∧ Q (.ref D) H) ∨ (J.go i H ∧ ∃ Nx : Hp → Prop, (∀ H', Nx H' → ∃ m', m' < m ∧ W (i + 1) m' H') ∧ ∀ x H', J.yld i H x H' → g x (wipe σ vs) H' fun σ2 H2 => wipe σ2 vs = wipe σ vs ∧ tt σ2 H2 fun b H3 =>
    if b = true then tk σ2 H3 fun y H4 => tv σ2 H4 fun z H5 => ∃ L k a, y = .ref a ∧ SqT K H5 a (k.map kx) ∧ DicAt P w K H5 D L ∧ L.length < sizeLine ∧ Nx (upd H5 D (DicN P w D (putN L k a z))) else Nx H3)
def tDcN (P : Program) (w : World) (K : Fg) (wi : TI) (g : TG) (tt : TT) (tk tv : TE) (vs : List Nat) : TE := fun σ H Q => wi σ H fun J H1 => DcG P w K J g tt tk tv vs σ H1 Q
theorem st_dcN {P : Program} {w : World} {K : Fg} {wi : TI} {g : TG} {tt : TT} {tk tv : TE} {vs : List Nat} {σ : L2.St} {H : Hp} {Q : VK} (q : wi σ H fun J H1 => DcG P w K J g tt tk tv vs σ H1 Q) : tDcN P w K wi g tt tk tv vs σ H Q := q
section
variable {X : Cx}
theorem pe_dcN {kx vx tg iter : Expr} {ifs : List Expr} {scope : Scope} {own : List (Str × Nat)} {pos : Pos} {wi : TI} {g : TG} {tt : TT} {tk tv : TE} (hu : X.A.units + 65 < cLine) (hc : X.calm = true) (hN : X.N.Nodup) (hi : PI X tg iter wi) (ok : BlkOk X.N X.env.scope scope own)
    (hg : ∀ (s : Shared) (H : Hp) (C : Addr) (cl : List (Str × Addr)) (fp : List Addr), PG (X.blk s H scope (compEnvC scope cl C X.env) fp) tg g) (ht : ∀ (s : Shared) (H : Hp) (C : Addr) (cl : List (Str × Addr)) (fp : List Addr), PTs (X.blk s H scope (compEnvC scope cl C X.env) fp) ifs tt)
    (hk : ∀ (s : Shared) (H : Hp) (C : Addr) (cl : List (Str × Addr)) (fp : List Addr), PE (X.blk s H scope (compEnvC scope cl C X.env) fp) kx tk)
    (he : ∀ (s : Shared) (H : Hp) (C : Addr) (cl : List (Str × Addr)) (fp : List Addr), PE (X.blk s H scope (compEnvC scope cl C X.env) fp) vx tv) (hs : ∀ x, foldedSetIterable iter X.env x = pure x := by intro _; rfl) :
    PE X (.DictComp kx vx [⟨tg, iter, ifs, 0⟩] scope pos) (tDcN X.prog X.w X.K wi g tt tk tv (own.map (·.2))) := by
  refine ⟨fun pins s σ H Q I h => ?_⟩
  rw [arm_eval_DictComp]
  have hfree : ∀ y ∈ scope.names, y.2 = .free → ∃ c, X.env.cells.lookup y.1 = some c := fun y hy e => by
    rcases ok.free y hy e with k | k
    · exact I.ok.has _ (.inl k)
    · exact I.ok.has _ (.inr k)
  refine wpAny_comprehension_free (use := none) rfl hs (closure_ok hfree) ok.kind (fun y hy e => by rw [ok.uniq y hy, e])
    (thn (hi.run pins s σ H _ I h) fun xv s1 hx => thn hx fun itv s2 h2 => ?_)
  obtain ⟨it, fp, tn, J, H2, e, I2, T, st2, f2, q⟩ := h2
  subst e
  refine wpAny_newObj_type (newEnv_comp ?_)
  generalize hD : s2.heap.objs.size = D
  have hDn : H2 D = none := I2.hok.fresh (Nat.le_of_eq hD)
  obtain ⟨W, ⟨m0, w0⟩, turn⟩ := q D hDn
  generalize hs3 : ({ s2 with heap := s2.heap.push { cls := .type "dict", data := .dict #[] } } : Shared) = s3
  generalize hV : DicN X.prog X.w D [] = dv at w0
  have I3 : Inv X pins σ (upd H2 D dv) s3 := by
    rw [← hs3, ← hV]
    refine I2.laid (t' := s2.toks) (fun b o e => Heap.get?_push_of_some _ e) (Nat.le_of_eq hD) ?_
    rw [← hD]
    exact dn_empty s2.heap I2.big
  have h3 : s3.heap = s2.heap.push { cls := .type "dict", data := .dict #[] } := by rw [← hs3]
  have sz : ∀ b ∈ fp, b < s2.heap.objs.size := fun b hb => by
    obtain ⟨o, e, _⟩ := T.obj _ _ st2 b hb
    exact Heap.lt_size e
  have f3 : ∀ b ∈ fp, FpOk X pins (upd H2 D dv) b ∧ b < s3.heap.objs.size := fun b hb => by
    have hlt := sz b hb
    refine ⟨⟨?_, (f2 b hb).2⟩, by rw [h3, Heap.size_push]; exact Nat.lt_succ_of_lt hlt⟩
    rw [upd_ne (by rw [← hD]; exact Nat.ne_of_lt hlt)]
    exact (f2 b hb).1
  have st3 : tn 0 s3.heap := T.keep _ _ _ st2 fun b _ o e => by rw [h3]; exact Heap.get?_push_of_some _ e
  have I4 := block_start I3 ok hN f3
  have pg := hg s3 (upd H2 D dv) s3.heap.objs.size (cellsFrom (s3.heap.objs.size + 1) scope.names (cloFrom X.env.cells scope.names [])) fp
  have pt := ht s3 (upd H2 D dv) s3.heap.objs.size (cellsFrom (s3.heap.objs.size + 1) scope.names (cloFrom X.env.cells scope.names [])) fp
  have pk := hk s3 (upd H2 D dv) s3.heap.objs.size (cellsFrom (s3.heap.objs.size + 1) scope.names (cloFrom X.env.cells scope.names [])) fp
  have pe := he s3 (upd H2 D dv) s3.heap.objs.size (cellsFrom (s3.heap.objs.size + 1) scope.names (cloFrom X.env.cells scope.names [])) fp
  show codeAny _ _ (.compStart (.DictComp kx vx [⟨tg, iter, ifs, 0⟩] scope pos) 0 (.ref it) (.ref D) (compEnvC scope (cellsFrom (s3.heap.objs.size + 1) scope.names (cloFrom X.env.cells scope.names [])) s3.heap.objs.size X.env)) (compPost (model X.prog X.w) X.A X.xe none (EP X pins σ Q) (.ref D) s3.heap.objs.size) { s3 with heap := pushCells (s3.heap.push { cls := .type "dict", data := .dict #[] }) scope.names }
  have nfp : ∀ b ∈ fp, (upd H2 D dv) b = none := fun b hb => (f3 b hb).1.1
  generalize hce : compEnvC scope (cellsFrom (s3.heap.objs.size + 1) scope.names (cloFrom X.env.cells scope.names [])) s3.heap.objs.size X.env = ce at I4 pg pt pk pe ⊢
  have cL : ce.locals = s3.heap.objs.size := by subst hce; rfl
  generalize hH3 : upd H2 D dv = H3 at I3 I4 pg pt pk pe w0 nfp f3
  generalize hs4 : ({ s3 with heap := pushCells (s3.heap.push { cls := .type "dict", data := .dict #[] }) scope.names } : Shared) = s4 at I4 ⊢
  have st4 : tn 0 s4.heap := T.keep _ _ _ st3 fun b _ o e => by rw [← hs4]; exact pushCells_keeps _ _ _ _ (Heap.get?_push_of_some _ e)
  have stat : ∀ {σ' : L2.St} {H' : Hp} {s' : Shared}, Inv (X.blk s3 H3 scope ce fp) [] σ' H' s' → (∀ b ∈ fp, H' b = none) → ∀ b ∈ fp, FpOk (X.blk s3 H3 scope ce fp) [] H' b := fun {σ' H' s'} I' hn b hb =>
    ⟨hn b hb, (I'.ok.exf b hb).1, I'.ok.exfs b hb, .inl hb, fun x c e => (I'.ok.exf b hb).2 x c e, fun p hp => absurd (show p ∈ ([] : List (Addr × Obj)) ++ [] from hp) (by simp)⟩
  have loop : codeAny (model X.prog X.w) X.A (.compLoop (.DictComp kx vx [⟨tg, iter, ifs, 0⟩] scope pos) 0 (.ref it) (.ref D) ce) (compPost (model X.prog X.w) X.A X.xe none (EP X pins σ Q) (.ref D) s3.heap.objs.size) s4 := by
    refine compLoop_anyD (fun n s' => ∃ i H', Inv (X.blk s3 H3 scope ce fp) [] (wipe σ (own.map (·.2))) H' s' ∧ tn i s'.heap ∧ (∀ b ∈ fp, H' b = none) ∧ W i n H') ?_ m0 ⟨0, H3, I4, st4, nfp, w0⟩
    rintro n s5 ⟨i, H5, I5, st5, n5, w5⟩
    rcases turn i n H5 w5 with ⟨stop, qq⟩ | ⟨go, Nx, hNx, step⟩
    · have td := T.done (X.blk s3 H3 scope ce fp) rfl rfl rfl hc i [] s5 _ H5 (fun _ _ => False) I5 (stat I5 n5) st5 stop
      refine thnF td fun r s6 ⟨hr, I6⟩ => ?_
      subst hr
      have I7 : Inv X pins σ H5 s6 := I3.call' (ch := fp) I6.os I6.base I6.hok I6.bare fun b hb => ⟨(f3 b hb).1.2.2.2.1, (f3 b hb).1.2.1, (f3 b hb).1.2.2.2.2.1, (f3 b hb).1.2.2.2.2.2⟩
      have nC : H5 s3.heap.objs.size = none := by
        have z : H5 ce.locals = none := I6.free
        rw [cL] at z
        exact z
      obtain ⟨m, hn, _⟩ := I6.loc
      have hn : s6.heap.Ns ce.locals m := hn
      rw [cL] at hn
      refine ⟨m, hn, fun h'' sb => ?_⟩
      obtain ⟨f0, f1, f2, f3, f4, f5⟩ := I3.fpOk (Nat.le_refl _) nC
      exact ⟨.ref D, H5, I7.turned (t' := s6.toks) (fun b o hb e => (sb.2 b hb).trans e) f0 f1 f3 f4 f5, rfl, qq⟩
    · have ti := T.item (X.blk s3 H3 scope ce fp) rfl rfl rfl hc i [] s5 _ H5 (fun _ _ => False) I5 (stat I5 n5) st5 go
      refine thnF ti fun r s6 ⟨u, hr, h6⟩ => ?_
      subst hr
      refine thnF h6 fun _ s7 ⟨x, H7, I7, r7, y7, st7, n7⟩ => ?_
      have I7' := I7.pinned (stat I7 n7) (T.obj _ _ st7)
      refine thnF (pg.run _ s7 _ H7 x u _ I7' r7 (step x H7 y7)) fun _ s8 ⟨σ8, H8, I8, hw8, q8⟩ => ?_
      refine thnF (pt.run _ s8 σ8 H8 _ I8 q8) fun b s9 ⟨H9, I9, q9⟩ => ?_
      have fin : ∀ {s' : Shared} {H' : Hp}, Inv (X.blk s3 H3 scope ce fp) ([] ++ pinsAt fp s7.heap) σ8 H' s' → Nx H' → ∃ m, m < n ∧ ∃ i H', Inv (X.blk s3 H3 scope ce fp) [] (wipe σ (own.map (·.2))) H' s' ∧ tn i s'.heap ∧ (∀ b ∈ fp, H' b = none) ∧ W i m H' := fun {s' H'} I' nx => by
        obtain ⟨m', hm, w'⟩ := hNx H' nx
        have pin' : ∀ b ∈ fp, ∀ o, s7.heap.get? b = some o → s'.heap.get? b = some o ∧ H' b = none := fun b hb o e =>
          let z := I'.pin (b, o) (List.mem_append_right _ (List.mem_append_right _ (mem_pinsAt hb e)))
          ⟨z.1, z.2.1⟩
        have hl : (wipe σ (own.map (·.2))).length = σ8.length := by rw [← hw8, wipe_length]
        refine ⟨m', hm, i + 1, H', (I'.unpinned (pins := [])).weak hl (fun j v e => ?_), T.keep _ _ _ st7 fun b hb o e => (pin' b hb o e).1, fun b hb => ?_, w'⟩
        · rw [← hw8] at e
          exact (wipe_some e).1
        · obtain ⟨o, e, _⟩ := T.obj _ _ st7 b hb
          exact (pin' b hb o e).2
      cases b with
      | false =>
        simp only [Bool.false_eq_true, if_false] at q9 ⊢
        exact fin I9 q9
      | true =>
        simp only [if_true] at q9 ⊢
        refine thnF (pk.run _ s9 σ8 H9 _ I9 q9) fun z s10 ⟨yk, H10, I10, r10, q10⟩ => ?_
        refine thnF (pe.run _ s10 σ8 H10 _ I10 q10) fun z2 s11 ⟨yv, H11, I11, r11, L, k, a, ek, hk11, hD11, hz11, nx⟩ => ?_
        subst ek
        cases r10
        exact dsetN (X := X.blk s3 H3 scope ce fp) hu I11 hD11 hz11 hk11 r11 fun s12 I12 => fin I12 nx
  exact codeAny_compStart_dict loop (T.self X.A 0 _ _ _ st4 loop)
end
end Sp
end
section
set_option Elab.async false
set_option linter.all false
set_option maxRecDepth 100000
set_option maxHeartbeats 4000000
set_option autoImplicit false
/-! Sp: dict comprehensions over tuples, dict(pairs), list(d). -/
namespace Sp
open PySem PySem.Spec PyProof.Rows L2
theorem dval_any (kvs : List (KO × D)) (k : KO) : (dval kvs k).isSome = true ↔ k ∈ kvs.map (·.1) := by
  unfold dval
  rw [Option.isSome_map, List.find?_isSome]
  constructor
  · rintro ⟨x, hx, e⟩
    rw [← of_decide_eq_true e]
    exact List.mem_map_of_mem hx
  · intro h
    obtain ⟨x, hx, e⟩ := List.mem_map.mp h
    exact ⟨x, hx, decide_eq_true e⟩
theorem dput_new {kvs : List (KO × D)} {k : KO} {c : D} (h : k ∉ kvs.map (·.1)) : dput kvs k c = kvs ++ [(k, c)] := by
  unfold dput
  rw [if_neg (fun e => h ((dval_any kvs k).mp e))]
theorem dput_len (kvs : List (KO × D)) (k : KO) (c : D) : (dput kvs k c).length ≤ kvs.length + 1 := by
  unfold dput
  split
  · rw [List.length_map]; omega
  · rw [List.length_append, List.length_cons, List.length_nil]; omega
theorem dputs_snoc (kvs : List (KO × D)) : ∀ (l : List (KO × D)) (x : KO × D), dputs kvs (l ++ [x]) = dput (dputs kvs l) x.1 x.2 := by
  intro l
  induction l generalizing kvs with
  | nil => intro x; rfl
  | cons y l ih => intro x; exact ih _ x
theorem dputs_len : ∀ (l kvs : List (KO × D)), (dputs kvs l).length ≤ kvs.length + l.length
  | [], _ => by simp [dputs]
  | y :: l, kvs => by
    have h1 := dputs_len l (dput kvs y.1 y.2)
    have h2 := dput_len kvs y.1 y.2
    rw [List.length_cons]
    show (dputs (dput kvs y.1 y.2) l).length ≤ _
    omega
theorem dputs_nodup : ∀ (l kvs : List (KO × D)), ((kvs ++ l).map (·.1)).Nodup → dputs kvs l = kvs ++ l
  | [], kvs, _ => by simp [dputs]
  | y :: l, kvs, h => by
    have hn : y.1 ∉ kvs.map (·.1) := fun hm => by
      rw [List.map_append, List.nodup_append] at h
      exact h.2.2 _ hm _ (by simp) rfl
    show dputs (dput kvs y.1 y.2) l = _
    rw [dput_new hn, dputs_nodup l _ (by simpa using h)]
    simp
section
variable {P : Program} {w : World} {T : List (Addr × Str)} {K : Fg} {α : Type} {g : TG} {tt : TT} {tk tv : TE} {vs : List Nat} {σ : L2.St} {H : Hp} {Q : VK} {a : Addr} {xs : List V}
def DcTurn (T : List (Addr × Str)) (K : Fg) (g : TG) (tt : TT) (tk tv : TE) (vs : List Nat) (σ : L2.St) (H : Hp) (b : Bool) (k : KO) (d : D) (x : V) : Prop :=
  ∀ (Yes : V → V → Hp → Prop) (No : Hp → Prop), (b = true → ∀ y z H4, Ex T H H4 → Tp K H4 y (kD k) → Tp K H4 z d → Yes y z H4) → (b = false → ∀ H3, Ex T H H3 → No H3) →
    g x (wipe σ vs) H fun σ2 H2 => wipe σ2 vs = wipe σ vs ∧ tt σ2 H2 fun c H3 => if c = true then tk σ2 H3 fun y H4 => tv σ2 H4 fun z H5 => Yes y z H5 else No H3
structure DcPr (P : Program) (w : World) (T : List (Addr × Str)) (K : Fg) (H : Hp) (L : Addr) (kvs : List (KO × D)) (H' : Hp) : Prop where
  new : New H L
  ex : Ex T H H'
  at_ : DicD P w K H' L kvs
def keptD (b : α → Bool) (G : α → KO × D) (l : List α) : List (KO × D) := (l.filter b).map G
theorem keptD_snoc {b : α → Bool} {G : α → KO × D} {l : List α} {z : α} {i : Nat} (h : l[i]? = some z) : keptD b G (l.take (i + 1)) = if b z = true then keptD b G (l.take i) ++ [G z] else keptD b G (l.take i) := by
  unfold keptD
  rw [List.take_succ, h]
  simp only [Option.toList_some, List.filter_append, List.map_append]
  cases hb : b z with
  | true => simp [hb]
  | false => simp [hb]
theorem keptD_len {b : α → Bool} {G : α → KO × D} {l : List α} {i : Nat} : (keptD b G (l.take i)).length ≤ i := by
  unfold keptD
  rw [List.length_map]
  exact Nat.le_trans (List.length_filter_le _ _) (by rw [List.length_take]; exact Nat.min_le_left _ _)
/-- over a tuple -/
theorem dcT {l : List α} {enc : α → D} (b : α → Bool) (G : α → KO × D) (hs : SqT K H a xs) (hx : TpAll K H xs (l.map enc)) (hz : l.length ≤ 100000)
    (turn : ∀ z x H1, z ∈ l → Ex T H H1 → Tp K H1 x (enc z) → DcTurn T K g tt tk tv vs σ H1 (b z) (G z).1 (G z).2 x)
    (fin : ∀ p H', New H p → Ex T H H' → DicD P w K H' p (dputs [] ((l.filter b).map G)) → Q (.ref p) H') : DcG P w K (Itt K a) g tt tk tv vs σ H Q := by
  intro L hL
  have hlen : xs.length = l.length := by rw [hx.len, List.length_map]
  refine ⟨fun i m H' => m = xs.length - i ∧ i ≤ xs.length ∧ DcPr P w T K H L (dputs [] (keptD b G (l.take i))) H', ⟨xs.length, by simp, Nat.zero_le _, .of hL, .new hL, by rw [List.take_zero]; exact .new⟩, ?_⟩
  rintro i m H1 ⟨rfl, hi, p⟩
  have q := p.ex.st hs
  by_cases hlt : i < xs.length
  · refine .inr ⟨⟨xs, xs[i], q, by simp [hlt]⟩, fun H' => DcPr P w T K H L (dputs [] (keptD b G (l.take (i + 1)))) H', fun H' p' => ⟨xs.length - (i + 1), by omega, rfl, hlt, p'⟩, fun x H' y => ?_⟩
    obtain ⟨e, y⟩ := y
    subst e
    obtain ⟨z, hz', hxz⟩ := hx.src (y xs q)
    have hil : i < l.length := by omega
    have hk := keptD_snoc (b := b) (G := G) hz'
    have hn : (dputs [] (keptD b G (l.take i))).length ≤ i := Nat.le_trans (dputs_len _ _) (by rw [List.length_nil, Nat.zero_add]; exact keptD_len)
    refine turn z x H' (List.mem_of_getElem? hz') p.ex (p.ex.tp hxz) _ _ (fun hb y2 z2 H4 e hy hz2 => ?_) (fun hb H3 e => ?_)
    · obtain ⟨a2, rfl, ha⟩ := tp_key hy
      have dn := e.dic p.at_
      obtain ⟨L2, d1, d2, d3⟩ := dn.put ha hz2 (by omega)
      refine ⟨L2, (G z).1, a2, rfl, ha, d1, d2, p.new, dn.mut (p.ex.trans e) p.new, ?_⟩
      rw [hk, if_pos hb, dputs_snoc]
      exact d3
    · refine ⟨p.new, p.ex.trans e, ?_⟩
      rw [hk, if_neg (by rw [hb]; decide)]
      exact e.dic p.at_
  · have e : i = xs.length := by omega
    subst e
    refine .inl ⟨⟨xs, q, Nat.le_refl _⟩, fin L H1 p.new p.ex ?_⟩
    have := p.at_
    rw [hlen, List.take_length] at this
    exact this
end
/-! ### dict(l), l a list of pairs -/
section
variable {X : Cx}
def rDictN (P : Program) (w : World) (K : Fg) : List V → Hp → VK → Prop := fun vs H Q => ∃ a xs kvs, vs = [.ref a] ∧ SqL K H a xs ∧ TpAll K H xs (kvs.map fun x : KO × D => PyData.tuple [kD x.1, x.2]) ∧
  ∀ p L, H p = none → DicD P w K (upd H p (DicN P w p L)) p (dputs [] kvs) → Q (.ref p) (upd H p (DicN P w p L))
structure PrOk (K : Fg) (prog : Program) (w : World) (H : Hp) (h : Heap) (kvs : List (KO × D)) (its : List Value) (ps : List (NestedKey × Addr × Value)) (Ts : List Addr) (L : List Ent) : Prop where
  rel : Pn L ps
  dat : Dd K H L kvs
  keys : ∀ x ∈ L, SqT K H x.2.1 (x.1.map kx)
  len : its.length = kvs.length
  lenT : Ts.length = kvs.length
  pair : ∀ (j : Nat) (p : NestedKey × Addr × Value), ps[j]? = some p → ∃ A : Addr, Ts[j]? = some A ∧ its[j]? = some (Value.ref A) ∧ PairAt h A (Value.ref p.2.1) p.2.2
theorem pr_of {pins : List (Addr × Obj)} {σ : L2.St} {H : Hp} {s : Shared} (I : Inv X pins σ H s) : ∀ {kvs : List (KO × D)} {xs : List V} {its : List Value}, TpAll X.K H xs (kvs.map fun x : KO × D => PyData.tuple [kD x.1, x.2]) → Vals xs its →
    ∃ ps Ts L, PrOk X.K X.prog X.w H s.heap kvs its ps Ts L
  | [], _, _, t, r => by
    cases t; cases r
    exact ⟨[], [], [], .nil, .nil, fun _ h => (nomatch h), rfl, rfl, fun j p h => by simp at h⟩
  | (k, c) :: kvs, _, _, t, r => by
    rw [List.map_cons] at t
    cases t with
    | cons t1 t2 =>
      cases r with
      | cons r1 r2 =>
        obtain ⟨ps, Ts, L, h⟩ := pr_of I t2 r2
        obtain ⟨A, ys, rfl, hA, hy⟩ := tp_tup t1
        cases r1
        cases hy with
        | cons y1 y2 =>
          cases y2 with
          | cons y2 y3 =>
            rename_i x2 _
            cases y3
            obtain ⟨b, rfl, hb⟩ := tp_key y1
            obtain ⟨us, ru, tu, _⟩ := I.tuple hA
            obtain ⟨u1, u2, eu, q1, q2⟩ := vals2 ru
            subst eu
            cases q1
            refine ⟨(nk k, b, u2) :: ps, A :: Ts, (k, b, x2) :: L, .cons ⟨rfl, rfl, q2⟩ h.rel, .cons ⟨rfl, y2⟩ h.dat, fun x hx => ?_, congrArg Nat.succ h.len, congrArg Nat.succ h.lenT, fun j p hj => ?_⟩
            · rcases List.mem_cons.mp hx with e | hx
              · subst e; exact hb
              · exact h.keys x hx
            · cases j with
              | zero =>
                simp only [List.getElem?_cons_zero, Option.some.injEq] at hj
                subst hj
                obtain ⟨o, g1, g2, n, g3⟩ := tu
                exact ⟨A, rfl, rfl, .inl ⟨o, g1, g2, n, g3⟩⟩
              | succ j =>
                obtain ⟨T, e1, e2, e3⟩ := h.pair j p (by simpa using hj)
                exact ⟨T, by simpa using e1, by simpa using e2, e3⟩
def putsN (L : List Ent) : List Ent → List Ent
  | [] => L
  | x :: r => putsN (putN L x.1 x.2.1 x.2.2) r
theorem Pn.puts : ∀ {M L : List Ent} {ps xs : List (NestedKey × Addr × Value)}, Pn M ps → Pn L xs → Pn (putsN L M) (storedAllH xs ps)
  | [], _, _, _, hm, hl => by cases hm; exact hl
  | (k, a, v) :: M, L, _, xs, hm, hl => by
    cases hm with
    | @cons _ q _ ps h t =>
      obtain ⟨qk, qa, qv⟩ := q
      obtain ⟨h1, h2, h3⟩ := h
      simp only at h1 h2 h3
      subst h1 h2
      exact Pn.puts (M := M) (ps := ps) t (Pn.put hl k h3)
theorem Dd.puts {K : Fg} {H : Hp} : ∀ {M L : List Ent} {ms kvs : List (KO × D)}, Dd K H M ms → Dd K H L kvs → Dd K H (putsN L M) (dputs kvs ms)
  | [], _, _, _, hm, hl => by cases hm; exact hl
  | (k, a, v) :: M, L, _, kvs, hm, hl => by
    cases hm with
    | @cons _ q _ ms h t =>
      obtain ⟨qk, qd⟩ := q
      obtain ⟨h1, h2⟩ := h
      simp only at h1 h2
      subst h1
      exact Dd.puts (M := M) (ms := ms) t (Dd.put hl _ h2)
theorem mem_putsN {x : Ent} : ∀ {M L : List Ent}, x ∈ putsN L M → ∃ y ∈ L ++ M, x.1 = y.1 ∧ x.2.1 = y.2.1
  | [], L, h => ⟨x, by simpa [putsN] using h, rfl, rfl⟩
  | m :: M, L, h => by
    obtain ⟨y, hy, e1, e2⟩ := mem_putsN (M := M) h
    rcases List.mem_append.mp hy with hy | hy
    · rcases mem_putN hy with ⟨z, hz, f1, f2⟩ | ⟨f1, f2⟩
      · exact ⟨z, List.mem_append_left _ hz, e1.trans f1, e2.trans f2⟩
      · exact ⟨m, by simp, e1.trans f1, e2.trans f2⟩
    · exact ⟨y, by simp [hy], e1, e2⟩
theorem putsN_len : ∀ (M L : List Ent), (putsN L M).length ≤ L.length + M.length
  | [], _ => by simp [putsN]
  | m :: M, L => by
    have h1 := putsN_len M (putN L m.1 m.2.1 m.2.2)
    have h2 := putN_len L m.1 m.2.1 m.2.2
    rw [List.length_cons]
    show (putsN (putN L m.1 m.2.1 m.2.2) M).length ≤ _
    omega
theorem call_dictN (hu : X.A.units + 65 < cLine) (hcalm : X.calm = true) : CallR X (.type "dict") (rDictN X.prog X.w X.K) := by
  intro pins s σ H xs us Q I r q
  obtain ⟨a, ys, kvs, rfl, hs, ht, q⟩ := q
  obtain ⟨u, rfl, rx⟩ := vals1 r
  cases rx
  obtain ⟨its, rv, pl, hz⟩ := I.list hs
  obtain ⟨o, n, ho, hc, hd, hdat⟩ := pl
  obtain ⟨ps, Ts, M, h⟩ := pr_of I ht rv
  have hlM : M.length = kvs.length := Paired.length h.dat
  have hlp : ps.length = kvs.length := by rw [← hlM]; exact (Paired.length h.rel).symm
  have hly : ys.length = kvs.length := by rw [ht.len, List.length_map]
  let pv : List (Value × Value) := ps.map fun (p : NestedKey × Addr × Value) => (Value.ref p.2.1, p.2.2)
  have hpv : pv.length = ps.length := by simp [pv]
  have hPI : PairItems s.heap its.toArray (fun j => Ts.getD j 0) pv := by
    refine ⟨by rw [List.size_toArray, h.len, hpv, hlp], fun j k v hj => ?_⟩
    simp only [pv, List.getElem?_map, Option.map_eq_some_iff] at hj
    obtain ⟨p, hj, e⟩ := hj
    cases e
    obtain ⟨T, e1, e2, e3⟩ := h.pair j p hj
    have eT : Ts.getD j 0 = T := by rw [List.getD_eq_getElem?_getD, e1]; rfl
    show its.toArray[j]? = some (Value.ref (Ts.getD j 0)) ∧ PairAt s.heap (Ts.getD j 0) (.ref p.2.1) p.2.2
    rw [eT]
    exact ⟨by simpa using e2, e3⟩
  have hroom : (nestedKind X.prog X.w).room X.A.in1.in1 := by
    have h1 := nroom (X := X) (A := X.A.in1) (by
      have : X.A.in1.units ≤ X.A.units + 1 := by first | exact Nat.le_refl _ | (simp [Around.in1, Around.units])
      show X.A.in1.units + 64 < cLine
      omega)
    exact h1
  refine call_dict_pairsH (PairArg.list a its.toArray (fun j => Ts.getD j 0) pv) (I.ok.hd hcalm) hroom ⟨⟨o, n, ho, hc, hd, hdat⟩, hPI⟩ (ps := ps) ⟨by rw [hpv], fun i key v e => ?_⟩ (fun h' hk x hx => ?_) (by rw [hpv, hlp, ← hly]; exact hz) fun h' tk hd' hk => ?_
  · simp only [PairRel, pv, List.getElem?_map, Option.map_eq_some_iff] at e
    obtain ⟨p, hj, e⟩ := e
    cases e
    exact ⟨p.1, p.2.1, hj, rfl⟩
  · obtain ⟨i, hi⟩ := List.getElem?_of_mem hx
    have all : ∀ {l : List Ent} {m : List (NestedKey × Addr × Value)}, Pn l m → (∀ x ∈ l, SqT X.K H x.2.1 (x.1.map kx)) → ∀ x ∈ m, (nestedKind X.prog X.w).is s.heap x.1 x.2.1 := by
      intro l m q
      induction q with
      | nil => intro _ x hx; exact nomatch hx
      | @cons p q ps qs hq t ih =>
        intro hl x hx
        rcases List.mem_cons.mp hx with e | hx
        · subst e
          rw [hq.1, hq.2.1]
          exact nkey_of I (hl p List.mem_cons_self)
        · exact ih (fun y hy => hl y (List.mem_cons_of_mem _ hy)) x hx
    refine nestedKind_stays.stays (fun b o vs n e1 e2 => hk b o ?_ (fun z => nomatch z) e1) (all h.rel h.keys x hx)
    exact Nat.ne_of_lt (Heap.lt_size e1)
  · have hm : (s.heap.objs.size == sysModules) = false := beq_eq_false_iff_ne.mpr (Nat.ne_of_gt I.big)
    have hlen : (putsN [] M).length ≤ sizeLine := by
      have := putsN_len M []
      rw [List.length_nil, Nat.zero_add] at this
      exact Nat.le_trans this (by rw [hlM, ← hly]; exact hz)
    have hp : H s.heap.objs.size = none := I.hok.fresh (Nat.le_refl _)
    refine ⟨.ref s.heap.objs.size, upd H s.heap.objs.size (DicN X.prog X.w s.heap.objs.size (putsN [] M)), I.laid (t' := tk) (fun b u e => hk b u (fun z => nomatch z) e) (Nat.le_refl _) (dnew_ok hm hlen (h.rel.puts .nil) hd'), rfl, q _ _ hp ⟨putsN [] M, ⟨upd_same, fun x hx => ?_⟩, (h.dat.puts .nil).mv fun _ _ z => z.up (noTup_none hp)⟩⟩
    obtain ⟨y, hy, e1, e2⟩ := mem_putsN hx
    rw [e1, e2]
    exact sqt_upd (noTup_none hp) (h.keys y (by simpa using hy))
end
end Sp
end
section
set_option Elab.async false
set_option linter.all false
set_option maxRecDepth 100000
set_option maxHeartbeats 4000000
set_option autoImplicit false
/-! Sp: sorted(xs, key=lambda o: (len(o), o)) of a list of tuples of whole numbers. -/
namespace Sp
open PySem PySem.Spec PyProof.Rows L2
/-- a tuple of numbers -/
abbrev ot (o : List Nat) : D := .tuple (o.map fun n : Nat => PyData.int n)
/-- what the lambda gives -/
abbrev ok2 (o : List Nat) : D := .tuple [.int o.length, ot o]
def tSortLam (T : List (Addr × Str)) (K : Fg) (te : TE) : TE := fun σ H Q => te σ H fun x H1 => ∃ a xs, ∃ l : List (List Nat), x = .ref a ∧ SqL K H1 a xs ∧ TpAll K H1 xs (l.map ot) ∧ LamX.Tabs T H1 ∧ (∀ o ∈ l, o.length ≤ 100000) ∧
  ∀ p ys H2, Ex T H1 H2 → H2 p = none → TpAll K (upd H2 p (.lst ys)) ys ((l.mergeSort (PySem.W.dataLe false ok2)).map ot) → Q (.ref p) (upd H2 p (.lst ys))
section
variable {X : Cx}
/-- what is to be seen of the lambda's text -/
structure LamT (X : Cx) (params : Arguments) (body : Expr) (scope : Scope) (y : Str) : Prop where
  txt : ∃ p1 p2 p3 p4 p5 x1, body = .Tuple [.Call (.Name "len" p1) [.Name y p2] [] p3, .Name y p4] x1 p5
  kind : scope.kind = .function
  co : scope.isCoroutine = false
  gen : scope.isGenerator = false
  cell : ∀ x ∈ scope.names, x.2 ≠ .cell
  loc : scope.names.lookup y = some .local
  len : scope.names.lookup (Str.ofString "len") = some .globalImplicit
  free : cloFrom X.env.cells scope.names [] = []
  bind : ∀ (q : Str) (pm cv ctv v : Value), bindArgs (PySem.W.kla_fn "<lambda>" q params body scope [] pm cv ctv) ⟨[v], []⟩ = pure [(y, v)]
  defs : defaultsOf params X.env = ([], [])
  nofree : ∀ x ∈ scope.names, x.2 ≠ .free
  dbg : (y == ("__debug__" : Str)) = false
theorem reads_ints {h : Heap} : ∀ {o : List Nat} {its : List Value}, Vals ((o.map fun n : Nat => (n : Int)).map V.int) its → ReadsAll h its (o.map fun n : Nat => PyData.int n) []
  | [], _, r => by cases r; exact .nil
  | n :: o, _, r => by
    rw [List.map_cons, List.map_cons] at r
    cases r with
    | cons r1 r2 =>
      obtain ⟨t, rfl⟩ := r1
      exact .cons (as := []) (bs := []) (.int _ _) (reads_ints r2)
theorem at_reads {pins : List (Addr × Obj)} {σ : L2.St} {H : Hp} {s : Shared} (I : Inv X pins σ H s) {v : V} {u : Value} {o : List Nat} (rv : L2.RelV v u) (t : Tp X.K H v (ot o)) :
    ∃ a items, u = .ref a ∧ IsTup s.heap a items ∧ items.size = o.length ∧ Reads s.heap u (ot o) [] := by
  obtain ⟨a, xs, rfl, h1, h2⟩ := tp_tup t
  cases rv
  obtain ⟨its, r, ⟨ob, g1, g2, n, g3⟩, hz⟩ := I.tuple h1
  refine ⟨a, its.toArray, rfl, ⟨ob, g1, g2, n, g3⟩, ?_, ?_⟩
  · have e := h2.len
    rw [List.length_map] at e
    rw [List.size_toArray, ← r.length, e]
  · refine .tuple g1 g2 g3 ?_
    rw [show (its.toArray).toList = its from by simp]
    have hx : xs = (o.map fun n : Nat => (n : Int)).map V.int := tpInts (by rw [List.map_map]; exact h2)
    subst hx
    exact reads_ints r
theorem KeyPure.of {k : D} {s1 : Shared} {v : Value} {h' : Heap} {tk : Nat} (kp : ∀ b o, s1.heap.get? b = some o → h'.get? b = some o) (r : Reads h' v k []) : PySem.W.KeyPure k s1 v { s1 with heap := h', toks := tk } := ⟨h', tk, rfl, kp, r⟩
/-- a call of the lambda -/
theorem lam_turn {A : Around} {s : Shared} {params : Arguments} {body : Expr} {scope : Scope} {y qual : Str} {f c' : Addr} {pm ctv : Value} {mg mb : Str → Option Value} {a : Addr} {items : Array Value} {o : List Nat} (L : LamT X params body scope y) (hd : A.depth < recursionLimit)
    (hf : s.heap.get? f = some (PySem.W.kla_obj "<lambda>" qual params body scope [] pm c' ctv)) (hc : s.heap.CodeRec (.ref c') qual) (lim : s.heap.NoLimit)
    (hg : s.heap.Ns mainGlobals mg) (hlen : mg "len" = none) (hb : s.heap.Ns builtinsNs mb) (hbl : mb "len" = some (.builtin "len"))
    (ht : IsTup s.heap a items) (hsz : items.size = o.length) (ho : o.length ≤ 100000) (hr : Reads s.heap (.ref a) (ot o) []) :
    wpAny (model X.prog X.w) A (call (.ref f) [.ref a]) (PySem.W.KeyPure (ok2 o) s) (fun _ _ => False) s := by
  obtain ⟨p1, p2, p3, p4, p5, x1, rfl⟩ := L.txt
  refine wpAny_call (PySem.W.kla_callFunE hd hf rfl L.co L.gen rfl hc ?_)
  rw [L.bind]
  refine wpAny_pure (wpAny_newFunctionEnv L.cell (fun x hx => ?_) (fun h₁ hns hsb => ⟨lim.fresh _ hsb, ?_⟩) L.kind)
  · rw [List.mem_singleton.mp hx]
    exact L.loc
  have kp : ∀ b o, s.heap.get? b = some o → h₁.get? b = some o := fun b o e => hsb.extBut b o (Nat.ne_of_lt (Heap.lt_size e)) (Heap.get?_push_of_some _ e)
  refine PySem.W.kla_codeExpr ?_
  have hloc : ([(y, Value.ref a)].reverse.lookup y : Option Value) = some (.ref a) := by simp [List.lookup]
  have hl : ∀ {B : Around} {E : Value → Shared → Prop} {h2 : Heap} {tk : Nat} {p : Pos} {Q : Value → Shared → Prop}, (∀ b o, h₁.get? b = some o → h2.get? b = some o) → Q (.ref a) { s with heap := h2, toks := tk } →
      wpAny (model X.prog X.w) B (eval (.Name y p) (newEnv scope s.heap.objs.size mainGlobals [] (qual ++ ".<locals>.") (some f) (.ref c') none builtinsNs)) Q E { s with heap := h2, toks := tk } := fun {B E h2 tk p Q} k2 q => by
    refine wpAny_Name (wpAny_loadName_local (m := fun x => [(y, Value.ref a)].reverse.lookup x) L.kind L.loc ?_ hloc q) L.dbg
    exact hns.keeps k2
  refine wpAny_Tuple_spliced (PyProof.Rows.args_cons (PyProof.Rows.Call_ (Calls.Name_function_global L.kind L.len (Calls.loadGlobal_builtin (hg.keeps kp) hlen (hb.keeps kp) hbl ?_) (by decide))))
  refine PyProof.Rows.callWith_builtin1 (PyProof.Rows.args_cons (hl (fun _ _ e => e) (PyProof.Rows.args_nil ?_)))
  refine PyProof.Rows.len_tuple (ht.keeps kp) (by omega) (PyProof.Rows.args_cons (hl (fun _ _ e => e) (PyProof.Rows.args_nil ⟨by simp [sizeLine_eq], ?_⟩)))
  refine KeyPure.of (fun b o e => Heap.get?_push_of_some _ (kp b o e)) ?_
  refine .tuple (Heap.get?_push_size _ rfl) rfl rfl ?_
  refine .cons (as := []) (bs := []) ?_ (.cons (as := []) (bs := []) (Reads.keeps (fun b o e => Heap.get?_push_of_some _ (kp b o e)) hr) .nil)
  rw [hsz]
  exact .int _ _
theorem ok2_depth (o : List Nat) : (ok2 o).depth ≤ 2 := by
  have h : ∀ o : List Nat, PyData.depthAll (o.map fun n : Nat => PyData.int n) = 0 := fun o => by
    induction o with
    | nil => rfl
    | cons n o ih =>
      show max 0 (PyData.depthAll (o.map fun n : Nat => PyData.int n)) = 0
      rw [ih]; rfl
  show max 0 (max (PyData.depthAll (o.map fun n : Nat => PyData.int n) + 1) 0) + 1 ≤ 2
  rw [h]
  decide
theorem ok2_alike (l : List (List Nat)) : PySem.W.AllAlike (l.map ok2) := PySem.W.AllAlike.of fun a b => by
  have h : ∀ a b : List Nat, PySem.W.alikeAll (a.map fun n : Nat => PyData.int n) (b.map fun n : Nat => PyData.int n) = true := fun a => by
    induction a with
    | nil => intro b; cases b <;> rfl
    | cons x a ih =>
      intro b
      cases b with
      | nil => rfl
      | cons y b => simp [PySem.W.alikeAll, PySem.W.alike, ih b]
  simp [PySem.W.alike, PySem.W.alikeAll, h]
theorem pe_sortLam {T : List (Addr × Str)} {te : TE} {e : Expr} {params : Arguments} {body : Expr} {scope : Scope} {y : Str} {lpos kpos p pos : Pos} {c P : Addr} (hg : Gl X "sorted") (hm : X.mg "sorted" = none) (hml : X.mg "len" = none) (he : PE X e te) (L : LamT X params body scope y)
    (TB : LamX.TabB X.base X.mg c P) (hcode : X.env.code = .ref c) (hmT : (P, X.env.qual ++ "<lambda>") ∈ T) (hu : ∀ p ∈ T, p.1 = P → p.2 = X.env.qual ++ "<lambda>") (hr : Room 2 X.A)
    (na : starEach [e] X.env = (false, eval e X.env) :: starEach [] X.env := by rfl) :
    PE X (.Call (.Name "sorted" p) [e] [⟨some "key", .Lambda params body scope lpos, kpos⟩] pos) (tSortLam T X.K te) := by
  refine ⟨fun pins s σ H Q I h => ?_⟩
  refine wpAny_Call_Name_kw (ld_blt I hg hm boot_f_sorted ?_)
  refine PyProof.Rows.callWith_kw (PyProof.Rows.args_cons (thn (he.run pins s σ H _ I h) fun u s1 ⟨x, H1, I1, r1, q1⟩ => PyProof.Rows.args_nil ?_) na) (by rw [na]; rfl) (by rw [na]; rfl) (by rfl) (by rfl)
  obtain ⟨a, xs, l, rfl, hs, hx, hT, ho, q⟩ := q1
  cases r1
  show wpAny _ _ (evalAll [do let v ← eval (.Lambda params body scope lpos) X.env; standAt pos; pure v]) _ _ s1
  refine wpAny_evalAll_cons (wpAny_bind (LamX.lam_make2 I1 TB hcode hmT hu hT L.defs (fun y hy e => absurd e (L.nofree y hy)) fun f c' pm ctv H2 s2 I2 eN T2 hf hfn hfr hco => wpAny_bind (wpAny_standAt (wpAny_pure ?_))))
  refine wpAny_evalAll_nil ?_
  rw [L.free] at hf
  have ex : Ex T H1 H2 := ⟨eN, fun _ => T2⟩
  obtain ⟨its, rv, pl, hz⟩ := I2.list (ex.sl hs)
  have ev := each_of (ex.tps hx) rv
  have hz' : l.length ≤ sizeLine := by
    have h1 := hx.len
    rw [List.length_map] at h1
    omega
  obtain ⟨⟨oc, vs, t, hoc, hdc, hvc⟩, _, _⟩ := I2.hok c' _ hco
  obtain ⟨mb, b1, b2⟩ := I2.mod.blt
  have dpt : X.A.in1.in1.depth < recursionLimit := hr.in1.in1.depth
  have hun := hr.un
  show wpAny _ _ (call (.builtin "sorted") [.ref a] [(Str.ofString "key", .ref f)]) _ _ s2
  refine PySem.W.sorted_key_data (b := false) (bs := l) ok2 pl.isList ev (ok2_alike l) (PySem.W.Sortable.tuples fun _ => ⟨_, _, rfl⟩) hz' (fun o _ => by have := ok2_depth o; omega) (PyProof.Rows.ksk_s1 _ _) (fun _ => PyProof.Rows.ksk_l1 _ _) (fun _ => PyProof.Rows.ksk_t1 _ _)
    (fun v o ⟨w', rw', tw⟩ hmem h3 tk kp => ?_) fun out cc h3 tk kp hn3 hD hlen eo => ?_
  · obtain ⟨a3, items, rfl, it, isz, ird⟩ := at_reads I2 rw' tw
    exact lam_turn (s := { s2 with heap := h3, toks := tk }) L dpt (kp _ _ hf) ⟨c', oc, vs, t, rfl, kp _ _ hoc, hdc, hvc⟩ (I2.nolimit.keeps kp) ((I2.mod.glob.keeps I2.bk).keeps kp) hml ((b1.keeps I2.bk).keeps kp)
      ((b2 "len" (by decide)).trans boot_f_len) (it.keeps kp) isz (ho o hmem) (Reads.keeps kp ird)
  · obtain ⟨ys, h1, h2⟩ := of_each eo
    have hp : H2 (s2.heap.objs.size + 1) = none := I2.hok.fresh (Nat.le_succ _)
    have hl : ys.length ≤ sizeLine := by
      have e := h2.len
      rw [List.length_map, List.length_mergeSort] at e
      omega
    exact ⟨.ref _, upd H2 (s2.heap.objs.size + 1) (.lst ys), I2.laid (t' := tk) kp (Nat.le_succ _) ⟨hl, out, cc, h1, hD⟩, rfl, q _ ys H2 ex hp (h2.up (noTup_none hp))⟩
theorem st_sortLam {T : List (Addr × Str)} {K : Fg} {te : TE} {σ : L2.St} {H : Hp} {Q : VK} (q : te σ H fun x H1 => ∃ a xs, ∃ l : List (List Nat), x = .ref a ∧ SqL K H1 a xs ∧ TpAll K H1 xs (l.map ot) ∧ LamX.Tabs T H1 ∧ (∀ o ∈ l, o.length ≤ 100000) ∧
  ∀ p ys H2, Ex T H1 H2 → H2 p = none → TpAll K (upd H2 p (.lst ys)) ys ((l.mergeSort (PySem.W.dataLe false ok2)).map ot) → Q (.ref p) (upd H2 p (.lst ys))) : tSortLam T K te σ H Q := q
end
/-! ### list(d) -/
section
variable {X : Cx}
def rListN (P : Program) (w : World) (K : Fg) : List V → Hp → VK → Prop := fun vs H Q => ∃ d kvs, vs = [.ref d] ∧ DicD P w K H d kvs ∧ ∀ p ys, H p = none → TpAll K (upd H p (.lst ys)) ys (kvs.map fun x => kD x.1) → Q (.ref p) (upd H p (.lst ys))
theorem call_listN (hcalm : X.calm = true) : CallR X (.type "list") (rListN X.prog X.w X.K) := by
  intro pins s σ H xs us Q I r q
  obtain ⟨d, kvs, rfl, hd, q⟩ := q
  obtain ⟨u, rfl, rx⟩ := vals1 r
  cases rx
  obtain ⟨L, h1, h2⟩ := hd.ex
  obtain ⟨z, hl, xs, r', dd⟩ := din_of I h1
  obtain ⟨es, ep, hr, hsz, he⟩ := dd.raw
  have hlx : L.length = xs.length := Paired.length r'
  refine PySem.W.kdl_call (PySem.KdlSrc.rawDict z) (I.ok.hd hcalm) hr (by rw [hsz, ← hlx]; exact hl) fun h' tk acc c' kp hD hacc => ?_
  have key : ∀ (n : Nat) (L : List Ent) (xs : List (NestedKey × Addr × Value)) (kvs : List (KO × D)) (out : List Value), out.length = n → Pn L xs → Dd X.K H L kvs → (∀ x ∈ L, SqT X.K H x.2.1 (x.1.map kx)) → L.length = n →
      (∀ (j : Nat) (v : Value), out[j]? = some v → ∃ y : NestedKey × Addr × Value, xs[j]? = some y ∧ v = Value.ref y.2.1) → ∃ ys, Vals ys out ∧ TpAll X.K H ys (kvs.map fun x => kD x.1) := by
    intro n
    induction n with
    | zero =>
      intro L xs kvs out e1 r1 r2 _ e2 _
      cases List.length_eq_zero_iff.mp e1
      cases List.length_eq_zero_iff.mp e2
      cases r2
      exact ⟨[], .nil, .nil⟩
    | succ n ih =>
      intro L xs kvs out e1 r1 r2 hk e2 ho
      cases r1 with
      | nil => cases e2
      | @cons p q ps qs g1 t1 =>
        cases r2 with
        | @cons _ c _ cs g2 t2 =>
          cases out with
          | nil => cases e1
          | cons v out =>
            obtain ⟨y, y1, y2⟩ := ho 0 v rfl
            simp only [List.getElem?_cons_zero, Option.some.injEq] at y1
            subst y1 y2
            obtain ⟨ys, z1, z2⟩ := ih ps qs cs out (Nat.succ.inj e1) t1 t2 (fun x hx => hk x (List.mem_cons_of_mem _ hx)) (Nat.succ.inj e2) fun j v hj => by
              obtain ⟨y, y1, y2⟩ := ho (j + 1) v (by simpa using hj)
              exact ⟨y, by simpa using y1, y2⟩
            refine ⟨.ref q.2.1 :: ys, .cons rfl z1, .cons (.tup (a := q.2.1) ?_ (kxs_tp _)) z2⟩
            rw [g2.1, g1.2.1]
            exact hk p List.mem_cons_self
  obtain ⟨ys, k1, k2⟩ := key xs.length L xs kvs acc.toList (by rw [Array.length_toList, hacc.1, hsz]) r' h2 h1.keys hlx fun j v hj => by
    obtain ⟨hi, e⟩ := hacc.2 j v (by rw [← Array.getElem?_toList]; exact hj)
    obtain ⟨y, y1, y2, _, _⟩ := he j hi
    exact ⟨y, y1, e.trans y2⟩
  have hp : H s.heap.objs.size = none := I.hok.fresh (Nat.le_refl _)
  have hyl : ys.length ≤ sizeLine := by
    have e := k2.len
    rw [List.length_map] at e
    have : L.length = kvs.length := Paired.length h2
    omega
  exact ⟨.ref _, upd H s.heap.objs.size (.lst ys), I.laid (t' := tk) kp (Nat.le_refl _) ⟨hyl, acc.toList, c', k1, by rw [Array.toArray_toList]; exact hD⟩, rfl, q _ ys hp (k2.up (noTup_none hp))⟩
end
end Sp
end
section
set_option Elab.async false
set_option linter.all false
set_option maxRecDepth 100000
set_option maxHeartbeats 4000000
set_option autoImplicit false
/-! Sp: data of numbers and None; walks by for; steps. -/
namespace Sp
open PySem PySem.Spec PyProof.Rows L2
/-! ### data -/
mutual
def pur : D → Bool
  | .none => true
  | .int _ => true
  | .tuple ds => purs ds
  | .list ds => purs ds
  | .bool _ => false
  | .str _ => false
  | .dict _ => false
def purs : List D → Bool
  | [] => true
  | d :: ds => pur d && purs ds
end
mutual
theorem pur_lay : ∀ {d : D}, pur d = true → d.canLay0 = true
  | .none, _ => rfl
  | .int _, _ => rfl
  | .tuple ds, h => by
    show PyData.canLayAll0 ds = true
    exact purs_lay (by simpa [pur] using h)
  | .list ds, h => by
    show PyData.canLayAll0 ds = true
    exact purs_lay (by simpa [pur] using h)
  | .bool _, h => by simp [pur] at h
  | .str _, h => by simp [pur] at h
  | .dict _, h => by simp [pur] at h
theorem purs_lay : ∀ {ds : List D}, purs ds = true → PyData.canLayAll0 ds = true
  | [], _ => rfl
  | d :: ds, h => by
    rw [purs, Bool.and_eq_true] at h
    show (PyData.canLay0 d && PyData.canLayAll0 ds) = true
    rw [pur_lay h.1, purs_lay h.2]; rfl
end
mutual
theorem eqv_self : ∀ {d : D}, pur d = true → PyData.eqv d d = true
  | .none, _ => rfl
  | .int i, _ => by simp [PyData.eqv]
  | .tuple ds, h => by
    rw [PyData.eqv]
    exact eqvs_self (by simpa [pur] using h)
  | .list ds, h => by
    rw [PyData.eqv]
    exact eqvs_self (by simpa [pur] using h)
  | .bool _, h => by simp [pur] at h
  | .str _, h => by simp [pur] at h
  | .dict _, h => by simp [pur] at h
theorem eqvs_self : ∀ {ds : List D}, purs ds = true → PyData.eqvAll ds ds = true
  | [], _ => by simp [PyData.eqvAll]
  | d :: ds, h => by
    rw [purs, Bool.and_eq_true] at h
    rw [PyData.eqvAll, eqv_self h.1, eqvs_self h.2]; rfl
end
mutual
theorem eq_of_eqv : ∀ {d e : D}, pur d = true → pur e = true → PyData.eqv d e = true → d = e
  | .none, e, _, he, h => by cases e <;> simp_all [PyData.eqv, pur]
  | .int i, e, _, he, h => by cases e <;> simp_all [PyData.eqv, pur]
  | .tuple ds, e, hd, he, h => by
    cases e with
    | tuple es =>
      rw [PyData.eqv] at h
      rw [eqs_of_eqv (by simpa [pur] using hd) (by simpa [pur] using he) h]
    | _ => simp_all [PyData.eqv, pur]
  | .list ds, e, hd, he, h => by
    cases e with
    | list es =>
      rw [PyData.eqv] at h
      rw [eqs_of_eqv (by simpa [pur] using hd) (by simpa [pur] using he) h]
    | _ => simp_all [PyData.eqv, pur]
  | .bool _, _, h, _, _ => by simp [pur] at h
  | .str _, _, h, _, _ => by simp [pur] at h
  | .dict _, _, h, _, _ => by simp [pur] at h
theorem eqs_of_eqv : ∀ {ds es : List D}, purs ds = true → purs es = true → PyData.eqvAll ds es = true → ds = es
  | [], [], _, _, _ => rfl
  | [], _ :: _, _, _, h => by simp [PyData.eqvAll] at h
  | _ :: _, [], _, _, h => by simp [PyData.eqvAll] at h
  | d :: ds, e :: es, hd, he, h => by
    rw [purs, Bool.and_eq_true] at hd he
    rw [PyData.eqvAll, Bool.and_eq_true] at h
    rw [eq_of_eqv hd.1 he.1 h.1, eqs_of_eqv hd.2 he.2 h.2]
end
theorem purs_map {α : Type} {l : List α} {f : α → D} (h : ∀ x, pur (f x) = true) : purs (l.map f) = true := by
  induction l with
  | nil => rfl
  | cons x l ih =>
    rw [List.map_cons, purs, h, ih]; rfl
theorem any_enc {α : Type} [DecidableEq α] {l : List α} {f : α → D} (hp : ∀ x, pur (f x) = true) (hi : ∀ x y, f x = f y → x = y) (a : α) : ((l.map f).any fun z => PyData.eqv z (f a)) = decide (a ∈ l) := by
  rw [Bool.eq_iff_iff]
  simp only [List.any_eq_true, List.mem_map, decide_eq_true_eq]
  constructor
  · rintro ⟨z, ⟨x, hx, rfl⟩, h⟩
    rw [← hi _ _ (eq_of_eqv (hp x) (hp a) h)]
    exact hx
  · intro h
    exact ⟨f a, ⟨a, h, rfl⟩, eqv_self (hp a)⟩
theorem eqv_enc {α : Type} [DecidableEq α] {f : α → D} (hp : ∀ x, pur (f x) = true) (hi : ∀ x y, f x = f y → x = y) (a b : α) : PyData.eqv (f a) (f b) = decide (a = b) := by
  rw [Bool.eq_iff_iff, decide_eq_true_eq]
  constructor
  · intro h
    exact hi _ _ (eq_of_eqv (hp a) (hp b) h)
  · rintro rfl
    exact eqv_self (hp a)
theorem shp {d : D} (h1 : pur d = true) (h2 : d.depth ≤ 64) : SeqAt.shaped d = true := by
  unfold SeqAt.shaped
  rw [pur_lay h1, decide_eq_true h2]; rfl
theorem depth_map {α : Type} {l : List α} {f : α → D} {n : Nat} (h : ∀ x, (f x).depth ≤ n) : PyData.depthAll (l.map f) ≤ n := by
  induction l with
  | nil => exact Nat.zero_le _
  | cons x l ih =>
    show max (f x).depth (PyData.depthAll (l.map f)) ≤ n
    exact Nat.max_le.mpr ⟨h x, ih⟩
theorem depth_tup {ds : List D} {n : Nat} (h : PyData.depthAll ds ≤ n) : (PyData.tuple ds).depth ≤ n + 1 := Nat.succ_le_succ h
theorem depth_lst {ds : List D} {n : Nat} (h : PyData.depthAll ds ≤ n) : (PyData.list ds).depth ≤ n + 1 := Nat.succ_le_succ h
/-- a number -/
abbrev eN (n : Nat) : D := .int n
/-- a pair of numbers: a link, a turn -/
abbrev eP (p : Nat × Nat) : D := .tuple [.int p.1, .int p.2]
abbrev Ky : Type := Nat × Option Nat × Nat
abbrev Row : Type := List (Nat × Nat)
def ko (k : Ky) : KO := [some (k.1 : Int), k.2.1.map fun n : Nat => (n : Int), some (k.2.2 : Int)]
abbrev eK (k : Ky) : D := kD (ko k)
abbrev eR (r : Row) : D := .tuple (r.map eP)
abbrev eO (x : Ky × Row) : D := .tuple [eK x.1, eR x.2]
theorem eN_inj (a b : Nat) (h : eN a = eN b) : a = b := Int.ofNat.inj (PyData.int.inj h)
theorem map_inj' {α β : Type} {f : α → β} (hi : ∀ x y, f x = f y → x = y) : ∀ {a b : List α}, a.map f = b.map f → a = b
  | [], [], _ => rfl
  | [], _ :: _, h => by simp at h
  | _ :: _, [], h => by simp at h
  | x :: a, y :: b, h => by
    rw [List.map_cons, List.map_cons] at h
    injection h with h1 h2
    rw [hi _ _ h1, map_inj' hi h2]
theorem eN_pur (a : Nat) : pur (eN a) = true := rfl
theorem eP_pur (p : Nat × Nat) : pur (eP p) = true := rfl
theorem eP_inj (a b : Nat × Nat) (h : eP a = eP b) : a = b := by
  obtain ⟨a1, a2⟩ := a
  obtain ⟨b1, b2⟩ := b
  have h := PyData.tuple.inj h
  injection h with h1 h2
  injection h2 with h2 _
  have e1 : a1 = b1 := Int.ofNat.inj (PyData.int.inj h1)
  have e2 : a2 = b2 := Int.ofNat.inj (PyData.int.inj h2)
  rw [e1, e2]
theorem eP_depth (p : Nat × Nat) : (eP p).depth ≤ 1 := by simp [PyData.depth, PyData.depthAll]
theorem ot_pur (o : List Nat) : pur (ot o) = true := by
  show purs _ = true
  exact purs_map fun _ => rfl
theorem ot_inj (a b : List Nat) (h : ot a = ot b) : a = b := by
  have h := PyData.tuple.inj h
  exact map_inj' eN_inj h
theorem ot_depth (o : List Nat) : (ot o).depth ≤ 1 := depth_tup (depth_map fun _ => Nat.le_refl _)
theorem kd_pur (o : Option Int) : pur (kd o) = true := by cases o <;> rfl
theorem kd_depth (o : Option Int) : (kd o).depth ≤ 0 := by cases o <;> exact Nat.le_refl _
theorem eK_pur (k : Ky) : pur (eK k) = true := by
  show purs _ = true
  exact purs_map kd_pur
theorem ko_inj {a b : Ky} (h : ko a = ko b) : a = b := by
  obtain ⟨a1, a2, a3⟩ := a
  obtain ⟨b1, b2, b3⟩ := b
  simp only [ko, List.cons.injEq, Option.some.injEq, Int.natCast_inj, and_true] at h
  obtain ⟨h1, h2, h3⟩ := h
  rw [h1, h3]
  cases a2 <;> cases b2 <;> simp_all <;> omega
theorem kds_inj : ∀ {a b : KO}, a.map kd = b.map kd → a = b
  | [], [], _ => rfl
  | [], _ :: _, h => by simp at h
  | _ :: _, [], h => by simp at h
  | x :: a, y :: b, h => by
    rw [List.map_cons, List.map_cons] at h
    injection h with h1 h2
    rw [kd_inj h1, kds_inj h2]
theorem eK_inj (a b : Ky) (h : eK a = eK b) : a = b := ko_inj (kds_inj (PyData.tuple.inj h))
theorem eK_depth (k : Ky) : (eK k).depth ≤ 1 := depth_tup (depth_map fun o => kd_depth o)
theorem eR_pur (r : Row) : pur (eR r) = true := by
  show purs _ = true
  exact purs_map eP_pur
theorem eR_inj (a b : Row) (h : eR a = eR b) : a = b := map_inj' eP_inj (PyData.tuple.inj h)
theorem eR_depth (r : Row) : (eR r).depth ≤ 2 := depth_tup (depth_map eP_depth)
theorem shp_list {α : Type} {l : List α} {f : α → D} (n : Nat) (hp : ∀ x, pur (f x) = true) (hd : ∀ x, (f x).depth ≤ n) (hn : n < 60) : SeqAt.shaped (.list (l.map f)) = true := shp (purs_map hp) (Nat.le_trans (depth_lst (depth_map hd)) (by omega))
theorem shp_tup {α : Type} {l : List α} {f : α → D} (n : Nat) (hp : ∀ x, pur (f x) = true) (hd : ∀ x, (f x).depth ≤ n) (hn : n < 60) : SeqAt.shaped (.tuple (l.map f)) = true := shp (purs_map hp) (Nat.le_trans (depth_tup (depth_map hd)) (by omega))
theorem shp1 {d : D} {n : Nat} (hp : pur d = true) (hd : d.depth ≤ n) (hn : n < 60) : SeqAt.shaped d = true := shp hp (by omega)

/-! ### for over enumerate(tuple), zip(list, tuple) -/
section
variable {K : Fg} {a b : Addr} {xs ys : List V} {g : TG} {tb : TS} {De : Ends} {σ : L2.St} {H : Hp}
/-- the body of a for's reading, behind what it walks -/
def ForG (J : It) (g : TG) (tb : TS) (De : Ends) (σ : L2.St) (H1 : Hp) : Prop := ∃ W : Nat → Nat → L2.St → Hp → Prop, (∃ m, W 0 m σ H1) ∧ ∀ i m σ H, W i m σ H →
  (J.stop i H ∧ De.nx σ H) ∨ (J.go i H ∧ ∃ N : L2.St → Hp → Prop, (∀ σ' H', N σ' H' → ∃ m', m' < m ∧ W (i + 1) m' σ' H') ∧ ∀ x H', J.yld i H x H' → g x σ H' fun σ2 H2 => tb { De with nx := N, ct := N, bk := De.nx } σ2 H2)
theorem st_for {wi : TI} (q : wi σ H fun J H1 => ForG J g tb De σ H1) : tFor wi g tb De σ H := q
theorem forT (Pv : Nat → L2.St → Hp → Prop) (h0 : Pv 0 σ H) (hl : ∀ i σ H, Pv i σ H → SqT K H a xs)
    (hs : ∀ i x σ H, xs[i]? = some x → Pv i σ H → g x σ H fun σ2 H2 => tb { De with nx := Pv (i + 1), ct := Pv (i + 1), bk := De.nx } σ2 H2) (hd : ∀ σ H, Pv xs.length σ H → De.nx σ H) : ForG (Itt K a) g tb De σ H :=
  for_tup Pv h0 (fun i σ H _ p => hl i σ H p) hs hd
theorem forL (Pv : Nat → L2.St → Hp → Prop) (h0 : Pv 0 σ H) (hl : ∀ i σ H, Pv i σ H → SqL K H a xs)
    (hs : ∀ i x σ H, xs[i]? = some x → Pv i σ H → g x σ H fun σ2 H2 => tb { De with nx := Pv (i + 1), ct := Pv (i + 1), bk := De.nx } σ2 H2) (hd : ∀ σ H, Pv xs.length σ H → De.nx σ H) : ForG (Itl K a) g tb De σ H :=
  for_list Pv h0 (fun i σ H _ p => hl i σ H p) hs hd
theorem forR {lo : Int} {n : Nat} (Pv : Nat → L2.St → Hp → Prop) (h0 : Pv 0 σ H)
    (hs : ∀ i σ H, i < n → Pv i σ H → g (.int (lo + i)) σ H fun σ2 H2 => tb { De with nx := Pv (i + 1), ct := Pv (i + 1), bk := De.nx } σ2 H2) (hd : ∀ σ H, Pv n σ H → De.nx σ H) : ForG (Itr lo n) g tb De σ H :=
  for_range Pv h0 hs hd
theorem forE (Pv : Nat → L2.St → Hp → Prop) (h0 : Pv 0 σ H) (hq : ∀ i σ H, Pv i σ H → SqT K H a xs)
    (hs : ∀ (i : Nat) (x : V) (t : Addr) (σ : L2.St) (H : Hp), xs[i]? = some x → Pv i σ H → H t = none → g (.ref t) σ (upd H t (.tup [.int (i : Nat), x])) fun σ2 H2 => tb { De with nx := Pv (i + 1), ct := Pv (i + 1), bk := De.nx } σ2 H2)
    (hd : ∀ σ H, Pv xs.length σ H → De.nx σ H) : ForG (JeT K a) g tb De σ H := by
  refine ⟨fun i m σ H => m = xs.length - i ∧ i ≤ xs.length ∧ Pv i σ H, ⟨xs.length, rfl, Nat.zero_le _, h0⟩, ?_⟩
  rintro i m σ H ⟨rfl, hi, p⟩
  have qx := hq i σ H p
  by_cases hlt : i < xs.length
  · refine .inr ⟨⟨xs, xs[i], qx, by simp [hlt]⟩, Pv (i + 1), fun σ' H' p' => ⟨xs.length - (i + 1), by omega, rfl, hlt, p'⟩, fun v H' y => ?_⟩
    obtain ⟨t, x, rfl, ht, rfl, hx⟩ := y
    exact hs i x t σ H (hx xs qx) p ht
  · have e : i = xs.length := by omega
    subst e
    exact .inl ⟨⟨xs, qx, rfl⟩, hd _ _ p⟩
theorem forZ (hl : xs.length = ys.length) (Pv : Nat → L2.St → Hp → Prop) (h0 : Pv 0 σ H) (hq : ∀ i σ H, Pv i σ H → SqL K H a xs ∧ SqT K H b ys)
    (hs : ∀ (i : Nat) (x y : V) (t : Addr) (σ : L2.St) (H : Hp), xs[i]? = some x → ys[i]? = some y → Pv i σ H → H t = none → g (.ref t) σ (upd H t (.tup [x, y])) fun σ2 H2 => tb { De with nx := Pv (i + 1), ct := Pv (i + 1), bk := De.nx } σ2 H2)
    (hd : ∀ σ H, Pv xs.length σ H → De.nx σ H) : ForG (JzLT K a b) g tb De σ H := by
  refine ⟨fun i m σ H => m = xs.length - i ∧ i ≤ xs.length ∧ Pv i σ H, ⟨xs.length, rfl, Nat.zero_le _, h0⟩, ?_⟩
  rintro i m σ H ⟨rfl, hi, p⟩
  obtain ⟨qx, qy⟩ := hq i σ H p
  by_cases hlt : i < xs.length
  · refine .inr ⟨⟨xs, ys, xs[i], ys[i], qx, qy, by simp [hlt], by simp⟩, Pv (i + 1), fun σ' H' p' => ⟨xs.length - (i + 1), by omega, rfl, hlt, p'⟩, fun v H' z => ?_⟩
    obtain ⟨t, x, y, rfl, ht, rfl, hx, hy⟩ := z
    exact hs i x y t σ H (hx xs qx) (hy ys qy) p ht
  · have e : i = xs.length := by omega
    subst e
    exact .inl ⟨⟨xs, ys, qx, qy, by omega⟩, hd _ _ p⟩
end
/-! ### steps -/
section
variable {K : Fg} {σ : L2.St} {H : Hp} {v x y : V} {Q : VK} {te ta tv : TE} {De : Ends} {f m : Str} {a C dx : Addr} {fs : List (Str × V)} {xs : List V}
theorem st_fld (q : te σ H fun x H1 => ∃ a C dx fs v, x = .ref a ∧ H1 a = some (.ins C dx fs) ∧ Cls K C ∧ NoAttr K C f ∧ fs.lookup f = some v ∧ Q v H1) : tFld K te f σ H Q := q
theorem st_sfld (q : tv σ H fun y H1 => ta σ H1 fun x H2 => ∃ a C dx fs, x = .ref a ∧ H2 a = some (.ins C dx fs) ∧ Cls K C ∧ NoAttr K C f ∧ fs.length < 1000 ∧ De.nx σ (upd H2 a (.ins C dx (putF f y fs)))) : sFld K ta tv f De σ H := q
theorem st_prop {sp : Sp} {dvs : List V} {E : XK} (q : te σ H fun x H1 => ∃ a dx fs, x = .ref a ∧ H1 a = some (.ins C dx fs) ∧ sp (.ref a :: dvs) H1 Q E) : tProp C sp dvs E te σ H Q := q
theorem st_meth {sp : Sp} {dvs : List V} {E : XK} {t : TA} (q : te σ H fun x H1 => ∃ a dx fs, x = .ref a ∧ H1 a = some (.ins C dx fs) ∧ fs.lookup m = none ∧ t σ H1 fun vs H2 => sp (x :: (vs ++ dvs)) H2 Q E) : tMeth C m sp dvs E te t σ H Q := q
theorem st_make {sp : Sp} {dvs : List V} {E : XK} {t : TA} (q : t σ H fun vs H1 => ∀ x dx, H1 x = none → H1 dx = none → dx ≠ x → sp (.ref x :: (vs ++ dvs)) (upd (upd H1 dx (.own x)) x (.ins C dx [])) (fun v H2 => v = .non ∧ Q (.ref x) H2) E) : tMake C sp dvs E t σ H Q := q
/-- a statement that no run reaches -/
def tDead : TS := fun _ _ _ => False
theorem ps_dead {X : Cx} {st : Stmt} : PS X st tDead := ⟨fun _ _ _ _ _ _ h => h.elim⟩
theorem st_g2 {i j : Nat} {Q : L2.St → Hp → Prop} (h : SqT K H a [x, y]) (q : Q ((σ.set i (some x)).set j (some y)) H) : gTup K 2 (gCons (gName i) (gCons (gName j) gNil)) (.ref a) σ H Q := ⟨a, [x, y], rfl, h, rfl, x, [y], rfl, y, [], rfl, rfl, q⟩
theorem st_g3 {i j k : Nat} {z : V} {Q : L2.St → Hp → Prop} (h : SqT K H a [x, y, z]) (q : Q (((σ.set i (some x)).set j (some y)).set k (some z)) H) : gTup K 3 (gCons (gName i) (gCons (gName j) (gCons (gName k) gNil))) (.ref a) σ H Q := ⟨a, _, rfl, h, rfl, x, _, rfl, y, _, rfl, z, _, rfl, rfl, q⟩
theorem isiI {i : Int} {Q : VK} (q : Q (.bl true) H) : rIsi K [.int i, .ty "int"] H Q := ⟨.int i, .ty "int", .type "int", .type "int", true, rfl, .ty _, .base (.int _), kit_ty (by decide +kernel), q⟩
theorem isiB {i : Int} {Q : VK} (q : Q (.bl false) H) : rIsi K [.int i, .ty "bool"] H Q := ⟨.int i, .ty "bool", .type "int", .type "bool", false, rfl, .ty _, .base (.int _), kit_ty (by decide +kernel), q⟩
theorem isiS {z : Str} {Q : VK} (q : Q (.bl true) H) : rIsi K [.str z, .ty "str"] H Q := ⟨.str z, .ty "str", .type "str", .type "str", true, rfl, .ty _, .base (.str _), kit_ty (by decide +kernel), q⟩
theorem tyT (h : SqT K H a xs) : TyX K H (.ref a) (.type "tuple") := by
  rcases h with (h | ⟨ob, h⟩) | ⟨o, its, n, hk, hc, _⟩
  · exact .base (.tup h)
  · exact .fTuple h
  · exact .kTuple hk hc
theorem isiT {Q : VK} (h : SqT K H a xs) (q : Q (.bl true) H) : rIsi K [.ref a, .ty "tuple"] H Q := ⟨.ref a, .ty "tuple", .type "tuple", .type "tuple", true, rfl, .ty _, tyT h, kit_ty (by decide +kernel), q⟩
def rLen (K : Fg) : List V → Hp → VK → Prop := fun vs H Q => ∃ x n, vs = [x] ∧ LenV K x H n ∧ Q (.int n) H
theorem call_lenR {X : Cx} : CallR X (.builtin "len") (rLen X.K) := call_len
theorem lenT {Q : VK} (h : SqT K H a xs) (q : Q (.int xs.length) H) : rLen K [V.ref a] H Q := ⟨.ref a, xs.length, rfl, .inr ⟨xs, h, rfl⟩, q⟩
theorem lenL {Q : VK} (h : SqL K H a xs) (q : Q (.int xs.length) H) : rLen K [V.ref a] H Q := ⟨.ref a, xs.length, rfl, .inl ⟨xs, h, rfl⟩, q⟩
end
end Sp
end
section
set_option Elab.async false
set_option linter.all false
set_option maxRecDepth 100000
set_option maxHeartbeats 4000000
set_option autoImplicit false
/-! Sp: rules by what the promises know (g), so that they fit within a comprehension's block, too. -/
namespace Sp
open PySem PySem.Spec PyProof.Rows L2
/-- what the walk's promises know -/
structure Gx where
  P : Program
  w : World
  K : Fg
  mg : Str → Option Value
  base : Heap
  T : List (Addr × Str)
  nc : Addr
  oc : Addr
  bc : Addr
theorem room_un {k : Nat} {A : Around} (h : Room k A) : A.units + 65 < cLine := by have := h.un; omega
def rTupOf (K : Fg) : List V → Hp → VK → Prop := fun xs H Q => ∃ p ys, xs = [.ref p] ∧ ((SqL K H p ys ∧ ∀ l, H l = none → Q (.ref l) (upd H l (.tup ys))) ∨ (SqT K H p ys ∧ Q (.ref p) H))
def rListOf (K : Fg) : List V → Hp → VK → Prop := fun xs H Q => ∃ p ys, xs = [.ref p] ∧ (SqL K H p ys ∨ SqT K H p ys) ∧ ∀ l, H l = none → Q (.ref l) (upd H l (.lst ys))
def rInt1 : List V → Hp → VK → Prop := fun xs H Q => (∃ i, xs = [.int i] ∧ Q (.int i) H) ∨ ∃ k, xs = [.bl k] ∧ Q (.int (if k then 1 else 0)) H
def rAbs : List V → Hp → VK → Prop := fun xs H Q => ∃ i, xs = [.int i] ∧ Q (.int (if i < 0 then -i else i)) H
def rMin2 : List V → Hp → VK → Prop := fun xs H Q => ∃ i j, xs = [.int i, .int j] ∧ Q (.int (if j < i then j else i)) H
def rMax2 : List V → Hp → VK → Prop := fun xs H Q => ∃ i j, xs = [.int i, .int j] ∧ Q (.int (if j > i then j else i)) H
def rIsN : R2 := fun x y H Q => y = .non ∧ Q (.bl (decide (x = .non))) H
def rNotN : R2 := fun x y H Q => y = .non ∧ Q (.bl (!decide (x = .non))) H
section
variable (g : Gx) {X : Cx} {a e o i l elt value : Expr} {es : List Expr} {pos pos' apos cpos p p2 q : Pos} {te ta to ti tl tv : TE} {t : TA}
theorem isiW (h : X.K = g.K := by rfl) : CallR X (.builtin "isinstance") (rIsi g.K) := h ▸ call_isi
theorem lenW (h : X.K = g.K := by rfl) : CallR X (.builtin "len") (rLen g.K) := h ▸ call_lenR
theorem ixW (h : X.K = g.K := by rfl) : IxR X (rIx g.K) := h ▸ ix_seq
theorem slLW (h : X.K = g.K := by rfl) : SlR X (rSlL g.K) := h ▸ sl_list
theorem slTW (h : X.K = g.K := by rfl) : SlR X (rSlA g.K) := h ▸ sl_tupA
theorem tupOfW (h : X.K = g.K := by rfl) : CallR X (.type "tuple") (rTupOf g.K) := h ▸ call_tuple_of
theorem listOfW (h : X.K = g.K := by rfl) : CallR X (.type "list") (rListOf g.K) := h ▸ call_list_of
theorem int1W : CallR X (.type "int") rInt1 := call_int1
theorem absW : CallR X (.builtin "abs") rAbs := call_abs
theorem min2W (hc : X.calm = true := by rfl) : CallR X (.builtin "min") rMin2 := call_min2 hc
theorem max2W (hc : X.calm = true := by rfl) : CallR X (.builtin "max") rMax2 := call_max2 hc
theorem minTW (hu : X.A.units + 65 < cLine) (hc : X.calm = true := by rfl) (h : X.K = g.K := by rfl) : CallR X (.builtin "min") (rMinT g.K) := h ▸ call_minT hc hu
theorem maxTW (hu : X.A.units + 65 < cLine) (hc : X.calm = true := by rfl) (h : X.K = g.K := by rfl) : CallR X (.builtin "max") (rMaxT g.K) := h ▸ call_maxT hc hu
theorem allW (hc : X.calm = true := by rfl) (h : X.K = g.K := by rfl) : CallR X (.builtin "all") (rAll g.K) := h ▸ cr_all hc
theorem sortedIW (h : X.K = g.K := by rfl) : CallR X (.builtin "sorted") (rSortedI g.K) := h ▸ cr_sortedI
theorem sortedDW (hu : X.A.units + 65 < cLine) (h : X.K = g.K := by rfl) : CallR X (.builtin "sorted") (rSortedD g.K) := h ▸ call_sortedD hu
theorem sortedTW (hu : X.A.units + 65 < cLine) (h : X.K = g.K := by rfl) : CallR X (.builtin "sorted") (rSortedT g.K) := h ▸ call_sortedT hu
theorem isNW : OpR X (compareOp .Is) rIsN := op_isN
theorem notNW : OpR X (compareOp .IsNot) rNotN := op_notN
theorem inTW (hu : X.A.units + 65 < cLine) (h : X.K = g.K := by rfl) : OpR X (compareOp .In) (rInT g.K) := h ▸ op_inT hu
theorem ninTW (hu : X.A.units + 65 < cLine) (h : X.K = g.K := by rfl) : OpR X (compareOp .NotIn) (rNotInT g.K) := h ▸ op_notInT hu
theorem inDW (hu : X.A.units + 65 < cLine) (h : X.K = g.K := by rfl) : OpR X (compareOp .In) (rInD g.K) := h ▸ op_inD hu
theorem ninDW (hu : X.A.units + 65 < cLine) (h : X.K = g.K := by rfl) : OpR X (compareOp .NotIn) (rNotInD g.K) := h ▸ op_notInD hu
theorem eqDW (hu : X.A.units + 65 < cLine) (h : X.K = g.K := by rfl) : OpR X (compareOp .Eq) (rEqD g.K) := h ▸ op_eqD (by omega)
theorem neDW (hu : X.A.units + 65 < cLine) (h : X.K = g.K := by rfl) : OpR X (compareOp .NotEq) (rNeD g.K) := h ▸ op_neD (by omega)
theorem inNW (hu : X.A.units + 65 < cLine) (h : X.prog = g.P ∧ X.w = g.w ∧ X.K = g.K := by exact ⟨rfl, rfl, rfl⟩) : OpR X (compareOp .In) (rInN g.P g.w g.K) := by
  rw [← h.1, ← h.2.1, ← h.2.2]; exact op_inN hu
theorem ninNW (hu : X.A.units + 65 < cLine) (h : X.prog = g.P ∧ X.w = g.w ∧ X.K = g.K := by exact ⟨rfl, rfl, rfl⟩) : OpR X (compareOp .NotIn) (rNotInN g.P g.w g.K) := by
  rw [← h.1, ← h.2.1, ← h.2.2]; exact op_notInN hu
theorem catAW (h : X.K = g.K := by rfl) : OpR X (binaryOp .Add) (rCatA g.K) := h ▸ op_catA
theorem indexW (h : X.K = g.K := by rfl) : MtR X "list.index" (rIndex g.K) := h ▸ mt_index
theorem fldW {f : Str} (he : PE X e ta) (hb : attributeBase e f X.env (eval e X.env) = eval e X.env) (h : X.K = g.K := by rfl) : PE X (.Attribute e f pos) (tFld g.K ta f) := h ▸ pe_fld he hb
theorem sfldW {f : Str} (ha : PE X o ta) (hv : PE X value tv) (hs : swapsWith value (some (.Attribute o f pos')) pos.line X.env = pure false) (h : X.K = g.K := by rfl) : PS X (.Assign [.Attribute o f pos'] value pos) (sFld g.K ta tv f) := h ▸ ps_fld ha hv hs
theorem iLW {tg : Expr} (hl : PE X l tl) (h : X.K = g.K := by rfl) : PI X tg l (iList g.K tl) := h ▸ pi_list hl
theorem iTW {tg : Expr} (hl : PE X l tl) (h : X.K = g.K := by rfl) : PI X tg l (iTup g.K tl) := h ▸ pi_tup hl
theorem iEW {tpos : Pos} {elts : List Expr} {n : Nat} (hg : Gl X "enumerate") (hm : X.mg "enumerate" = none) (ha : PA X [e] t) (hs : starEach [e] X.env = [(false, eval e X.env)] := by rfl) (h : X.K = g.K := by rfl) :
    PI X (.Tuple elts n tpos) (.Call (.Name "enumerate" p) [e] [] pos) (iEnumT g.K t) := h ▸ pi_enumT hg hm ha hs
theorem iZW {tpos : Pos} {elts : List Expr} {e2 : Expr} {n : Nat} (hg : Gl X "zip") (hm : X.mg "zip" = none) (ha : PA X [e, e2] t) (hs : starEach [e, e2] X.env = (false, eval e X.env) :: starEach [e2] X.env := by rfl) (hpl : (backTo pos (starEach [e2] X.env)).any (·.1) = false := by rfl) (h : X.K = g.K := by rfl) :
    PI X (.Tuple elts n tpos) (.Call (.Name "zip" p) [e, e2] [] pos) (RZ.iZipA g.K t) := h ▸ RZ.pi_zipA hg hm ha hs hpl
theorem iZLTW {tpos : Pos} {elts : List Expr} {e2 : Expr} {n : Nat} (hg : Gl X "zip") (hm : X.mg "zip" = none) (ha : PA X [e, e2] t) (hs : starEach [e, e2] X.env = (false, eval e X.env) :: starEach [e2] X.env := by rfl) (hpl : (backTo pos (starEach [e2] X.env)).any (·.1) = false := by rfl) (h : X.K = g.K := by rfl) :
    PI X (.Tuple elts n tpos) (.Call (.Name "zip" p) [e, e2] [] pos) (iZipLT g.K t) := h ▸ pi_zipLT hg hm ha hs hpl
theorem gTW {k n : Nat} {t : TGs} (hc : X.calm = true) (hh : PGs X es t) (hn : (assignEach es X.env).length = n := by rfl) (hst : (assignEach es X.env).findIdx? (·.1) = none := by rfl) (h : X.K = g.K := by rfl) : PG X (.Tuple es k pos) (gTup g.K n t) := h ▸ pg_tup hc hh hn hst
theorem lenSetW (hc : X.calm = true) (hg : Gl X "len") (hm : X.mg "len" = none) (hg2 : Gl X "set") (hm2 : X.mg "set" = none) (ha : PE X a ta) (na : starEach [a] X.env = (false, eval a X.env) :: starEach [] X.env := by rfl) (h : X.K = g.K := by rfl) :
    PE X (.Call (.Name "len" p) [.Call (.Name "set" p2) [a] [] q] [] pos) (RZ.tLenSetI g.K ta) := h ▸ RZ.pe_lenSetI hg hm hg2 hm2 ha hc na
theorem ixNW (hu : X.A.units + 65 < cLine) (ho : PE X o to) (hi : PE X i ti) (hs : NoSl i) (h : X.prog = g.P ∧ X.w = g.w ∧ X.K = g.K := by exact ⟨rfl, rfl, rfl⟩) : PE X (.Subscript o i pos) (tOp (rIxN g.P g.w g.K) to ti) := by
  rw [← h.1, ← h.2.1, ← h.2.2]; exact pe_ixN hu ho hi hs
theorem getNW {f : Expr} {tx : TE} (hu : X.A.units + 65 < cLine) (ho : PE X o to) (he : PE X e te) (hf : PE X f tx) (m : M2 X o "get" apos e f cpos) (h : X.prog = g.P ∧ X.w = g.w ∧ X.K = g.K := by exact ⟨rfl, rfl, rfl⟩) :
    PE X (.Call (.Attribute o "get" apos) [e, f] [] cpos) (tDGetN g.P g.w g.K to te tx) := by
  rw [← h.1, ← h.2.1, ← h.2.2]; exact pe_dgetN hu ho he hf m
theorem newNW (h : X.prog = g.P ∧ X.w = g.w := by exact ⟨rfl, rfl⟩) : PE X (.Dict [] [] pos) (tDNewN g.P g.w) := by
  rw [← h.1, ← h.2]; exact pe_dnewN
theorem putNW (hu : X.A.units + 65 < cLine) (ho : PE X o to) (hi : PE X i ti) (hv : PE X value tv) (hs : swapsWith value (some (.Subscript o i pos')) pos.line X.env = pure false) (h : X.prog = g.P ∧ X.w = g.w ∧ X.K = g.K := by exact ⟨rfl, rfl, rfl⟩) :
    PS X (.Assign [.Subscript o i pos'] value pos) (sDPutN g.P g.w g.K to ti tv) := by
  rw [← h.1, ← h.2.1, ← h.2.2]; exact ps_dputN hu ho hi hv hs
theorem dictNW (hu : X.A.units + 65 < cLine) (hc : X.calm = true := by rfl) (h : X.prog = g.P ∧ X.w = g.w ∧ X.K = g.K := by exact ⟨rfl, rfl, rfl⟩) : CallR X (.type "dict") (rDictN g.P g.w g.K) := by
  rw [← h.1, ← h.2.1, ← h.2.2]; exact call_dictN hu hc
theorem listNW (hc : X.calm = true := by rfl) (h : X.prog = g.P ∧ X.w = g.w ∧ X.K = g.K := by exact ⟨rfl, rfl, rfl⟩) : CallR X (.type "list") (rListN g.P g.w g.K) := by
  rw [← h.1, ← h.2.1, ← h.2.2]; exact call_listN hc
theorem revLW {k : Nat} {p1 p2 p3 : Pos} (he : PE X e te) (h : X.K = g.K := by rfl) : PE X (.Subscript e (.Slice none none (some (.UnaryOp .USub (.Constant (.int 1) k p1) p2)) p3) pos) (tRevL g.K te) := h ▸ pe_revL he
end
section
variable {g : Gx} {K : Fg} {H : Hp} {Q : VK} {p : Addr} {ys : List V}
theorem tupL (h : SqL K H p ys) (q : ∀ l, H l = none → Q (.ref l) (upd H l (.tup ys))) : rTupOf K [.ref p] H Q := ⟨p, ys, rfl, .inl ⟨h, q⟩⟩
theorem tupT (h : SqT K H p ys) (q : Q (.ref p) H) : rTupOf K [.ref p] H Q := ⟨p, ys, rfl, .inr ⟨h, q⟩⟩
theorem lstL (h : SqL K H p ys) (q : ∀ l, H l = none → Q (.ref l) (upd H l (.lst ys))) : rListOf K [.ref p] H Q := ⟨p, ys, rfl, .inl h, q⟩
theorem lstT (h : SqT K H p ys) (q : ∀ l, H l = none → Q (.ref l) (upd H l (.lst ys))) : rListOf K [.ref p] H Q := ⟨p, ys, rfl, .inr h, q⟩
theorem int1I {n : Int} (q : Q (.int n) H) : rInt1 [.int n] H Q := .inl ⟨n, rfl, q⟩
theorem int1B {b : Bool} (q : Q (.int (if b then 1 else 0)) H) : rInt1 [.bl b] H Q := .inr ⟨b, rfl, q⟩
theorem absI {n : Int} (q : Q (.int (if n < 0 then -n else n)) H) : rAbs [.int n] H Q := ⟨n, rfl, q⟩
theorem min2I {i j : Int} (q : Q (.int (if j < i then j else i)) H) : rMin2 [.int i, .int j] H Q := ⟨i, j, rfl, q⟩
theorem max2I {i j : Int} (q : Q (.int (if j > i then j else i)) H) : rMax2 [.int i, .int j] H Q := ⟨i, j, rfl, q⟩
theorem isNI {x : V} (q : Q (.bl (decide (x = .non))) H) : rIsN x .non H Q := ⟨rfl, q⟩
theorem notNI {x : V} (q : Q (.bl (!decide (x = .non))) H) : rNotN x .non H Q := ⟨rfl, q⟩
end
end Sp
namespace Sp
open PySem PySem.Spec PyProof.Rows L2
section
variable {K : Fg} {H : Hp} {Q : VK} {a : Addr} {xs : List V}
/-- a slice of a tuple: the tuple itself, or a new one -/
theorem slA {lo hi : Option Int} (h : SqT K H a xs) (q : ∀ p H', (H' = H ∨ (H p = none ∧ H' = upd H p (.tup (cutV xs lo hi)))) → SqT K H' p (cutV xs lo hi) → Q (.ref p) H') : rSlA K (.ref a) lo hi H Q := by
  refine ⟨a, xs, rfl, h, fun ⟨h1, h2⟩ => ?_, fun _ p hp => q p _ (.inr ⟨hp, rfl⟩) (.of upd_same)⟩
  have e : cutV xs lo hi = xs := by
    unfold cutV
    rw [h1, h2]
    simp
  exact q a H (.inl rfl) (by rw [e]; exact h)
theorem cut_from (xs : List V) (n : Nat) : cutV xs (some (n : Int)) none = xs.drop n := by
  unfold cutV
  rw [HT.sIx_nat, HT.sIx_none]
  by_cases h : n ≤ xs.length
  · rw [Nat.min_eq_left h, List.take_of_length_le (by simp)]
  · rw [Nat.min_eq_right (by omega), List.drop_of_length_le (by omega : xs.length ≤ n)]
    simp
theorem cut_to (xs : List V) (n : Nat) : cutV xs none (some (n : Int)) = xs.take n := by
  unfold cutV
  rw [HT.sIx_nat, HT.sIx_none, List.drop_zero, Nat.sub_zero]
  by_cases h : n ≤ xs.length
  · rw [Nat.min_eq_left h]
  · rw [Nat.min_eq_right (by omega), List.take_of_length_le (Nat.le_refl _), List.take_of_length_le (by omega)]
theorem cut_butlast (xs : List V) : cutV xs none (some (-1)) = xs.take (xs.length - 1) := by
  unfold cutV
  rw [HT.sIx_none, List.drop_zero, Nat.sub_zero]
  show xs.take (if (-1 : Int) < 0 then ((-1 : Int) + (xs.length : Int)).toNat else min (-1 : Int).toNat xs.length) = _
  rw [if_pos (by decide)]
  congr 1
  omega
end
end Sp
namespace Sp
open PySem PySem.Spec PyProof.Rows L2
section
variable {K : Fg} {σ σ' : L2.St} {H : Hp} {Q : VK} {a : Addr} {xs : List V} {vs : List Nat} {te tl th : TE} {R : It → Hp → Prop}
theorem st_wp {P : Prop} (h : wipe σ' vs = wipe σ vs) (q : P) : wipe σ' vs = wipe σ vs ∧ P := ⟨h, q⟩
theorem st_yes {Q : Bool → Hp → Prop} (q : Q true H) : tYes σ H Q := q
theorem walkT (h : SqT K H a xs) (q : R (Itt K a) H) : ∃ b, V.ref a = .ref b ∧ (∃ xs, SqT K H b xs) ∧ R (Itt K b) H := ⟨a, rfl, ⟨xs, h⟩, q⟩
theorem walkL (h : SqL K H a xs) (q : R (Itl K a) H) : ∃ b, V.ref a = .ref b ∧ (∃ xs, SqL K H b xs) ∧ R (Itl K b) H := ⟨a, rfl, ⟨xs, h⟩, q⟩
/-- a comprehension over the zip of two tuples of one length: t the new pair -/
theorem lcZ {T : List (Addr × Str)} {α β : Type} {b : Addr} {ys : List V} {g : TG} {tt : TT} {te : TE} {l : List α} {m : List β} {enc : α → D} {enc2 : β → D} (f : α × β → Bool) (G : α × β → D) (hs : SqT K H a xs) (hs2 : SqT K H b ys) (hx : TpAll K H xs (l.map enc)) (hy : TpAll K H ys (m.map enc2)) (hz : l.length ≤ 100000)
    (turn : ∀ z x y t H1, z ∈ l.zip m → Ex T H H1 → Tp K H1 x (enc z.1) → Tp K H1 y (enc2 z.2) → SqT K H1 t [x, y] → LcTurn T K g tt te vs σ H1 (f z) (G z) (.ref t))
    (fin : ∀ p H' zs, New H p → Ex T H H' → H' p = some (.lst zs) → TpAll K H' zs (((l.zip m).filter f).map G) → Q (.ref p) H') : LcG (RZ.ItzT K a b) g tt te vs σ H Q := by
  intro L hL
  have hlen : xs.length = l.length := by rw [hx.len, List.length_map]
  have hlen2 : ys.length = m.length := by rw [hy.len, List.length_map]
  have hzl : (l.zip m).length = min xs.length ys.length := by rw [List.length_zip, hlen, hlen2]
  refine ⟨fun i n H' => n = min xs.length ys.length - i ∧ i ≤ min xs.length ys.length ∧ LcP T K H L (kept f G ((l.zip m).take i)) H', ⟨_, rfl, Nat.zero_le _, by rw [List.take_zero]; exact .start hL⟩, ?_⟩
  rintro i n H' ⟨rfl, hi, p⟩
  by_cases hlt : i < min xs.length ys.length
  · have h1 : i < xs.length := by omega
    have h2 : i < ys.length := by omega
    refine .inr ⟨⟨xs, ys, xs[i], ys[i], p.ex.st hs, p.ex.st hs2, by simp, by simp⟩, fun H2 => LcP T K H L (kept f G ((l.zip m).take (i + 1))) H2, fun H2 p2 => ⟨_, by omega, rfl, hlt, p2⟩, fun v H2 y => ?_⟩
    obtain ⟨t, x, y, rfl, ht, rfl, hxi, hyi⟩ := y
    have hx0 := hxi xs (p.ex.st hs)
    have hy0 := hyi ys (p.ex.st hs2)
    obtain ⟨z, hz', hxz⟩ := hx.src hx0
    obtain ⟨z2, hz2, hyz⟩ := hy.src hy0
    have e2 : Ex T H' (upd H' t (.tup [x, y])) := .new ht
    have hzi : (l.zip m)[i]? = some (z, z2) := by rw [List.getElem?_zip_eq_some]; exact ⟨hz', hz2⟩
    refine lc_step (p.skip e2) (by have := kept_len (b := f) (G := G) (l := l.zip m) (i := i); omega) (turn (z, z2) x y t _ (List.mem_of_getElem? hzi) (p.ex.trans e2) (e2.tp (p.ex.tp hxz)) (e2.tp (p.ex.tp hyz)) (.of upd_same)) fun H3 q => ?_
    rw [kept_snoc hzi]
    exact q
  · have e : i = min xs.length ys.length := by omega
    subst e
    refine .inl ⟨⟨xs, ys, p.ex.st hs, p.ex.st hs2, by omega⟩, ?_⟩
    obtain ⟨zs, h1, h2⟩ := p.at_
    rw [show (l.zip m).take (min xs.length ys.length) = l.zip m by rw [← hzl, List.take_length]] at h2
    exact fin L H' zs p.new p.ex h1 h2
/-- bools as data -/
theorem tpBls {l : List Bool} : ∀ {xs : List V}, TpAll K H xs (l.map PyData.bool) → xs = l.map V.bl := by
  induction l with
  | nil => intro xs h; cases h; rfl
  | cons b l ih =>
    intro xs h
    cases h with
    | cons h1 h2 => rw [tp_bl h1, ih h2]; rfl
end
end Sp
namespace Sp
open PySem PySem.Spec PyProof.Rows L2
section
variable {σ : L2.St} {H : Hp} {te : TE} {i : Int}
theorem st_sl {r : V → Option Int → Option Int → Hp → VK → Prop} {tl th : TO} {Q : VK} (q : te σ H fun x H1 => tl σ H1 fun l H2 => th σ H2 fun h H3 => r x l h H3 Q) : L2.tSl r te tl th σ H Q := q
theorem st_part {Q : Option Int → Hp → Prop} (q : te σ H fun x H1 => ∃ i, x = .int i ∧ Q (some i) H1) : tPart te σ H Q := q
theorem st_nopart {Q : Option Int → Hp → Prop} (q : Q none H) : tNoPart σ H Q := q
theorem st_intx {P : Int → Prop} (q : P i) : ∃ k, V.int i = V.int k ∧ P k := ⟨i, rfl, q⟩
end
end Sp
end
section
set_option Elab.async false
set_option linter.all false
set_option maxRecDepth 100000
set_option maxHeartbeats 4000000
set_option autoImplicit false
/-! Sp: objects that are being made; sorts of numbers; lists of lists. -/
namespace Sp
open PySem PySem.Spec PyProof.Rows L2
/-- growth but for the object at x, which may change -/
structure ExB (T : List (Addr × Str)) (x : Addr) (H H' : Hp) : Prop where
  ext : ∀ b o, b ≠ x → H b = some o → (∀ ps, o ≠ .tbl ps) → H' b = some o
  tab : LamX.Tabs T H → LamX.Tabs T H'
section
variable {T : List (Addr × Str)} {H H' H1 H2 : Hp} {K : Fg} {x dx C p : Addr} {fs : List (Str × V)} {o : HO}
theorem ExB.refl : ExB T x H H := ⟨fun _ _ _ e _ => e, fun t => t⟩
theorem ExB.then (a : ExB T x H H1) (b : Ex T H1 H2) : ExB T x H H2 := ⟨fun c o n e nt => b.ext c o (a.ext c o n e nt) nt, fun t => b.tab (a.tab t)⟩
theorem tabs_upd {u : HO} (t : LamX.Tabs T H) (hx : H x = some u) (n1 : ∀ ps, u ≠ .tbl ps) (n2 : ∀ q, u ≠ LamX.CodeO x q) : LamX.Tabs T (upd H x o) := fun q hq => by
  obtain ⟨ps, h1, h2, h3⟩ := t q hq
  have np : q.1 ≠ x := fun z => by
    rw [z, hx] at h1
    exact n1 _ (Option.some.inj h1)
  refine ⟨ps, by rw [upd_ne np]; exact h1, h2, fun pos cv hc => ?_⟩
  obtain ⟨c, e1, e2⟩ := h3 pos cv hc
  have nc : c ≠ x := fun z => by
    rw [z] at e2
    rw [hx] at e2
    exact n2 _ (Option.some.inj e2)
  exact ⟨c, e1, by rw [upd_ne nc]; exact e2⟩
theorem ExB.set (a : ExB T x H H1) (h : H1 x = some (.ins C dx fs)) : ExB T x H (upd H1 x o) :=
  ⟨fun b u n e nt => by rw [upd_ne n]; exact a.ext b u n e nt, fun t => tabs_upd (a.tab t) h (fun ps z => by cases z) (fun q z => by unfold LamX.CodeO at z; cases z)⟩
/-- a new instance, made -/
theorem ExB.made (hx : H x = none) (hd : H dx = none) (hn : dx ≠ x) (a : ExB T x (upd (upd H dx (.own x)) x o) H') : Ex T H H' := by
  refine ⟨fun b u e nt => a.ext b u (ne_of_none e hx) ?_ nt, fun t => a.tab ?_⟩
  · rw [upd_ne (ne_of_none e hx), upd_ne (ne_of_none e hd)]
    exact e
  · exact t.ext fun b u e => by
      rw [upd_ne (ne_of_none e hx), upd_ne (ne_of_none e hd)]
      exact e
theorem ExB.st {u : HO} (a : ExB T x H H') (h : NoTup H x) {b : Addr} {xs : List V} (q : SqT K H b xs) : SqT K H' b xs := by
  rcases q with q | q
  · have n : b ≠ x := fun z => by
      rw [z] at q
      exact h _ q
    rcases q with q | ⟨ob, q⟩
    · exact .inl (.inl (a.ext b _ n q (fun ps z => by cases z)))
    · exact .inl (.inr ⟨ob, a.ext b _ n q (fun ps z => by cases z)⟩)
  · exact .inr q
theorem ExB.tp (a : ExB T x H H') (h : NoTup H x) {v : V} {d : D} (q : Tp K H v d) : Tp K H' v d := q.mv fun _ _ => a.st (u := .tup []) h
theorem ExB.tps (a : ExB T x H H') (h : NoTup H x) {v : List V} {d : List D} (q : TpAll K H v d) : TpAll K H' v d := q.mv fun _ _ => a.st (u := .tup []) h
end
/-! ### sorts -/
theorem ints_alike {β : Type} (l : List β) (k : β → Int) : PySem.W.AllAlike (l.map fun b => PyData.int (k b)) := PySem.W.AllAlike.of fun _ _ => rfl
theorem ints_sortable {β : Type} (l : List β) (k : β → Int) : PySem.W.Sortable (l.map fun b => PyData.int (k b)) := PySem.W.Sortable.others fun _ => ⟨fun z => (nomatch z), fun _ z => (nomatch z)⟩
theorem pairs_alike {β : Type} (l : List β) (k j : β → Int) : PySem.W.AllAlike (l.map fun b => PyData.tuple [.int (k b), .int (j b)]) := PySem.W.AllAlike.of fun _ _ => rfl
theorem pairs_sortable {β : Type} (l : List β) (k j : β → Int) : PySem.W.Sortable (l.map fun b => PyData.tuple [.int (k b), .int (j b)]) := PySem.W.Sortable.tuples fun _ => ⟨_, _, rfl⟩
/-- numbers, sorted -/
def srt (l : List Nat) : List Nat := l.mergeSort fun a b => decide (a ≤ b)
/-- pairs, sorted -/
def leP (a b : Nat × Nat) : Bool := decide (a.1 < b.1 ∨ (a.1 = b.1 ∧ a.2 ≤ b.2))
def srtP (l : List (Nat × Nat)) : List (Nat × Nat) := l.mergeSort leP
theorem dataLe_N : PySem.W.dataLe false eN = fun a b : Nat => decide (a ≤ b) := by
  have := PySem.W.dataLe_int (β := Nat) (fun n => (n : Int))
  refine this.trans ?_
  funext a b
  simp only [Int.ofNat_le]
theorem dataLe_P : PySem.W.dataLe false eP = leP := by
  have := PySem.W.dataLe_ii (β := Nat × Nat) (fun p => (p.1 : Int)) (fun p => (p.2 : Int))
  refine this.trans ?_
  funext a b
  simp only [leP, Int.ofNat_le, Int.ofNat_lt, Int.natCast_inj]
section
variable {K : Fg} {H : Hp} {Q : VK} {a : Addr} {xs : List V}
theorem sortL {l : List Nat} (h : SqL K H a xs) (hx : TpAll K H xs (l.map eN)) (q : ∀ p ys, H p = none → TpAll K (upd H p (.lst ys)) ys ((srt l).map eN) → Q (.ref p) (upd H p (.lst ys))) : rSortedD K [.ref a] H Q := by
  refine ⟨Nat, a, xs, l, eN, rfl, h, hx, ints_alike l _, ints_sortable l _, fun b _ => Nat.zero_le _, fun p ys hp hy => q p ys hp ?_⟩
  rw [dataLe_N] at hy
  exact hy
theorem sortLP {l : List (Nat × Nat)} (h : SqL K H a xs) (hx : TpAll K H xs (l.map eP)) (q : ∀ p ys, H p = none → TpAll K (upd H p (.lst ys)) ys ((srtP l).map eP) → Q (.ref p) (upd H p (.lst ys))) : rSortedD K [.ref a] H Q := by
  refine ⟨Nat × Nat, a, xs, l, eP, rfl, h, hx, pairs_alike l _ _, pairs_sortable l _ _, fun b _ => Nat.le_trans (eP_depth b) (by decide), fun p ys hp hy => q p ys hp ?_⟩
  rw [dataLe_P] at hy
  exact hy
theorem sortT2 {i j : Nat} (h : SqT K H a [.int i, .int j]) (hij : i < j) (q : ∀ p, H p = none → Q (.ref p) (upd H p (.lst [.int i, .int j]))) : rSortedT K [.ref a] H Q := by
  refine ⟨Nat, a, _, [i, j], eN, rfl, h, .cons (.int _) (.cons (.int _) .nil), ints_alike _ _, ints_sortable _ _, fun b _ => Nat.zero_le _, fun p ys hp hy => ?_⟩
  rw [dataLe_N, List.mergeSort_of_pairwise (by simp; omega)] at hy
  have := tpInts (l := [(i : Int), (j : Int)]) hy
  subst this
  exact q p hp
end
/-! ### lists of lists of numbers -/
/-- lists that the heap H0 did not know -/
inductive LlAll (H0 : Hp) (H : Hp) : List V → List (List Int) → Prop
  | nil : LlAll H0 H [] []
  | cons {a : Addr} {vs : List V} {l : List Int} {ls : List (List Int)} : New H0 a → H a = some (.lst (l.map V.int)) → LlAll H0 H vs ls → LlAll H0 H (.ref a :: vs) (l :: ls)
section
variable {T : List (Addr × Str)} {K : Fg} {H0 H H' : Hp} {p : Addr} {o : HO}
theorem LlAll.ex (e : Ex T H H') : ∀ {vs : List V} {ls : List (List Int)}, LlAll H0 H vs ls → LlAll H0 H' vs ls
  | _, _, .nil => .nil
  | _, _, .cons n h t => .cons n (e.at h) (LlAll.ex e t)
theorem LlAll.up (h0 : ∃ u, H0 p = some u ∧ ∀ ps, u ≠ .tbl ps) : ∀ {vs : List V} {ls : List (List Int)}, LlAll H0 H vs ls → LlAll H0 (upd H p o) vs ls
  | _, _, .nil => .nil
  | _, _, .cons (a := a) n h t => by
    refine .cons n ?_ (LlAll.up h0 t)
    have na : a ≠ p := fun z => by
      obtain ⟨u, h1, h2⟩ := h0
      rw [← z] at h1
      obtain ⟨ps, rfl⟩ := n u h1
      exact h2 ps rfl
    rw [upd_ne na]
    exact h
theorem LlAll.snoc {vs : List V} {ls : List (List Int)} {a : Addr} {l : List Int} (n : New H0 a) (h : H a = some (.lst (l.map V.int))) : LlAll H0 H vs ls → LlAll H0 H (vs ++ [.ref a]) (ls ++ [l])
  | .nil => .cons n h .nil
  | .cons n' h' t => .cons n' h' (LlAll.snoc n h t)
theorem LlAll.len : ∀ {vs : List V} {ls : List (List Int)}, LlAll H0 H vs ls → vs.length = ls.length
  | _, _, .nil => rfl
  | _, _, .cons _ _ t => congrArg Nat.succ (LlAll.len t)
theorem dpInts : ∀ l : List Int, DpAll K H (l.map V.int) (l.map PyData.int)
  | [] => .nil
  | n :: l => .cons (.int n) (dpInts l)
theorem LlAll.dps : ∀ {vs : List V} {ls : List (List Int)}, LlAll H0 H vs ls → DpAll K H vs (ls.map fun l => PyData.list (l.map PyData.int))
  | _, _, .nil => .nil
  | _, _, .cons n h t => .cons (.lst (.of h) (dpInts _)) (LlAll.dps t)
/-- a comprehension over a tuple that makes new lists of numbers -/
theorem lcTL {α : Type} {g : TG} {tt : TT} {te : TE} {vs : List Nat} {σ : L2.St} {Q : VK} {a : Addr} {xs : List V} {l : List α} {enc : α → D} (G : α → List Int) (hs : SqT K H a xs) (hx : TpAll K H xs (l.map enc)) (hz : l.length ≤ 100000)
    (turn : ∀ z x H1, z ∈ l → Ex T H H1 → Tp K H1 x (enc z) → ∀ (Yes : V → Hp → Prop) (No : Hp → Prop), (∀ b H4, Ex T H1 H4 → New H1 b → H4 b = some (.lst ((G z).map V.int)) → Yes (.ref b) H4) →
      g x (wipe σ vs) H1 fun σ2 H2 => wipe σ2 vs = wipe σ vs ∧ tt σ2 H2 fun c H3 => if c = true then te σ2 H3 Yes else No H3)
    (fin : ∀ p H' ys, New H p → Ex T H H' → H' p = some (.lst ys) → DpAll K H' ys (l.map fun z => PyData.list ((G z).map PyData.int)) → Q (.ref p) H') : LcG (Itt K a) g tt te vs σ H Q := by
  intro L hL
  have hlen : xs.length = l.length := by rw [hx.len, List.length_map]
  have h0 : ∃ u, (upd H L (.lst [])) L = some u ∧ ∀ ps, u ≠ .tbl ps := ⟨_, upd_same, fun ps z => nomatch z⟩
  refine lc_tup (xs := xs) (fun i H' => Ex T H H' ∧ (∃ u, H' L = some u ∧ ∀ ps, u ≠ .tbl ps) ∧ ∃ ys, H' L = some (.lst ys) ∧ LlAll (upd H L (.lst [])) H' ys ((l.take i).map G)) ⟨.new hL, h0, [], upd_same, by rw [List.take_zero]; exact .nil⟩ (fun i H' _ p => p.1.st hs) (fun i x H' hi p => ?_) (fun H' p => ?_)
  · obtain ⟨e, hu, ys, h1, h2⟩ := p
    obtain ⟨z, hz', hxz⟩ := hx.src hi
    have hil : i < l.length := by have := (List.getElem?_eq_some_iff.mp hi).1; omega
    refine turn z x H' (List.mem_of_getElem? hz') e (e.tp hxz) _ _ fun b H4 e2 nb hb => ?_
    have hyl : ys.length = i := by rw [h2.len, List.length_map, List.length_take]; omega
    have hbL : b ≠ L := fun z => by
      rw [z] at nb
      obtain ⟨ps, q⟩ := nb _ h1
      cases q
    have nB : New (upd H L (.lst [])) b := fun o q => by
      rw [upd_ne hbL] at q
      by_cases z : ∃ ps, o = .tbl ps
      · exact z
      · exact nb o (e.ext b o q fun ps hp => z ⟨ps, hp⟩)
    refine ⟨ys, e2.at h1, sz_lt (by omega), e.trans e2 |>.mut (.of hL) (e2.at h1) trivial, ⟨_, upd_same, fun ps z => nomatch z⟩, _, upd_same, ?_⟩
    rw [List.take_succ, hz', Option.toList_some, List.map_append]
    exact LlAll.up h0 (LlAll.snoc nB hb (h2.ex e2))
  · obtain ⟨e, hu, ys, h1, h2⟩ := p
    rw [hlen, List.take_length] at h2
    refine fin L H' ys (.of hL) e h1 ?_
    have := h2.dps (K := K)
    rw [List.map_map] at this
    exact this
end
end Sp
namespace Sp
open PySem PySem.Spec PyProof.Rows L2
theorem szr {n : Nat} (h : Nat.ble n 100000 = true) : n ≤ sizeLine := sz_of (Nat.le_of_ble_eq_true h)
theorem szrt {n : Nat} (h : Nat.ble n 99999 = true) : n < sizeLine := sz_lt (Nat.lt_succ_of_le (Nat.le_of_ble_eq_true h))
theorem any_in {α : Type} {l : List α} {f : α → D} {a : α} (hp : pur (f a) = true) (h : a ∈ l) : ((l.map f).any fun z => PyData.eqv z (f a)) = true := by
  rw [List.any_eq_true]
  exact ⟨f a, List.mem_map_of_mem h, eqv_self hp⟩
theorem any_nin {α : Type} {l : List α} {f : α → D} (hp : ∀ x, pur (f x) = true) (hi : ∀ x y, f x = f y → x = y) {a : α} (h : a ∉ l) : ((l.map f).any fun z => PyData.eqv z (f a)) = false := by
  rw [Bool.eq_false_iff]
  intro e
  rw [List.any_eq_true] at e
  obtain ⟨z, hz, e⟩ := e
  obtain ⟨x, hx, rfl⟩ := List.mem_map.mp hz
  exact h (hi _ _ (eq_of_eqv (hp x) (hp a) e) ▸ hx)
theorem eqv_int (i j : Int) : PyData.eqv (.int i) (.int j) = decide (i = j) := by
  rw [PyData.eqv]; rfl
theorem any2 (a b node : Nat) : ([PyData.int a, PyData.int b].any fun y => PyData.eqv y (.int node)) = decide (node = a ∨ node = b) := by
  show (PyData.eqv (.int a) (.int node) || (PyData.eqv (.int b) (.int node) || false)) = _
  rw [eqv_int, eqv_int, Bool.or_false]
  by_cases h1 : node = a
  · rw [decide_eq_true (show (a : Int) = node by omega), decide_eq_true (Or.inl h1)]; rfl
  · rw [decide_eq_false (show ¬ (a : Int) = node by omega), Bool.false_or]
    by_cases h2 : node = b
    · rw [decide_eq_true (show (b : Int) = node by omega), decide_eq_true (Or.inr h2)]
    · rw [decide_eq_false (show ¬ (b : Int) = node by omega), decide_eq_false (fun z => z.elim h1 h2)]
end Sp
namespace Sp
open PySem PySem.Spec PyProof.Rows L2
section
variable {P : Program} {w : World} {K : Fg} {σ : L2.St} {H : Hp} {td ty tv tx te : TE} {De : Ends} {Q : VK}
theorem st_dputN (q : tv σ H fun v H1 => td σ H1 fun x H2 => ty σ H2 fun y H3 => ∃ d L k a, x = .ref d ∧ DicAt P w K H3 d L ∧ y = .ref a ∧ SqT K H3 a (k.map kx) ∧ L.length < sizeLine ∧ De.nx σ (upd H3 d (DicN P w d (putN L k a v)))) : sDPutN P w K td ty tv De σ H := q
theorem st_dgetN (q : td σ H fun x H1 => ∃ d kvs, x = .ref d ∧ DicD P w K H1 d kvs ∧ ty σ H1 fun y H2 => ∃ k, Tp K H2 y (kD k) ∧ tx σ H2 fun z H3 => DicD P w K H3 d kvs ∧ Tp K H3 y (kD k) ∧ ∃ c, Tp K H3 z c ∧ ∀ v, Tp K H3 v ((dval kvs k).getD c) → Q v H3) : tDGetN P w K td ty tx σ H Q := q
theorem st_revL (q : te σ H fun x H1 => ∃ a xs, x = .ref a ∧ SqL K H1 a xs ∧ ∀ p, H1 p = none → Q (.ref p) (upd H1 p (.lst xs.reverse))) : tRevL K te σ H Q := q
theorem st_din (q : ty σ H fun y H1 => td σ H1 fun x H2 => ∃ a o, x = .ref a ∧ DGet H2 a y o ∧ Q (.bl o.isSome) H2) : tDIn ty td σ H Q := q
theorem st_dnin (q : ty σ H fun y H1 => td σ H1 fun x H2 => ∃ a o, x = .ref a ∧ DGet H2 a y o ∧ Q (.bl (!o.isSome)) H2) : tDNotIn ty td σ H Q := q
theorem st_dget (q : td σ H fun x H1 => ty σ H1 fun y H2 => ∃ a v, x = .ref a ∧ DGet H2 a y (some v) ∧ Q v H2) : tDGet td ty σ H Q := q
theorem st_dput (q : tv σ H fun v H1 => td σ H1 fun x H2 => ty σ H2 fun y H3 => ∃ a H4, x = .ref a ∧ DPut H3 a y v H4 ∧ De.nx σ H4) : sDPut td ty tv De σ H := q
theorem st_dc {wi : TI} {g : TG} {tt : TT} {tk : TE} {vs : List Nat} (q : wi σ H fun J H1 => ∀ D, H1 D = none → ∃ W : Nat → Nat → Hp → Prop, (∃ m, W 0 m (upd H1 D (.dK []))) ∧ ∀ i m H, W i m H →
  (J.stop i H ∧ Q (.ref D) H) ∨ (J.go i H ∧ ∃ Nx : Hp → Prop, (∀ H', Nx H' → ∃ m', m' < m ∧ W (i + 1) m' H') ∧ ∀ x H', J.yld i H x H' → g x (wipe σ vs) H' fun σ2 H2 => wipe σ2 vs = wipe σ vs ∧ tt σ2 H2 fun b H3 =>
    if b = true then tk σ2 H3 fun y H4 => tv σ2 H4 fun z H5 => ∃ kvs k, y = kV k ∧ H5 D = some (.dK kvs) ∧ kvs.length < sizeLine ∧ Nx (upd H5 D (.dK (putK kvs k z))) else Nx H3)) : tDc wi g tt tk tv vs σ H Q := q
end
end Sp
namespace Sp
open PySem PySem.Spec PyProof.Rows L2
section
variable {X : Cx} {i o value : Expr} {pos pos' : Pos} {ty td tv : TE}
theorem dinW (hu : X.A.units + 65 < cLine) (hi : PE X i ty) (ho : PE X o td) : PC X .In i o (tDIn ty td) := pc_din (by omega) hi ho
theorem dninW (hu : X.A.units + 65 < cLine) (hi : PE X i ty) (ho : PE X o td) : PC X .NotIn i o (tDNotIn ty td) := pc_dnotin (by omega) hi ho
theorem dgetW (hu : X.A.units + 65 < cLine) (ho : PE X o td) (hi : PE X i ty) (hs : NoSl i) : PE X (.Subscript o i pos) (tDGet td ty) := pe_dget (by omega) ho hi hs
theorem dputW (hu : X.A.units + 65 < cLine) (ho : PE X o td) (hi : PE X i ty) (hv : PE X value tv) (hs : swapsWith value (some (.Subscript o i pos')) pos.line X.env = pure false) : PS X (.Assign [.Subscript o i pos'] value pos) (sDPut td ty tv) := ps_dput (by omega) ho hi hv hs
end
end Sp
end
section
set_option Elab.async false
set_option linter.all false
set_option maxRecDepth 100000
set_option maxHeartbeats 4000000
set_option autoImplicit false
/-! Sp: comprehensions of two for; index, append, extend, pop. -/
namespace Sp
open PySem PySem.Spec PyProof.Rows L2
/-- the inner walk's turns -/
def LcI (D : Addr) (J1 : It) (g1 : TG) (tt1 : TT) (te : TE) (vs1 : List Nat) (σ2 : L2.St) (H4 : Hp) (Nx : Hp → Prop) : Prop := ∃ W1 : Nat → Nat → Hp → Prop, (∃ m, W1 0 m H4) ∧ ∀ j k H, W1 j k H →
  (J1.stop j H ∧ Nx H) ∨ (J1.go j H ∧ ∃ Nx1 : Hp → Prop, (∀ H', Nx1 H' → ∃ k', k' < k ∧ W1 (j + 1) k' H') ∧ ∀ x H', J1.yld j H x H' → g1 x (wipe σ2 vs1) H' fun σ3 H5 => wipe σ3 vs1 = wipe σ2 vs1 ∧ tt1 σ3 H5 fun b H6 =>
    if b = true then te σ3 H6 fun y H7 => ∃ acc, H7 D = some (.lst acc) ∧ acc.length < sizeLine ∧ Nx1 (upd H7 D (.lst (acc ++ [y]))) else Nx1 H6)
/-- behind what the outer walks -/
def Lc2G (J : It) (g : TG) (tt : TT) (wi1 : TI) (g1 : TG) (tt1 : TT) (te : TE) (vs vs1 : List Nat) (σ : L2.St) (H1 : Hp) (Q : VK) : Prop := ∀ D, H1 D = none → ∃ W : Nat → Nat → Hp → Prop, (∃ m, W 0 m (upd H1 D (.lst []))) ∧ ∀ i m H, W i m H →
  (J.stop i H ∧ Q (.ref D) H) ∨ (J.go i H ∧ ∃ Nx : Hp → Prop, (∀ H', Nx H' → ∃ m', m' < m ∧ W (i + 1) m' H') ∧ ∀ x H', J.yld i H x H' → g x (wipe σ vs) H' fun σ2 H2 => wipe σ2 vs = wipe σ vs ∧ tt σ2 H2 fun b H3 =>
    if b = true then wi1 σ2 H3 fun J1 H4 => LcI D J1 g1 tt1 te vs1 σ2 H4 Nx else Nx H3)
theorem st_lc2 {wi : TI} {g : TG} {tt : TT} {wi1 : TI} {g1 : TG} {tt1 : TT} {te : TE} {vs vs1 : List Nat} {σ : L2.St} {H : Hp} {Q : VK} (q : wi σ H fun J H1 => Lc2G J g tt wi1 g1 tt1 te vs vs1 σ H1 Q) : tLc2 wi g tt wi1 g1 tt1 te vs vs1 σ H Q := q
section
variable {T : List (Addr × Str)} {K : Fg} {α β : Type} {g g1 : TG} {tt tt1 : TT} {te : TE} {wi1 : TI} {vs vs1 : List Nat} {σ σ2 : L2.St} {H : Hp} {Q : VK} {a : Addr} {xs : List V}
theorem lc2T {l : List α} {enc : α → D} (R : α → List D) (hs : SqT K H a xs) (hx : TpAll K H xs (l.map enc))
    (turn : ∀ i z x H1 D, l[i]? = some z → Ex T H H1 → Tp K H x (enc z) → LcP T K H D ((l.take i).flatMap R) H1 → ∀ Nx : Hp → Prop, (∀ H', LcP T K H D ((l.take i).flatMap R ++ R z) H' → Nx H') →
      g x (wipe σ vs) H1 fun σ2 H2 => wipe σ2 vs = wipe σ vs ∧ tt σ2 H2 fun b H3 => if b = true then wi1 σ2 H3 fun J1 H4 => LcI D J1 g1 tt1 te vs1 σ2 H4 Nx else Nx H3)
    (fin : ∀ p H' ys, New H p → Ex T H H' → H' p = some (.lst ys) → TpAll K H' ys (l.flatMap R) → Q (.ref p) H') : Lc2G (Itt K a) g tt wi1 g1 tt1 te vs vs1 σ H Q := by
  intro L hL
  have hlen : xs.length = l.length := by rw [hx.len, List.length_map]
  refine ⟨fun i m H' => m = xs.length - i ∧ i ≤ xs.length ∧ LcP T K H L ((l.take i).flatMap R) H', ⟨_, rfl, Nat.zero_le _, by rw [List.take_zero]; exact .start hL⟩, ?_⟩
  rintro i m H1 ⟨rfl, hi, p⟩
  have q := p.ex.st hs
  by_cases hlt : i < xs.length
  · refine .inr ⟨⟨xs, xs[i], q, by simp [hlt]⟩, fun H' => LcP T K H L ((l.take (i + 1)).flatMap R) H', fun H' p' => ⟨xs.length - (i + 1), by omega, rfl, hlt, p'⟩, fun x H' y => ?_⟩
    obtain ⟨e, y⟩ := y
    subst e
    obtain ⟨z, hz', hxz⟩ := hx.src (y xs q)
    refine turn i z x H' L hz' p.ex hxz p _ fun H2 p2 => ?_
    rw [List.take_succ, hz', Option.toList_some, List.flatMap_append, List.flatMap_singleton]
    exact p2
  · have e : i = xs.length := by omega
    subst e
    obtain ⟨ys, h1, h2⟩ := p.at_
    rw [hlen, List.take_length] at h2
    exact .inl ⟨⟨xs, q, Nat.le_refl _⟩, fin L H1 ys p.new p.ex h1 h2⟩
/-- the inner walk over a range -/
theorem lcIR {D : Addr} {ds : List PyData} {lo : Int} {n : Nat} {H4 : Hp} {Nx : Hp → Prop} (G : Nat → PyData) (p : LcP T K H D ds H4) (hz : ds.length + n ≤ 100000)
    (turn : ∀ z H5, z < n → Ex T H H5 → LcTurn T K g1 tt1 te vs1 σ2 H5 true (G z) (.int (lo + z))) (hN : ∀ H', LcP T K H D (ds ++ (List.range n).map G) H' → Nx H') : LcI D (Itr lo n) g1 tt1 te vs1 σ2 H4 Nx := by
  refine ⟨fun i m H' => m = n - i ∧ i ≤ n ∧ LcP T K H D (ds ++ (List.range i).map G) H', ⟨_, rfl, Nat.zero_le _, by simpa using p⟩, ?_⟩
  rintro i m H1 ⟨rfl, hi, p⟩
  by_cases hlt : i < n
  · refine .inr ⟨hlt, fun H' => LcP T K H D (ds ++ (List.range (i + 1)).map G) H', fun H' p' => ⟨n - (i + 1), by omega, rfl, hlt, p'⟩, fun x H' y => ?_⟩
    obtain ⟨rfl, rfl⟩ := y
    refine lc_step (σ := σ2) (b := true) (d := G i) p (by rw [List.length_append, List.length_map, List.length_range]; omega) (turn i H' hlt p.ex) fun H2 q => ?_
    rw [List.range_succ, List.map_append, ← List.append_assoc]
    exact q
  · have e : i = n := by omega
    subst e
    exact .inl ⟨Nat.le_refl _, hN _ p⟩
/-- the inner walk over a tuple that was there before the new list -/
theorem lcIT {D : Addr} {ds : List PyData} {H4 : Hp} {Nx : Hp → Prop} {l : List β} {enc : β → PyData} (G : β → PyData) (p : LcP T K H D ds H4) (hs : SqT K H a xs) (hx : TpAll K H xs (l.map enc)) (hz : ds.length + l.length ≤ 100000)
    (turn : ∀ z x H5, z ∈ l → Ex T H H5 → Tp K H5 x (enc z) → LcTurn T K g1 tt1 te vs1 σ2 H5 true (G z) x) (hN : ∀ H', LcP T K H D (ds ++ l.map G) H' → Nx H') : LcI D (Itt K a) g1 tt1 te vs1 σ2 H4 Nx := by
  have hlen : xs.length = l.length := by rw [hx.len, List.length_map]
  refine ⟨fun i m H' => m = xs.length - i ∧ i ≤ xs.length ∧ LcP T K H D (ds ++ (l.take i).map G) H', ⟨_, rfl, Nat.zero_le _, by simpa using p⟩, ?_⟩
  rintro i m H1 ⟨rfl, hi, p⟩
  have q := p.ex.st hs
  by_cases hlt : i < xs.length
  · refine .inr ⟨⟨xs, xs[i], q, by simp [hlt]⟩, fun H' => LcP T K H D (ds ++ (l.take (i + 1)).map G) H', fun H' p' => ⟨xs.length - (i + 1), by omega, rfl, hlt, p'⟩, fun x H' y => ?_⟩
    obtain ⟨rfl, y⟩ := y
    obtain ⟨z, hz', hxz⟩ := hx.src (y xs q)
    refine lc_step (σ := σ2) (b := true) (d := G z) p (by rw [List.length_append, List.length_map, List.length_take]; omega) (turn z x H' (List.mem_of_getElem? hz') p.ex (p.ex.tp hxz)) fun H2 q => ?_
    rw [List.take_succ, hz', Option.toList_some, List.map_append, ← List.append_assoc]
    exact q
  · have e : i = xs.length := by omega
    subst e
    rw [hlen, List.take_length] at p
    exact .inl ⟨⟨xs, q, by omega⟩, hN _ p⟩
end
/-! ### lists that change -/
section
variable {K : Fg} {H : Hp} {Q : VK} {l b : Addr} {xs zs : List V} {y : V} {σ : L2.St} {to : TE}
theorem st_bm {Tn : String} {r : V → List V → Hp → VK → Prop} {t : TA} (q : to σ H fun x H1 => tyV K Tn x H1 ∧ t σ H1 fun xs H2 => r x xs H2 Q) : tBM K Tn r to t σ H Q := q
theorem tyL (h : SqL K H l xs) : tyV K "list" (.ref l) H := .inl ⟨rfl, xs, h⟩
theorem appendL (h : H l = some (.lst xs)) (hz : xs.length < 100000) (q : Q .non (upd H l (.lst (xs ++ [y])))) : rAppend (.ref l) [y] H Q := ⟨l, xs, y, rfl, rfl, h, sz_lt hz, q⟩
theorem extendL (h : H l = some (.lst xs)) (hb : H b = some (.lst zs)) (hz : xs.length + zs.length ≤ 100000) (q : Q .non (upd H l (.lst (xs ++ zs)))) : rExtend (.ref l) [.ref b] H Q := ⟨l, b, xs, zs, rfl, rfl, h, hb, sz_of hz, q⟩
theorem catL (h : H l = some (.lst xs)) (hb : H b = some (.lst zs)) (hz : xs.length + zs.length ≤ 100000) (q : ∀ p, H p = none → Q (.ref p) (upd H p (.lst (xs ++ zs)))) : rCat (.ref l) (.ref b) H Q := ⟨l, b, xs, zs, rfl, rfl, h, hb, sz_of hz, q⟩
theorem popL {i : Nat} (h : H l = some (.lst xs)) (hi : i < xs.length) (hz : xs.length ≤ 100000) (hy : xs[i]? = some y) (q : Q y (upd H l (.lst (xs.eraseIdx i)))) : rPopAt (.ref l) [.int i] H Q :=
  ⟨l, xs, i, i, y, rfl, rfl, h, by omega, by omega, by rw [seqIndex_of (by omega) (by omega)]; simp, hy, q⟩
theorem all_flatI {o : List Nat} : ((o.map fun n : Nat => (n : Int)).map V.int).all flatV = true := by
  rw [List.all_eq_true]
  intro v hv
  obtain ⟨i, _, rfl⟩ := List.mem_map.mp hv
  rfl
/-- xs.index(c), c there once -/
theorem indexL {o : List Nat} {c j : Nat} (h : SqL K H l ((o.map fun n : Nat => (n : Int)).map V.int)) (hnd : o.Nodup) (hj : o[j]? = some c) (q : Q (.int j) H) : rIndex K (.ref l) [.int c] H Q := by
  refine ⟨l, _, _, j, .int c, rfl, rfl, h, rfl, all_flatI, by simp [hj], by simp [eqV], fun m z hm hz => ?_, q⟩
  rw [List.map_map, List.getElem?_map, Option.map_eq_some_iff] at hz
  obtain ⟨d, hd, rfl⟩ := hz
  have : d ≠ c := fun e => by
    obtain ⟨l1, r1⟩ := List.getElem?_eq_some_iff.mp hd
    obtain ⟨l2, r2⟩ := List.getElem?_eq_some_iff.mp hj
    exact List.pairwise_iff_getElem.mp hnd m j l1 l2 hm (by rw [r1, r2, e])
  show eqV (.int (d : Int)) (.int (c : Int)) = false
  simp [eqV]
  omega
/-- t1 + t2 -/
theorem catT {a b : Addr} (ha : SqT K H a xs) (hb : SqT K H b zs) (hz : xs.length + zs.length ≤ 100000) (q : ∀ p H', (H' = H ∨ (H p = none ∧ H' = upd H p (.tup (xs ++ zs)))) → SqT K H' p (xs ++ zs) → Q (.ref p) H') : rCatA K (.ref a) (.ref b) H Q := by
  refine ⟨a, b, xs, zs, rfl, rfl, ha, hb, sz_of hz, fun e => ?_, fun _ e => ?_, fun _ _ p hp => q p _ (.inr ⟨hp, rfl⟩) (.of upd_same)⟩
  · subst e
    exact q b H (.inl rfl) hb
  · subst e
    exact q a H (.inl rfl) (by simpa using ha)
end
end Sp
namespace Sp
open PySem PySem.Spec PyProof.Rows L2
theorem bmW (g : Gx) {X : Cx} {o e : Expr} {es : List Expr} {to : TE} {t : TA} {name : Str} {apos cpos : Pos} {T id : String} {r : V → List V → Hp → VK → Prop} (pa : PlainAttrs T) (slot : Slot T name id) (hty : typeOf (.builtin id) = pure (.type "method_descriptor")) (hm : MtR X id r) (ho : PE X o to) (ha : PA X (e :: es) t)
    (hbase : attributeBase o name X.env (eval o X.env) = eval o X.env := by rfl)
    (hfew : ((backTo cpos (starEach (e :: es) X.env)).all (fun x => !x.1) && (backToKw cpos (keywordEach [] X.env)).all (fun x => x.1.isSome)
      && decide ((e :: es).length + ([] : List Keyword).length + (if ([] : List Keyword).isEmpty then 0 else 1) < 30)) = true := by rfl)
    (hline : (apos.endLine == cpos.line) = true := by rfl) (hs : starEach (e :: es) X.env = (false, eval e X.env) :: starEach es X.env := by rfl) (hplain : (backTo cpos (starEach es X.env)).any (·.1) = false := by rfl) (h : X.K = g.K := by rfl) :
    PE X (.Call (.Attribute o name apos) (e :: es) [] cpos) (tBM g.K T r to t) := h ▸ pe_bm pa slot hty hm ho ha hbase hfew hline hs hplain
end Sp
namespace Sp
open PySem PySem.Spec PyProof.Rows L2
theorem st_lenSet {K : Fg} {ta : TE} {σ : L2.St} {H : Hp} {Q : VK} (q : ta σ H fun x H1 => ∃ (l : Addr) (ns : List Int), x = .ref l ∧ SqL K H1 l (ns.map V.int) ∧ ns.Nodup ∧ ns.length ≤ 4000 ∧ Q (.int (ns.length : Nat)) H1) : RZ.tLenSetI K ta σ H Q := q
end Sp
namespace Sp
theorem nodup_map {α β : Type} {f : α → β} (hi : ∀ x y, f x = f y → x = y) : ∀ {l : List α}, l.Nodup → (l.map f).Nodup
  | [], _ => List.nodup_nil
  | x :: l, h => by
    rw [List.nodup_cons] at h
    rw [List.map_cons, List.nodup_cons]
    refine ⟨fun hm => ?_, nodup_map hi h.2⟩
    obtain ⟨y, hy, e⟩ := List.mem_map.mp hm
    rw [hi _ _ e] at hy
    exact h.1 hy
end Sp
namespace Sp
open PySem PySem.Spec PyProof.Rows L2
theorem st_g4 {K : Fg} {σ : L2.St} {H : Hp} {a : Addr} {x y z u : V} {i j k l : Nat} {Q : L2.St → Hp → Prop} (h : SqT K H a [x, y, z, u]) (q : Q ((((σ.set i (some x)).set j (some y)).set k (some z)).set l (some u)) H) :
    gTup K 4 (gCons (gName i) (gCons (gName j) (gCons (gName k) (gCons (gName l) gNil)))) (.ref a) σ H Q := ⟨a, _, rfl, h, rfl, x, _, rfl, y, _, rfl, z, _, rfl, u, _, rfl, rfl, q⟩
end Sp
namespace Sp
open PySem PySem.Spec PyProof.Rows L2
theorem st_gsub {to ti : TE} {t : TSet} {v : V} {σ : L2.St} {H : Hp} {Q : L2.St → Hp → Prop} (q : to σ H fun o H1 => ti σ H1 fun i H2 => t o i v H2 fun H3 => Q σ H3) : L2.gSub to ti t v σ H Q := q
end Sp
end
section
set_option Elab.async false
set_option linter.all false
set_option maxRecDepth 100000
set_option maxHeartbeats 4000000
set_option autoImplicit false
local macro_rules | `(tactic| walk_at "go") => `(tactic| repeat first
  | (with_reducible first
     | refine Sp.st_var rfl ?_ | refine Sp.st_c ?_ | refine Sp.st_op ?_ | refine Sp.st_seq ?_ | refine Sp.st_asg ?_ | refine Sp.st_name ?_
     | refine Sp.st_ret ?_ | refine Sp.st_drop ?_ | refine Sp.st_next ?_ | refine Sp.st_if ?_ | refine Sp.st_nx ?_ | refine Sp.st_rt ?_
     | refine Sp.st_cons ?_ | refine Sp.st_nil ?_ | refine Sp.st_cb ?_ | refine Sp.st_call ?_ | refine Sp.st_test ?_ | refine Sp.st_B ?_
     | refine Sp.st_not ?_ | refine Sp.st_and ?_ | refine Sp.st_or ?_ | refine Sp.st_andV ?_ | refine Sp.st_orV ?_ | refine Sp.st_notV ?_
     | refine Sp.st_tif ?_ | refine Sp.st_tup ?_ | refine Sp.st_lst ?_ | refine Sp.st_blx ?_ | refine Sp.st_I0 ?_ | refine Sp.st_U ?_
     | refine Sp.st_eqI ?_ | refine Sp.st_neI ?_ | refine Sp.st_chain ?_ | refine Sp.isiI ?_ | refine Sp.isiB ?_ | refine Sp.isiS ?_
     | refine Sp.st_T rfl ?_ | refine Sp.st_F rfl ?_ | refine Sp.st_lc ?_ | refine Sp.st_iT ?_ | refine Sp.st_iL ?_ | refine Sp.st_iR1 ?_
     | refine Sp.st_iR2 ?_ | refine Sp.st_iET ?_ | refine Sp.st_iZA ?_ | refine Sp.st_iZLT ?_ | refine Sp.st_for ?_ | refine Sp.st_fld ?_
     | refine Sp.st_sfld ?_ | refine Sp.st_prop ?_ | refine Sp.st_meth ?_ | refine Sp.st_make ?_ | refine Sp.st_isN ?_ | refine Sp.st_yes ?_
     | refine Sp.isNI ?_ | refine Sp.notNI ?_ | refine Sp.int1I ?_ | refine Sp.int1B ?_ | refine Sp.min2I ?_ | refine Sp.max2I ?_
     | refine Sp.st_dputN ?_ | refine Sp.st_dgetN ?_ | refine Sp.st_revL ?_ | refine Sp.st_din ?_ | refine Sp.st_dnin ?_ | refine Sp.st_dget ?_ | refine Sp.st_dput ?_ | refine Sp.st_dc ?_ | refine Sp.st_dcN ?_
     | refine Sp.st_sortLam ?_ | refine Sp.st_lc2 ?_ | refine Sp.st_bm ?_ | refine Sp.st_lenO ?_ | refine Sp.st_sl ?_ | refine Sp.st_part ?_ | refine Sp.st_nopart ?_ | refine Sp.st_intx ?_)
  | ((with_reducible refine Sp.st_wp ?_ ?_); (focus rfl)))
namespace Sp
open PySem PySem.Spec L2

-- is_whole: slots value 0; cells []
abbrev s_is_whole : Stmt := top 12
abbrev N_is_whole : List Str := ["value"]
theorem sc_is_whole : FnScope N_is_whole ["value"] (defScope s_is_whole) := ⟨rfl, rfl, rfl, by decide +kernel, rfl, by decide +kernel, by decide +kernel⟩
def sp_is_whole (g : Gx) : Sp := fun vs H Q _ => ∃ n : Int, vs = [.int n] ∧ Q (.bl true) H
theorem ok_is_whole (g : Gx) (T : Blt g.mg)   {f : Addr} {fd : FuncData} (F : Fun g.K "is_whole" "is_whole" s_is_whole f fd) : FnOk g.P g.w g.K g.mg g.base CX0 1 f fd ["value"] (sp_is_whole g) := by
  refine F.ok sc_is_whole (fun vs H Q E h => ?_) (fun cdv A outer s H vs Q E hr h => ?_)
  · first | (obtain ⟨rfl, _⟩ := h; rfl) | (obtain ⟨_, rfl, _⟩ := h; rfl) | (obtain ⟨_, _, rfl, _⟩ := h; rfl) | (obtain ⟨_, _, _, rfl, _⟩ := h; rfl) | (obtain ⟨_, _, _, _, rfl, _⟩ := h; rfl) | (obtain ⟨_, _, _, _, _, rfl, _⟩ := h; rfl) | (obtain ⟨_, _, _, _, _, _, rfl, _⟩ := h; rfl) | (obtain ⟨_, _, _, _, _, _, _, rfl, _⟩ := h; rfl) | (obtain ⟨_, _, _, _, _, _, _, _, rfl, _⟩ := h; rfl) | (obtain ⟨_, _, _, _, _, _, _, _, _, rfl, _⟩ := h; rfl) | (obtain ⟨_, _, _, _, _, _, _, _, _, _, rfl, _⟩ := h; rfl) | (obtain ⟨_, _, _, _, _, _, _, _, _, _, _, rfl, _⟩ := h; rfl) | (obtain ⟨_, _, _, _, _, _, _, _, _, _, _, _, rfl, _⟩ := h; rfl) | (obtain ⟨_, _, _, _, _, _, _, _, _, _, _, _, _, rfl, _⟩ := h; rfl)
  have hu := room_un hr
  obtain ⟨n, rfl, k⟩ := h
  refine ⟨_, (pss_one (ps_ret (pe_and (pe_callB (isiW g) (by rfl) T.b_isinstance boot_f_isinstance (pa_cons (pv 0) (pa_cons (pe_bltn (v := .ty "int") rfl T.b_int boot_t_int rfl) pa_nil))) (pe_one (pe_not (pe_callB (isiW g) (by rfl) T.b_isinstance boot_f_isinstance (pa_cons (pv 0) (pa_cons (pe_bltn (v := .ty "bool") rfl T.b_bool boot_t_bool rfl) pa_nil)))))))), ?_⟩
  walk_at "go"
  exact k
-- is_below: slots value 0, bound 1; cells []
abbrev s_is_below : Stmt := top 13
abbrev N_is_below : List Str := ["value", "bound"]
theorem sc_is_below : FnScope N_is_below ["value", "bound"] (defScope s_is_below) := ⟨rfl, rfl, rfl, by decide +kernel, rfl, by decide +kernel, by decide +kernel⟩
def sp_is_below (g : Gx) : Sp := fun vs H Q _ => ∃ n m : Int, vs = [.int n, .int m] ∧ (0 ≤ n ∧ n < m) ∧ Q (.bl true) H
theorem ok_is_below (g : Gx) (T : Blt g.mg) (C_is_whole : Cal g.P g.w g.K g.mg g.base 1 "is_whole" ["value"] (sp_is_whole g))  {f : Addr} {fd : FuncData} (F : Fun g.K "is_below" "is_below" s_is_below f fd) : FnOk g.P g.w g.K g.mg g.base CX0 2 f fd ["value", "bound"] (sp_is_below g) := by
  refine F.ok sc_is_below (fun vs H Q E h => ?_) (fun cdv A outer s H vs Q E hr h => ?_)
  · first | (obtain ⟨rfl, _⟩ := h; rfl) | (obtain ⟨_, rfl, _⟩ := h; rfl) | (obtain ⟨_, _, rfl, _⟩ := h; rfl) | (obtain ⟨_, _, _, rfl, _⟩ := h; rfl) | (obtain ⟨_, _, _, _, rfl, _⟩ := h; rfl) | (obtain ⟨_, _, _, _, _, rfl, _⟩ := h; rfl) | (obtain ⟨_, _, _, _, _, _, rfl, _⟩ := h; rfl) | (obtain ⟨_, _, _, _, _, _, _, rfl, _⟩ := h; rfl) | (obtain ⟨_, _, _, _, _, _, _, _, rfl, _⟩ := h; rfl) | (obtain ⟨_, _, _, _, _, _, _, _, _, rfl, _⟩ := h; rfl) | (obtain ⟨_, _, _, _, _, _, _, _, _, _, rfl, _⟩ := h; rfl) | (obtain ⟨_, _, _, _, _, _, _, _, _, _, _, rfl, _⟩ := h; rfl) | (obtain ⟨_, _, _, _, _, _, _, _, _, _, _, _, rfl, _⟩ := h; rfl) | (obtain ⟨_, _, _, _, _, _, _, _, _, _, _, _, _, rfl, _⟩ := h; rfl)
  have hu := room_un hr
  obtain ⟨n, m, rfl, hn, k⟩ := h
  refine ⟨_, (pss_one (ps_ret (pe_and (pe_cF C_is_whole (hr.mono (by decide)) rfl (pa_cons (pv 0) pa_nil)) (pe_one (pe_chain op_le op_lt pe_int (pv 0) (pv 1)))))), ?_⟩
  walk_at "go"
  refine ⟨n, rfl, ?_⟩
  walk_at "go"
  refine st_T (decide_eq_true hn.1) ?_
  walk_at "go"
  rw [decide_eq_true hn.2]
  exact k
-- is_pair: slots value 0; cells []
abbrev s_is_pair : Stmt := top 14
abbrev N_is_pair : List Str := ["value"]
theorem sc_is_pair : FnScope N_is_pair ["value"] (defScope s_is_pair) := ⟨rfl, rfl, rfl, by decide +kernel, rfl, by decide +kernel, by decide +kernel⟩
def sp_is_pair (g : Gx) : Sp := fun vs H Q _ => ∃ v d e, vs = [v] ∧ Tp g.K H v (.tuple [d, e]) ∧ Q (.bl true) H
theorem ok_is_pair (g : Gx) (T : Blt g.mg)   {f : Addr} {fd : FuncData} (F : Fun g.K "is_pair" "is_pair" s_is_pair f fd) : FnOk g.P g.w g.K g.mg g.base CX0 1 f fd ["value"] (sp_is_pair g) := by
  refine F.ok sc_is_pair (fun vs H Q E h => ?_) (fun cdv A outer s H vs Q E hr h => ?_)
  · first | (obtain ⟨rfl, _⟩ := h; rfl) | (obtain ⟨_, rfl, _⟩ := h; rfl) | (obtain ⟨_, _, rfl, _⟩ := h; rfl) | (obtain ⟨_, _, _, rfl, _⟩ := h; rfl) | (obtain ⟨_, _, _, _, rfl, _⟩ := h; rfl) | (obtain ⟨_, _, _, _, _, rfl, _⟩ := h; rfl) | (obtain ⟨_, _, _, _, _, _, rfl, _⟩ := h; rfl) | (obtain ⟨_, _, _, _, _, _, _, rfl, _⟩ := h; rfl) | (obtain ⟨_, _, _, _, _, _, _, _, rfl, _⟩ := h; rfl) | (obtain ⟨_, _, _, _, _, _, _, _, _, rfl, _⟩ := h; rfl) | (obtain ⟨_, _, _, _, _, _, _, _, _, _, rfl, _⟩ := h; rfl) | (obtain ⟨_, _, _, _, _, _, _, _, _, _, _, rfl, _⟩ := h; rfl) | (obtain ⟨_, _, _, _, _, _, _, _, _, _, _, _, rfl, _⟩ := h; rfl) | (obtain ⟨_, _, _, _, _, _, _, _, _, _, _, _, _, rfl, _⟩ := h; rfl)
  have hu := room_un hr
  obtain ⟨v, d, e, rfl, hv, k⟩ := h
  refine ⟨_, (pss_one (ps_ret (pe_and (pe_callB (isiW g) (by rfl) T.b_isinstance boot_f_isinstance (pa_cons (pv 0) (pa_cons (pe_bltn (v := .ty "tuple") rfl T.b_tuple boot_t_tuple rfl) pa_nil))) (pe_one (pe_cmpR op_eq (pe_callB (lenW g) (by rfl) T.b_len boot_f_len (pa_cons (pv 0) pa_nil)) pe_int (nomark _)))))), ?_⟩
  obtain ⟨a, xs, rfl, hs, hx⟩ := tp_tup hv
  walk_at "go"
  refine isiT hs ?_
  walk_at "go"
  refine lenT hs ?_
  walk_at "go"
  rw [hx.len]
  exact k
-- ascends: slots value 0, bound 1, one 2, other 3, item 4; cells ['bound']
abbrev s_ascends : Stmt := top 15
abbrev N_ascends : List Str := ["value", "bound", "one", "other", "item"]
theorem sc_ascends : FnScope N_ascends ["value", "bound"] (defScope s_ascends) := ⟨rfl, rfl, rfl, by decide +kernel, rfl, by decide +kernel, by decide +kernel⟩
def sp_ascends (g : Gx) : Sp := fun vs H Q _ => ∃ v m, ∃ o : List Nat, vs = [v, .int m] ∧ Tp g.K H v (ot o) ∧ (o.Pairwise (· < ·) ∧ ∀ x ∈ o, (x : Int) < m) ∧ o.length ≤ 1000 ∧ ∀ H', Ex g.T H H' → Q (.bl true) H'
theorem ok_ascends (g : Gx) (T : Blt g.mg) (C_is_below : Cal g.P g.w g.K g.mg g.base 2 "is_below" ["value", "bound"] (sp_is_below g))  {f : Addr} {fd : FuncData} (F : Fun g.K "ascends" "ascends" s_ascends f fd) : FnOk g.P g.w g.K g.mg g.base CX0 3 f fd ["value", "bound"] (sp_ascends g) := by
  refine F.ok sc_ascends (fun vs H Q E h => ?_) (fun cdv A outer s H vs Q E hr h => ?_)
  · first | (obtain ⟨rfl, _⟩ := h; rfl) | (obtain ⟨_, rfl, _⟩ := h; rfl) | (obtain ⟨_, _, rfl, _⟩ := h; rfl) | (obtain ⟨_, _, _, rfl, _⟩ := h; rfl) | (obtain ⟨_, _, _, _, rfl, _⟩ := h; rfl) | (obtain ⟨_, _, _, _, _, rfl, _⟩ := h; rfl) | (obtain ⟨_, _, _, _, _, _, rfl, _⟩ := h; rfl) | (obtain ⟨_, _, _, _, _, _, _, rfl, _⟩ := h; rfl) | (obtain ⟨_, _, _, _, _, _, _, _, rfl, _⟩ := h; rfl) | (obtain ⟨_, _, _, _, _, _, _, _, _, rfl, _⟩ := h; rfl) | (obtain ⟨_, _, _, _, _, _, _, _, _, _, rfl, _⟩ := h; rfl) | (obtain ⟨_, _, _, _, _, _, _, _, _, _, _, rfl, _⟩ := h; rfl) | (obtain ⟨_, _, _, _, _, _, _, _, _, _, _, _, rfl, _⟩ := h; rfl) | (obtain ⟨_, _, _, _, _, _, _, _, _, _, _, _, _, rfl, _⟩ := h; rfl)
  have hu := room_un hr
  obtain ⟨v, m, o, rfl, hv, ⟨ha, hm⟩, hz, k⟩ := h
  refine ⟨_, (pss_cons (ps_if (PW.pt (pw_or (pt_not (pt_val (pe_callB (isiW g) (by rfl) T.b_isinstance boot_f_isinstance (pa_cons (pv 0) (pa_cons (pe_bltn (v := .ty "tuple") rfl T.b_tuple boot_t_tuple rfl) pa_nil))))) (pw_or1 (pt_not (pt_val (pe_callB (allW g) (by rfl) T.b_all boot_f_all (pa_cons (pe_lc (own := [("item", 4)]) rfl sc_ascends.nd (iTW g (pv 0)) (blkOk_by rfl) (fun _ _ _ _ _ => pg_name (i := 4) sc_ascends.nd rfl (Or.inl rfl)) (fun _ _ _ _ _ => pts_nil) (fun _ _ _ _ _ => (pe_cF C_is_below (hr.mono (by decide)) rfl (pa_cons (pv 4) (pa_cons (pv 1) pa_nil))))) pa_nil))))))) (pss_one (ps_ret pe_bl)) pss_nil)
      (pss_one (ps_ret (pe_callB (allW g) (by rfl) T.b_all boot_f_all (pa_cons (pe_lc (own := [("one", 2), ("other", 3)]) rfl sc_ascends.nd (iZW g (by rfl) T.b_zip (pa_cons (pv 0) (pa_cons (pe_slice (slTW g) (pv 0) (po_some pe_int) po_none) pa_nil))) (blkOk_by rfl) (fun _ _ _ _ _ => gTW g (n := 2) rfl (pgs_cons (pg_name (i := 2) sc_ascends.nd rfl (Or.inl rfl)) (pgs_cons (pg_name (i := 3) sc_ascends.nd rfl (Or.inl rfl)) pgs_nil))) (fun _ _ _ _ _ => pts_nil) (fun _ _ _ _ _ => (pe_cmpR op_lt (pv 2) (pv 3) (nomark _)))) pa_nil))))), ?_⟩
  obtain ⟨a, xs, rfl, hs, hx⟩ := tp_tup hv
  walk_at "go"
  refine isiT hs ?_
  walk_at "go"
  refine ⟨a, rfl, ⟨xs, hs⟩, ?_⟩
  refine lcT (T := g.T) (l := o) (enc := fun n : Nat => .int n) (fun _ => true) (fun _ => .bool true) hs hx (by omega) (fun z x H1 hz e hx => ?_) fun p H1 ys n e hp hy => ?_
  · intro Yes No hY hN
    cases tp_int hx
    walk_at "go"
    refine ⟨z, m, rfl, ⟨by omega, hm z hz⟩, hY rfl _ _ (.refl _) (.bl _)⟩
  walk_at "go"
  rw [List.filter_eq_self.mpr (fun _ _ => rfl)] at hy
  have hy' := tpBls (l := o.map fun _ => true) (by rw [List.map_map]; exact hy)
  subst hy'
  refine ⟨p, _, rfl, .of hp, ?_⟩
  walk_at "go"
  rw [show ((o.map fun _ => true).all id) = true by simp]
  walk_at "go"
  refine slA (e.st hs) fun q H2 h2 hq => ?_
  have e2 : Ex g.T H1 H2 := by
    rcases h2 with rfl | ⟨h2, rfl⟩
    · exact .refl _
    · exact .new h2
  walk_at "go"
  rw [show (some (1 : Int)) = some ((1 : Nat) : Int) from rfl, cut_from] at hq
  have e3 := e.trans e2
  have hx2 : TpAll g.K H2 (xs.drop 1) ((o.drop 1).map fun n : Nat => PyData.int n) := by
    rw [List.map_drop]
    exact (e3.tps hx).drop 1
  refine ⟨a, q, xs, xs.drop 1, rfl, .inr ⟨e3.st hs, hq, ?_⟩⟩
  refine lcZ (T := g.T) (l := o) (m := o.drop 1) (enc := fun n : Nat => .int n) (enc2 := fun n : Nat => .int n) (fun _ => true) (fun _ => .bool true) (e3.st hs) hq (e3.tps hx) hx2 (by omega) (fun z x y t H1 hz e hx hy ht => ?_) fun p H1 ys n e hp hy => ?_
  · intro Yes No hY hN
    refine st_g2 ht ?_
    walk_at "go"
    cases tp_int hx
    cases tp_int hy
    walk_at "go"
    refine hY rfl _ _ (.refl _) ?_
    rw [decide_eq_true (show (z.1 : Int) < z.2 by
      have : z.1 < z.2 := by
        obtain ⟨i, hi⟩ := List.getElem?_of_mem hz
        rw [List.getElem?_zip_eq_some] at hi
        obtain ⟨h1, h2⟩ := hi
        rw [List.getElem?_drop] at h2
        obtain ⟨l1, r1⟩ := List.getElem?_eq_some_iff.mp h1
        obtain ⟨l2, r2⟩ := List.getElem?_eq_some_iff.mp h2
        rw [← r1, ← r2]
        exact List.pairwise_iff_getElem.mp ha _ _ _ _ (by omega)
      omega)]
    exact .bl _
  walk_at "go"
  rw [List.filter_eq_self.mpr (fun _ _ => rfl)] at hy
  have hy' := tpBls (l := (o.zip (o.drop 1)).map fun _ => true) (by rw [List.map_map]; exact hy)
  subst hy'
  refine ⟨p, _, rfl, .of hp, ?_⟩
  walk_at "go"
  rw [show (((o.zip (o.drop 1)).map fun _ => true).all id) = true by simp]
  exact k _ (e3.trans e)
end Sp
end
section
set_option Elab.async false
set_option linter.all false
set_option maxRecDepth 100000
set_option maxHeartbeats 4000000
set_option autoImplicit false
local macro_rules | `(tactic| walk_at "go") => `(tactic| repeat first
  | (with_reducible first
     | refine Sp.st_var rfl ?_ | refine Sp.st_c ?_ | refine Sp.st_op ?_ | refine Sp.st_seq ?_ | refine Sp.st_asg ?_ | refine Sp.st_name ?_
     | refine Sp.st_ret ?_ | refine Sp.st_drop ?_ | refine Sp.st_next ?_ | refine Sp.st_if ?_ | refine Sp.st_nx ?_ | refine Sp.st_rt ?_
     | refine Sp.st_cons ?_ | refine Sp.st_nil ?_ | refine Sp.st_cb ?_ | refine Sp.st_call ?_ | refine Sp.st_test ?_ | refine Sp.st_B ?_
     | refine Sp.st_not ?_ | refine Sp.st_and ?_ | refine Sp.st_or ?_ | refine Sp.st_andV ?_ | refine Sp.st_orV ?_ | refine Sp.st_notV ?_
     | refine Sp.st_tif ?_ | refine Sp.st_tup ?_ | refine Sp.st_lst ?_ | refine Sp.st_blx ?_ | refine Sp.st_I0 ?_ | refine Sp.st_U ?_
     | refine Sp.st_eqI ?_ | refine Sp.st_neI ?_ | refine Sp.st_chain ?_ | refine Sp.isiI ?_ | refine Sp.isiB ?_ | refine Sp.isiS ?_
     | refine Sp.st_T rfl ?_ | refine Sp.st_F rfl ?_ | refine Sp.st_lc ?_ | refine Sp.st_iT ?_ | refine Sp.st_iL ?_ | refine Sp.st_iR1 ?_
     | refine Sp.st_iR2 ?_ | refine Sp.st_iET ?_ | refine Sp.st_iZA ?_ | refine Sp.st_iZLT ?_ | refine Sp.st_for ?_ | refine Sp.st_fld ?_
     | refine Sp.st_sfld ?_ | refine Sp.st_prop ?_ | refine Sp.st_meth ?_ | refine Sp.st_make ?_ | refine Sp.st_isN ?_ | refine Sp.st_yes ?_
     | refine Sp.isNI ?_ | refine Sp.notNI ?_ | refine Sp.int1I ?_ | refine Sp.int1B ?_ | refine Sp.min2I ?_ | refine Sp.max2I ?_
     | refine Sp.st_dputN ?_ | refine Sp.st_dgetN ?_ | refine Sp.st_revL ?_ | refine Sp.st_din ?_ | refine Sp.st_dnin ?_ | refine Sp.st_dget ?_ | refine Sp.st_dput ?_ | refine Sp.st_dc ?_ | refine Sp.st_dcN ?_
     | refine Sp.st_sortLam ?_ | refine Sp.st_lc2 ?_ | refine Sp.st_bm ?_ | refine Sp.st_lenO ?_ | refine Sp.st_sl ?_ | refine Sp.st_part ?_ | refine Sp.st_nopart ?_ | refine Sp.st_intx ?_)
  | ((with_reducible refine Sp.st_wp ?_ ?_); (focus rfl)))
namespace Sp
open PySem PySem.Spec L2

/-- the classes' fields -/
structure Fct (g : Gx) : Prop where
  nc : Cls g.K g.nc
  oc : Cls g.K g.oc
  bc : Cls g.K g.bc
  nc_size : NoAttr g.K g.nc "size"
  nc_pairs : NoAttr g.K g.nc "pairs"
  oc_width : NoAttr g.K g.oc "width"
  oc_cells : NoAttr g.K g.oc "cells"
  bc_ground : NoAttr g.K g.bc "ground"
  bc_goal : NoAttr g.K g.bc "goal"
  bc_width : NoAttr g.K g.bc "width"
  bc_told : NoAttr g.K g.bc "told"
  bc_turns : NoAttr g.K g.bc "turns"
structure NetOk (n : Nat) (L : List (Nat × Nat)) : Prop where
  lo : 1 ≤ n
  hi : n ≤ 7
  few : L.length ≤ 8
  link : ∀ p ∈ L, p.1 < p.2 ∧ p.2 < n
  nd : L.Nodup
def netF (n : Nat) (p : Addr) : List (Str × V) := [("size", .int n), ("pairs", .ref p)]
/-- a net object -/
structure NetAt (g : Gx) (H : Hp) (a : Addr) (n : Nat) (L : List (Nat × Nat)) : Prop where
  ex : ∃ dx p xs, H a = some (.ins g.nc dx (netF n p)) ∧ SqT g.K H p xs ∧ TpAll g.K H xs (L.map eP)
  ok : NetOk n L
theorem Ex.net {g : Gx} {H H' : Hp} {a : Addr} {n : Nat} {L : List (Nat × Nat)} (e : Ex g.T H H') (h : NetAt g H a n L) : NetAt g H' a n L := by
  obtain ⟨⟨dx, p, xs, h1, h2, h3⟩, ok⟩ := h
  exact ⟨⟨dx, p, xs, e.at h1, e.st h2, e.tps h3⟩, ok⟩
-- is_link: slots value 0, nodes 1; cells []
abbrev s_is_link : Stmt := top 56
abbrev N_is_link : List Str := ["value", "nodes"]
theorem sc_is_link : FnScope N_is_link ["value", "nodes"] (defScope s_is_link) := ⟨rfl, rfl, rfl, by decide +kernel, rfl, by decide +kernel, by decide +kernel⟩
def sp_is_link (g : Gx) : Sp := fun vs H Q _ => ∃ v, ∃ p : Nat × Nat, ∃ n : Nat, vs = [v, .int n] ∧ Tp g.K H v (eP p) ∧ (p.1 < n ∧ p.2 < n ∧ p.1 ≠ p.2) ∧ Q (.bl true) H
theorem ok_is_link (g : Gx) (T : Blt g.mg) (Z : Fct g) (C_is_pair : Cal g.P g.w g.K g.mg g.base 1 "is_pair" ["value"] (sp_is_pair g)) (C_is_below : Cal g.P g.w g.K g.mg g.base 2 "is_below" ["value", "bound"] (sp_is_below g))  {f : Addr} {fd : FuncData} (F : Fun g.K "is_link" "is_link" s_is_link f fd) : FnOk g.P g.w g.K g.mg g.base CX0 3 f fd ["value", "nodes"] (sp_is_link g) := by
  refine F.ok sc_is_link (fun vs H Q E h => ?_) (fun cdv A outer s H vs Q E hr h => ?_)
  · first | (obtain ⟨rfl, _⟩ := h; rfl) | (obtain ⟨_, rfl, _⟩ := h; rfl) | (obtain ⟨_, _, rfl, _⟩ := h; rfl) | (obtain ⟨_, _, _, rfl, _⟩ := h; rfl) | (obtain ⟨_, _, _, _, rfl, _⟩ := h; rfl) | (obtain ⟨_, _, _, _, _, rfl, _⟩ := h; rfl) | (obtain ⟨_, _, _, _, _, _, rfl, _⟩ := h; rfl) | (obtain ⟨_, _, _, _, _, _, _, rfl, _⟩ := h; rfl) | (obtain ⟨_, _, _, _, _, _, _, _, rfl, _⟩ := h; rfl) | (obtain ⟨_, _, _, _, _, _, _, _, _, rfl, _⟩ := h; rfl) | (obtain ⟨_, _, _, _, _, _, _, _, _, _, rfl, _⟩ := h; rfl) | (obtain ⟨_, _, _, _, _, _, _, _, _, _, _, rfl, _⟩ := h; rfl) | (obtain ⟨_, _, _, _, _, _, _, _, _, _, _, _, rfl, _⟩ := h; rfl) | (obtain ⟨_, _, _, _, _, _, _, _, _, _, _, _, _, rfl, _⟩ := h; rfl)
  have hu := room_un hr
  obtain ⟨v, p, n, rfl, hv, ⟨h1, h2, h3⟩, k⟩ := h
  refine ⟨_, (pss_cons (ps_if (PW.pt (pw_or (pt_not (pt_val (pe_cF C_is_pair (hr.mono (by decide)) rfl (pa_cons (pv 0) pa_nil)))) (pw_or (pt_not (pt_val (pe_cF C_is_below (hr.mono (by decide)) rfl (pa_cons (pe_ix (ixW g) (pv 0) pe_int (fun _ _ => rfl)) (pa_cons (pv 1) pa_nil))))) (pw_or1 (pt_not (pt_val (pe_cF C_is_below (hr.mono (by decide)) rfl (pa_cons (pe_ix (ixW g) (pv 0) pe_int (fun _ _ => rfl)) (pa_cons (pv 1) pa_nil))))))))) (pss_one (ps_ret pe_bl)) pss_nil)
      (pss_one (ps_ret (pe_cmpR op_ne (pe_ix (ixW g) (pv 0) pe_int (fun _ _ => rfl)) (pe_ix (ixW g) (pv 0) pe_int (fun _ _ => rfl)) (nomark _))))), ?_⟩
  obtain ⟨a, xs, rfl, hs, hx⟩ := tp_tup hv
  have hxx := tpInts (l := [(p.1 : Int), (p.2 : Int)]) hx
  subst hxx
  walk_at "go"
  refine ⟨_, _, _, rfl, hv, ?_⟩
  walk_at "go"
  refine st_ixT hs rfl ?_
  walk_at "go"
  refine ⟨_, _, rfl, ⟨by omega, by omega⟩, ?_⟩
  walk_at "go"
  refine st_ixT hs rfl ?_
  walk_at "go"
  refine ⟨_, _, rfl, ⟨by omega, by omega⟩, ?_⟩
  walk_at "go"
  refine st_ixT hs rfl ?_
  walk_at "go"
  refine st_ixT hs rfl ?_
  walk_at "go"
  rw [decide_eq_false (show ¬ (p.1 : Int) = p.2 by omega)]
  exact k
-- net_error: slots nodes 0, links 1, index 2, link 3, other 4; cells []
abbrev s_net_error : Stmt := top 57
abbrev N_net_error : List Str := ["nodes", "links", "index", "link", "other"]
theorem sc_net_error : FnScope N_net_error ["nodes", "links"] (defScope s_net_error) := ⟨rfl, rfl, rfl, by decide +kernel, rfl, by decide +kernel, by decide +kernel⟩
def sp_net_error (g : Gx) : Sp := fun vs H Q _ => ∃ v, ∃ n : Nat, ∃ L : List (Nat × Nat), vs = [.int n, v] ∧ Tp g.K H v (.tuple (L.map eP)) ∧ NetOk n L ∧ ∀ H', Ex g.T H H' → Q .non H'
theorem ok_net_error (g : Gx) (T : Blt g.mg) (Z : Fct g) (C_is_whole : Cal g.P g.w g.K g.mg g.base 1 "is_whole" ["value"] (sp_is_whole g)) (C_is_link : Cal g.P g.w g.K g.mg g.base 3 "is_link" ["value", "nodes"] (sp_is_link g)) {t_MAX_LINKS : Tok} (c_MAX_LINKS : g.mg "MAX_LINKS" = some (.int 8 t_MAX_LINKS)) {t_MAX_NODES : Tok} (c_MAX_NODES : g.mg "MAX_NODES" = some (.int 7 t_MAX_NODES)) {f : Addr} {fd : FuncData} (F : Fun g.K "net_error" "net_error" s_net_error f fd) : FnOk g.P g.w g.K g.mg g.base CX0 4 f fd ["nodes", "links"] (sp_net_error g) := by
  refine F.ok sc_net_error (fun vs H Q E h => ?_) (fun cdv A outer s H vs Q E hr h => ?_)
  · first | (obtain ⟨rfl, _⟩ := h; rfl) | (obtain ⟨_, rfl, _⟩ := h; rfl) | (obtain ⟨_, _, rfl, _⟩ := h; rfl) | (obtain ⟨_, _, _, rfl, _⟩ := h; rfl) | (obtain ⟨_, _, _, _, rfl, _⟩ := h; rfl) | (obtain ⟨_, _, _, _, _, rfl, _⟩ := h; rfl) | (obtain ⟨_, _, _, _, _, _, rfl, _⟩ := h; rfl) | (obtain ⟨_, _, _, _, _, _, _, rfl, _⟩ := h; rfl) | (obtain ⟨_, _, _, _, _, _, _, _, rfl, _⟩ := h; rfl) | (obtain ⟨_, _, _, _, _, _, _, _, _, rfl, _⟩ := h; rfl) | (obtain ⟨_, _, _, _, _, _, _, _, _, _, rfl, _⟩ := h; rfl) | (obtain ⟨_, _, _, _, _, _, _, _, _, _, _, rfl, _⟩ := h; rfl) | (obtain ⟨_, _, _, _, _, _, _, _, _, _, _, _, rfl, _⟩ := h; rfl) | (obtain ⟨_, _, _, _, _, _, _, _, _, _, _, _, _, rfl, _⟩ := h; rfl)
  have hu := room_un hr
  obtain ⟨v, n, L, rfl, hv, ok, k⟩ := h
  have o1 := ok.lo
  have o2 := ok.hi
  have o3 := ok.few
  refine ⟨_, (pss_cons (ps_if (PW.pt (pw_or (pt_not (pt_val (pe_cF C_is_whole (hr.mono (by decide)) rfl (pa_cons (pv 0) pa_nil)))) (pw_or1 (pt_not (pt_chain op_le op_le pe_int (pv 0) (pe_glob (v := .int 7) rfl c_MAX_NODES ⟨_, rfl⟩)))))) (pss_one ps_dead) pss_nil)
      (pss_cons (ps_if (PW.pt (pw_or (pt_not (pt_val (pe_callB (isiW g) (by rfl) T.b_isinstance boot_f_isinstance (pa_cons (pv 1) (pa_cons (pe_bltn (v := .ty "tuple") rfl T.b_tuple boot_t_tuple rfl) pa_nil))))) (pw_or1 (pt_cmpR op_gt (pe_callB (lenW g) (by rfl) T.b_len boot_f_len (pa_cons (pv 1) pa_nil)) (pe_glob (v := .int 8) rfl c_MAX_LINKS ⟨_, rfl⟩) (nomark _))))) (pss_one ps_dead) pss_nil)
      (pss_cons (ps_for PassesOwn.never rfl (iEW g (by rfl) T.b_enumerate (pa_cons (pv 1) pa_nil)) (gTW g (n := 2) rfl (pgs_cons (pg_name (i := 2) sc_net_error.nd rfl (Or.inl rfl)) (pgs_cons (pg_name (i := 3) sc_net_error.nd rfl (Or.inl rfl)) pgs_nil))) (pss_cons (ps_if (pt_not (pt_val (pe_cF C_is_link (hr.mono (by decide)) rfl (pa_cons (pv 3) (pa_cons (pv 0) pa_nil))))) (pss_one ps_dead) pss_nil)
      (pss_one (ps_if (pt_cmpR (inDW g hu) (pe_callB (sortedTW g hu) (by rfl) T.b_sorted boot_f_sorted (pa_cons (pv 3) pa_nil)) (pe_lc (own := [("other", 4)]) rfl sc_net_error.nd (iTW g (pe_slice (slTW g) (pv 1) po_none (po_some (pv 2)))) (blkOk_by rfl) (fun _ _ _ _ _ => pg_name (i := 4) sc_net_error.nd rfl (Or.inl rfl)) (fun _ _ _ _ _ => pts_nil) (fun _ _ _ _ _ => (pe_callB (sortedTW g hu) (by rfl) T.b_sorted boot_f_sorted (pa_cons (pv 4) pa_nil)))) rfl) (pss_one ps_dead) pss_nil))))
      (pss_one (ps_ret pe_non))))), ?_⟩
  obtain ⟨a, xs, rfl, hs, hx⟩ := tp_tup hv
  have hxl : xs.length = L.length := by rw [hx.len, List.length_map]
  walk_at "go"
  refine ⟨n, rfl, ?_⟩
  walk_at "go"
  refine st_T (decide_eq_true (by omega)) ?_
  walk_at "go"
  refine st_F (by rw [decide_eq_true (by omega)]; rfl) ?_
  walk_at "go"
  refine isiT hs ?_
  walk_at "go"
  refine lenT hs ?_
  walk_at "go"
  refine st_F (decide_eq_false (by omega)) ?_
  walk_at "go"
  refine ⟨a, xs, rfl, hs, ?_⟩
  refine forE (K := g.K) (xs := xs) (fun i σ H1 => Ex g.T H H1 ∧ ∃ x2 x3 x4, σ = [some (.int n), some (.ref a), x2, x3, x4]) ⟨.refl _, _, _, _, rfl⟩ (fun i σ H1 p => p.1.st hs) (fun i x t σ H1 hi p ht => ?_) (fun σ H1 p => ?_)
  · obtain ⟨e, x2, x3, x4, rfl⟩ := p
    have e1 : Ex g.T H (upd H1 t (.tup [.int (i : Nat), x])) := e.trans (.new ht)
    obtain ⟨z, hz, hxz⟩ := hx.src hi
    have hz0 := ok.link z (List.mem_of_getElem? hz)
    have hxz1 := e1.tp hxz
    refine st_g2 (.of upd_same) ?_
    walk_at "go"
    refine ⟨_, z, n, rfl, hxz1, ⟨by omega, by omega, by omega⟩, ?_⟩
    walk_at "go"
    obtain ⟨b, ys, rfl, hb, hy⟩ := tp_tup hxz1
    have hyy := tpInts (l := [(z.1 : Int), (z.2 : Int)]) hy
    subst hyy
    refine sortT2 hb hz0.1 fun q hq => ?_
    walk_at "go"
    refine slA (by exact (e1.trans (.new hq)).st hs) fun c H2 h2 hc => ?_
    have e2 : Ex g.T (upd (upd H1 t (.tup [.int (i : Nat), .ref b])) q (.lst [.int z.1, .int z.2])) H2 := by
      rcases h2 with rfl | ⟨h2, rfl⟩
      · exact .refl _
      · exact .new h2
    rw [cut_to] at hc
    have e3 : Ex g.T H H2 := (e1.trans (.new hq)).trans e2
    have hc2 : TpAll g.K H2 (xs.take i) ((L.take i).map eP) := by
      rw [List.map_take]
      exact (e3.tps hx).take i
    walk_at "go"
    refine ⟨c, rfl, ⟨_, hc⟩, ?_⟩
    refine lcTL (T := g.T) (l := L.take i) (enc := eP) (fun p => [(p.1 : Int), (p.2 : Int)]) hc hc2 (by rw [List.length_take]; omega) (fun w x H3 hw e4 hx3 Yes No hY => ?_) fun p H3 ys np e4 hp hy3 => ?_
    · have hw0 := ok.link w (List.mem_of_mem_take hw)
      obtain ⟨b2, y2, rfl, hb2, hy2⟩ := tp_tup hx3
      have hyy := tpInts (l := [(w.1 : Int), (w.2 : Int)]) hy2
      subst hyy
      walk_at "go"
      refine sortT2 hb2 hw0.1 fun q2 hq2 => ?_
      exact hY q2 _ (.new hq2) (.of hq2) upd_same
    · have e5 : Ex g.T (upd (upd H1 t (.tup [.int (i : Nat), .ref b])) q (.lst [.int z.1, .int z.2])) H3 := e2.trans e4
      refine ⟨.list [.int z.1, .int z.2], _, .lst (.of (e5.at upd_same)) (dpInts [(z.1 : Int), (z.2 : Int)]), .lst (.of hp) hy3, rfl, ?_, ?_⟩
      · exact shp_list (f := fun p : Nat × Nat => PyData.list [.int p.1, .int p.2]) 1 (fun _ => rfl) (fun p => by simp [PyData.depth, PyData.depthAll]) (by decide)
      · have e7 : z ∉ L.take i := fun hm => by
          obtain ⟨j, hj⟩ := List.getElem?_of_mem hm
          rw [List.getElem?_take] at hj
          split at hj
          · rename_i hji
            obtain ⟨l1, r1⟩ := List.getElem?_eq_some_iff.mp hj
            obtain ⟨l2, r2⟩ := List.getElem?_eq_some_iff.mp hz
            exact List.pairwise_iff_getElem.mp ok.nd j i l1 l2 hji (r1.trans r2.symm)
          · cases hj
        have e8 : (List.map (fun z : Nat × Nat => PyData.list ([(z.1 : Int), (z.2 : Int)].map PyData.int)) (L.take i)).any (fun y => PyData.eqv y (.list [.int z.1, .int z.2])) = false :=
          any_nin (f := fun p : Nat × Nat => PyData.list [.int p.1, .int p.2]) (fun _ => rfl) (fun p q h => eP_inj p q (congrArg PyData.tuple (PyData.list.inj h))) e7
        refine st_blx ?_
        refine st_F e8 ?_
        walk_at "go"
        exact ⟨e3.trans e4, _, _, _, rfl⟩
  · obtain ⟨e, x2, x3, x4, rfl⟩ := p
    walk_at "go"
    exact k _ e
/-- a list of plain things that are in the lists -/
theorem srtP_perm (L : List (Nat × Nat)) : (srtP L).Perm L := List.mergeSort_perm _ _
theorem NetOk.srt {n : Nat} {L : List (Nat × Nat)} (ok : NetOk n L) : NetOk n (srtP L) :=
  ⟨ok.lo, ok.hi, by rw [(srtP_perm L).length_eq]; exact ok.few, fun p hp => ok.link p ((srtP_perm L).mem_iff.mp hp), (srtP_perm L).nodup_iff.mpr ok.nd⟩
-- Net.__init__: slots self 0, nodes 1, links 2, error 3, link 4; cells []
abbrev s_Net___init__ : Stmt := inClass (top 58) 0
abbrev N_Net___init__ : List Str := ["self", "nodes", "links", "error", "link"]
theorem sc_Net___init__ : FnScope N_Net___init__ ["self", "nodes", "links"] (defScope s_Net___init__) := ⟨rfl, rfl, rfl, by decide +kernel, rfl, by decide +kernel, by decide +kernel⟩
def sp_Net___init__ (g : Gx) : Sp := fun vs H Q _ => ∃ x v, ∃ n : Nat, ∃ L : List (Nat × Nat), vs = [.ref x, .int n, v] ∧ (∃ dx, H x = some (.ins g.nc dx [])) ∧ Tp g.K H v (.tuple (L.map eP)) ∧ NetOk n L ∧ ∀ H', ExB g.T x H H' → NetAt g H' x n (srtP L) → Q .non H'
theorem ok_Net___init__ (g : Gx) (T : Blt g.mg) (Z : Fct g) (C_net_error : Cal g.P g.w g.K g.mg g.base 4 "net_error" ["nodes", "links"] (sp_net_error g))  {f : Addr} {fd : FuncData} (F : Fun g.K "__init__" "Net.__init__" s_Net___init__ f fd) : FnOk g.P g.w g.K g.mg g.base CX0 5 f fd ["self", "nodes", "links"] (sp_Net___init__ g) := by
  refine F.ok sc_Net___init__ (fun vs H Q E h => ?_) (fun cdv A outer s H vs Q E hr h => ?_)
  · first | (obtain ⟨rfl, _⟩ := h; rfl) | (obtain ⟨_, rfl, _⟩ := h; rfl) | (obtain ⟨_, _, rfl, _⟩ := h; rfl) | (obtain ⟨_, _, _, rfl, _⟩ := h; rfl) | (obtain ⟨_, _, _, _, rfl, _⟩ := h; rfl) | (obtain ⟨_, _, _, _, _, rfl, _⟩ := h; rfl) | (obtain ⟨_, _, _, _, _, _, rfl, _⟩ := h; rfl) | (obtain ⟨_, _, _, _, _, _, _, rfl, _⟩ := h; rfl) | (obtain ⟨_, _, _, _, _, _, _, _, rfl, _⟩ := h; rfl) | (obtain ⟨_, _, _, _, _, _, _, _, _, rfl, _⟩ := h; rfl) | (obtain ⟨_, _, _, _, _, _, _, _, _, _, rfl, _⟩ := h; rfl) | (obtain ⟨_, _, _, _, _, _, _, _, _, _, _, rfl, _⟩ := h; rfl) | (obtain ⟨_, _, _, _, _, _, _, _, _, _, _, _, rfl, _⟩ := h; rfl) | (obtain ⟨_, _, _, _, _, _, _, _, _, _, _, _, _, rfl, _⟩ := h; rfl)
  have hu := room_un hr
  obtain ⟨x, v, n, L, rfl, ⟨dx, hx0⟩, hv, ok, k⟩ := h
  refine ⟨_, (pss_cons (ps_set (i := 3) sc_Net___init__.nd rfl (Or.inl rfl) (pe_cF C_net_error (hr.mono (by decide)) rfl (pa_cons (pv 1) (pa_cons (pv 2) pa_nil))))
      (pss_cons (ps_if (pt_cmpR notNW (pv 3) pe_non (nomark _)) (pss_one ps_dead) pss_nil)
      (pss_cons (sfldW g (pv 0) (pv 1) rfl)
      (pss_one (sfldW g (pv 0) (pe_callTy (tupOfW g) (by rfl) T.b_tuple boot_t_tuple (pa_cons (pe_callB (sortedDW g hu) (by rfl) T.b_sorted boot_f_sorted (pa_cons (pe_lc (own := [("link", 4)]) rfl sc_Net___init__.nd (iTW g (pv 2)) (blkOk_by rfl) (fun _ _ _ _ _ => pg_name (i := 4) sc_Net___init__.nd rfl (Or.inl rfl)) (fun _ _ _ _ _ => pts_nil) (fun _ _ _ _ _ => (pe_tup (pa_cons (pe_callB (minTW g hu) (by rfl) T.b_min boot_f_min (pa_cons (pv 4) pa_nil)) (pa_cons (pe_callB (maxTW g hu) (by rfl) T.b_max boot_f_max (pa_cons (pv 4) pa_nil)) pa_nil))))) pa_nil)) pa_nil)) rfl))))), ?_⟩
  have nx : NoTup H x := noTup_of hx0
  obtain ⟨a, xs, rfl, hs, hx⟩ := tp_tup hv
  have o3 := ok.few
  walk_at "go"
  refine ⟨_, n, L, rfl, hv, ok, fun H1 e1 => ?_⟩
  walk_at "go"
  have b1 : ExB g.T x H H1 := ExB.refl.then e1
  have hx1 := e1.at hx0
  refine ⟨x, g.nc, dx, [], rfl, hx1, Z.nc, Z.nc_size, Nat.le_of_ble_eq_true rfl, ?_⟩
  walk_at "go"
  have b2 := b1.set (o := .ins g.nc dx (putF "size" (.int n) [])) hx1
  have s2 := b2.st (u := .tup []) nx hs
  have t2 := b2.tps nx hx
  refine ⟨a, rfl, ⟨_, s2⟩, ?_⟩
  refine lcT (T := g.T) (l := L) (enc := eP) (fun _ => true) eP s2 t2 (by omega) (fun z y H3 hz e3 hy => ?_) fun p H3 ys np e3 hp hy => ?_
  · intro Yes No hY hN
    have hz0 := ok.link z hz
    obtain ⟨b, zs, rfl, hb, hzs⟩ := tp_tup hy
    have hzz := tpInts (l := [(z.1 : Int), (z.2 : Int)]) hzs
    subst hzz
    walk_at "go"
    refine ⟨b, z.1, z.2, rfl, hb, by omega, ?_⟩
    walk_at "go"
    refine ⟨b, z.1, z.2, rfl, hb, by omega, ?_⟩
    walk_at "go"
    exact ⟨szr rfl, fun q hq => hY rfl _ _ (.new hq) (.tup (.of upd_same) (.cons (.int _) (.cons (.int _) .nil)))⟩
  · rw [List.filter_eq_self.mpr (fun _ _ => rfl)] at hy
    walk_at "go"
    refine sortLP (.of hp) hy fun q zs hq hz => ?_
    walk_at "go"
    refine tupL (.of upd_same) fun q2 hq2 => ?_
    walk_at "go"
    have e4 := (e3.trans (.new (o := .lst zs) hq)).trans (.new (o := .tup zs) hq2)
    have hx4 := e4.at (upd_same (H := H1) (a := x) (o := .ins g.nc dx (putF "size" (.int n) [])))
    refine ⟨x, g.nc, dx, _, rfl, hx4, Z.nc, Z.nc_pairs, Nat.le_of_ble_eq_true rfl, ?_⟩
    walk_at "go"
    have b5 := (b2.then e4).set (o := .ins g.nc dx (netF n q2)) hx4
    refine k _ b5 ⟨⟨dx, q2, zs, upd_same, .of ?_, ?_⟩, ok.srt⟩
    · rw [upd_ne (fun z => by rw [z] at hq2; have := e3.trans (.new (o := .lst zs) hq) |>.at (upd_same (H := H1) (a := x) (o := .ins g.nc dx (putF "size" (.int n) []))); rw [hq2] at this; cases this)]
      exact upd_same
    · exact (hz.up (noTup_none hq2)).up (noTup_of hx4)
-- Net.nodes: slots self 0; cells []
abbrev s_Net_nodes : Stmt := inClass (top 58) 1
abbrev N_Net_nodes : List Str := ["self"]
theorem sc_Net_nodes : FnScope N_Net_nodes ["self"] (defScope s_Net_nodes) := ⟨rfl, rfl, rfl, by decide +kernel, rfl, by decide +kernel, by decide +kernel⟩
def sp_Net_nodes (g : Gx) : Sp := fun vs H Q _ => ∃ a, ∃ n : Nat, ∃ L : List (Nat × Nat), vs = [.ref a] ∧ NetAt g H a n L ∧ Q (.int n) H
theorem ok_Net_nodes (g : Gx) (T : Blt g.mg) (Z : Fct g)   {f : Addr} {fd : FuncData} (F : Fun g.K "nodes" "Net.nodes" s_Net_nodes f fd) : FnOk g.P g.w g.K g.mg g.base CX0 1 f fd ["self"] (sp_Net_nodes g) := by
  refine F.ok sc_Net_nodes (fun vs H Q E h => ?_) (fun cdv A outer s H vs Q E hr h => ?_)
  · first | (obtain ⟨rfl, _⟩ := h; rfl) | (obtain ⟨_, rfl, _⟩ := h; rfl) | (obtain ⟨_, _, rfl, _⟩ := h; rfl) | (obtain ⟨_, _, _, rfl, _⟩ := h; rfl) | (obtain ⟨_, _, _, _, rfl, _⟩ := h; rfl) | (obtain ⟨_, _, _, _, _, rfl, _⟩ := h; rfl) | (obtain ⟨_, _, _, _, _, _, rfl, _⟩ := h; rfl) | (obtain ⟨_, _, _, _, _, _, _, rfl, _⟩ := h; rfl) | (obtain ⟨_, _, _, _, _, _, _, _, rfl, _⟩ := h; rfl) | (obtain ⟨_, _, _, _, _, _, _, _, _, rfl, _⟩ := h; rfl) | (obtain ⟨_, _, _, _, _, _, _, _, _, _, rfl, _⟩ := h; rfl) | (obtain ⟨_, _, _, _, _, _, _, _, _, _, _, rfl, _⟩ := h; rfl) | (obtain ⟨_, _, _, _, _, _, _, _, _, _, _, _, rfl, _⟩ := h; rfl) | (obtain ⟨_, _, _, _, _, _, _, _, _, _, _, _, _, rfl, _⟩ := h; rfl)
  have hu := room_un hr
  obtain ⟨a, n, L, rfl, ⟨⟨dx, p, xs, h1, h2, h3⟩, ok⟩, k⟩ := h
  refine ⟨_, (pss_one (ps_ret (fldW g (pv 0) rfl))), ?_⟩
  walk_at "go"
  exact ⟨a, _, _, _, _, rfl, h1, Z.nc, Z.nc_size, rfl, k⟩
-- Net.__len__: slots self 0; cells []
abbrev s_Net___len__ : Stmt := inClass (top 58) 7
abbrev N_Net___len__ : List Str := ["self"]
theorem sc_Net___len__ : FnScope N_Net___len__ ["self"] (defScope s_Net___len__) := ⟨rfl, rfl, rfl, by decide +kernel, rfl, by decide +kernel, by decide +kernel⟩
def sp_Net___len__ (g : Gx) : Sp := fun vs H Q _ => ∃ a, ∃ n : Nat, ∃ L : List (Nat × Nat), vs = [.ref a] ∧ NetAt g H a n L ∧ Q (.int L.length) H
theorem ok_Net___len__ (g : Gx) (T : Blt g.mg) (Z : Fct g)   {f : Addr} {fd : FuncData} (F : Fun g.K "__len__" "Net.__len__" s_Net___len__ f fd) : FnOk g.P g.w g.K g.mg g.base CX0 1 f fd ["self"] (sp_Net___len__ g) := by
  refine F.ok sc_Net___len__ (fun vs H Q E h => ?_) (fun cdv A outer s H vs Q E hr h => ?_)
  · first | (obtain ⟨rfl, _⟩ := h; rfl) | (obtain ⟨_, rfl, _⟩ := h; rfl) | (obtain ⟨_, _, rfl, _⟩ := h; rfl) | (obtain ⟨_, _, _, rfl, _⟩ := h; rfl) | (obtain ⟨_, _, _, _, rfl, _⟩ := h; rfl) | (obtain ⟨_, _, _, _, _, rfl, _⟩ := h; rfl) | (obtain ⟨_, _, _, _, _, _, rfl, _⟩ := h; rfl) | (obtain ⟨_, _, _, _, _, _, _, rfl, _⟩ := h; rfl) | (obtain ⟨_, _, _, _, _, _, _, _, rfl, _⟩ := h; rfl) | (obtain ⟨_, _, _, _, _, _, _, _, _, rfl, _⟩ := h; rfl) | (obtain ⟨_, _, _, _, _, _, _, _, _, _, rfl, _⟩ := h; rfl) | (obtain ⟨_, _, _, _, _, _, _, _, _, _, _, rfl, _⟩ := h; rfl) | (obtain ⟨_, _, _, _, _, _, _, _, _, _, _, _, rfl, _⟩ := h; rfl) | (obtain ⟨_, _, _, _, _, _, _, _, _, _, _, _, _, rfl, _⟩ := h; rfl)
  have hu := room_un hr
  obtain ⟨a, n, L, rfl, ⟨⟨dx, p, xs, h1, h2, h3⟩, ok⟩, k⟩ := h
  refine ⟨_, (pss_one (ps_ret (pe_callB (lenW g) (by rfl) T.b_len boot_f_len (pa_cons (fldW g (pv 0) rfl) pa_nil)))), ?_⟩
  walk_at "go"
  refine ⟨a, _, _, _, _, rfl, h1, Z.nc, Z.nc_pairs, rfl, ?_⟩
  walk_at "go"
  refine lenT h2 ?_
  walk_at "go"
  rw [h3.len, List.length_map]
  exact k
/-- the links at a node -/
def netAt (L : List (Nat × Nat)) (node : Nat) : List Nat := (L.zipIdx.filter fun q => decide (node = q.1.1 ∨ node = q.1.2)).map fun q => q.2
-- Net.at: slots self 0, node 1, index 2, link 3; cells ['node']
abbrev s_Net_at : Stmt := inClass (top 58) 3
abbrev N_Net_at : List Str := ["self", "node", "index", "link"]
theorem sc_Net_at : FnScope N_Net_at ["self", "node"] (defScope s_Net_at) := ⟨rfl, rfl, rfl, by decide +kernel, rfl, by decide +kernel, by decide +kernel⟩
def sp_Net_at (g : Gx) : Sp := fun vs H Q _ => ∃ a, ∃ n node : Nat, ∃ L : List (Nat × Nat), vs = [.ref a, .int node] ∧ NetAt g H a n L ∧ ∀ r H', Ex g.T H H' → Tp g.K H' r (ot (netAt L node)) → Q r H'
theorem ok_Net_at (g : Gx) (T : Blt g.mg) (Z : Fct g)   {f : Addr} {fd : FuncData} (F : Fun g.K "at" "Net.at" s_Net_at f fd) : FnOk g.P g.w g.K g.mg g.base CX0 1 f fd ["self", "node"] (sp_Net_at g) := by
  refine F.ok sc_Net_at (fun vs H Q E h => ?_) (fun cdv A outer s H vs Q E hr h => ?_)
  · first | (obtain ⟨rfl, _⟩ := h; rfl) | (obtain ⟨_, rfl, _⟩ := h; rfl) | (obtain ⟨_, _, rfl, _⟩ := h; rfl) | (obtain ⟨_, _, _, rfl, _⟩ := h; rfl) | (obtain ⟨_, _, _, _, rfl, _⟩ := h; rfl) | (obtain ⟨_, _, _, _, _, rfl, _⟩ := h; rfl) | (obtain ⟨_, _, _, _, _, _, rfl, _⟩ := h; rfl) | (obtain ⟨_, _, _, _, _, _, _, rfl, _⟩ := h; rfl) | (obtain ⟨_, _, _, _, _, _, _, _, rfl, _⟩ := h; rfl) | (obtain ⟨_, _, _, _, _, _, _, _, _, rfl, _⟩ := h; rfl) | (obtain ⟨_, _, _, _, _, _, _, _, _, _, rfl, _⟩ := h; rfl) | (obtain ⟨_, _, _, _, _, _, _, _, _, _, _, rfl, _⟩ := h; rfl) | (obtain ⟨_, _, _, _, _, _, _, _, _, _, _, _, rfl, _⟩ := h; rfl) | (obtain ⟨_, _, _, _, _, _, _, _, _, _, _, _, _, rfl, _⟩ := h; rfl)
  have hu := room_un hr
  obtain ⟨a, n, node, L, rfl, ⟨⟨dx, p, xs, h1, h2, h3⟩, ok⟩, k⟩ := h
  refine ⟨_, (pss_one (ps_ret (pe_callTy (tupOfW g) (by rfl) T.b_tuple boot_t_tuple (pa_cons (pe_lc (own := [("index", 2), ("link", 3)]) rfl sc_Net_at.nd (iEW g (by rfl) T.b_enumerate (pa_cons (fldW g (pv 0) rfl) pa_nil)) (blkOk_by rfl) (fun _ _ _ _ _ => gTW g (n := 2) rfl (pgs_cons (pg_name (i := 2) sc_Net_at.nd rfl (Or.inl rfl)) (pgs_cons (pg_name (i := 3) sc_Net_at.nd rfl (Or.inl rfl)) pgs_nil))) (fun _ _ _ _ _ => pts_one (pt_cmpR (inTW g hu) (pv 1) (pv 3) rfl)) (fun _ _ _ _ _ => (pv 2))) pa_nil)))), ?_⟩
  have o3 := ok.few
  walk_at "go"
  refine ⟨a, _, _, _, _, rfl, h1, Z.nc, Z.nc_pairs, rfl, ?_⟩
  walk_at "go"
  refine ⟨p, xs, rfl, h2, ?_⟩
  refine lcE (T := g.T) (l := L) (enc := eP) (fun i z => decide (node = z.1 ∨ node = z.2)) (fun i _ => eN i) h2 h3 (by omega) (fun i z x t H1 hz e hx ht => ?_) fun p H1 zs np e hp hz => ?_
  · intro Yes No hY hN
    refine st_g2 ht ?_
    walk_at "go"
    refine ⟨.int node, [.int z.1, .int z.2], .int _, hx.dp, rfl, shp1 (n := 1) rfl (by simp [PyData.depth, PyData.depthAll]) (by decide), ?_⟩
    have e1 := any2 z.1 z.2 node
    rw [e1]
    refine st_blx ?_
    by_cases hc : node = z.1 ∨ node = z.2
    · rw [decide_eq_true hc]
      walk_at "go"
      exact hY (decide_eq_true hc) _ _ (.refl _) (.int _)
    · rw [decide_eq_false hc]
      walk_at "go"
      exact hN (decide_eq_false hc) _ (.refl _)
  · walk_at "go"
    refine tupL (.of hp) fun q hq => ?_
    walk_at "go"
    refine k _ _ (e.trans (.new hq)) (.tup (.of upd_same) ?_)
    have := hz.up (o := .tup zs) (noTup_none hq)
    unfold netAt
    rw [List.map_map]
    exact this
/-- the other end of a link -/
def netFar (L : List (Nat × Nat)) (i node : Nat) : Nat := match L[i]? with
  | some p => if node = p.1 then p.2 else p.1
  | none => 0
-- Net.far: slots self 0, link 1, node 2, one 3, other 4; cells []
abbrev s_Net_far : Stmt := inClass (top 58) 4
abbrev N_Net_far : List Str := ["self", "link", "node", "one", "other"]
theorem sc_Net_far : FnScope N_Net_far ["self", "link", "node"] (defScope s_Net_far) := ⟨rfl, rfl, rfl, by decide +kernel, rfl, by decide +kernel, by decide +kernel⟩
def sp_Net_far (g : Gx) : Sp := fun vs H Q _ => ∃ a, ∃ n i node : Nat, ∃ L : List (Nat × Nat), vs = [.ref a, .int i, .int node] ∧ NetAt g H a n L ∧ i < L.length ∧ Q (.int (netFar L i node)) H
theorem ok_Net_far (g : Gx) (T : Blt g.mg) (Z : Fct g)   {f : Addr} {fd : FuncData} (F : Fun g.K "far" "Net.far" s_Net_far f fd) : FnOk g.P g.w g.K g.mg g.base CX0 1 f fd ["self", "link", "node"] (sp_Net_far g) := by
  refine F.ok sc_Net_far (fun vs H Q E h => ?_) (fun cdv A outer s H vs Q E hr h => ?_)
  · first | (obtain ⟨rfl, _⟩ := h; rfl) | (obtain ⟨_, rfl, _⟩ := h; rfl) | (obtain ⟨_, _, rfl, _⟩ := h; rfl) | (obtain ⟨_, _, _, rfl, _⟩ := h; rfl) | (obtain ⟨_, _, _, _, rfl, _⟩ := h; rfl) | (obtain ⟨_, _, _, _, _, rfl, _⟩ := h; rfl) | (obtain ⟨_, _, _, _, _, _, rfl, _⟩ := h; rfl) | (obtain ⟨_, _, _, _, _, _, _, rfl, _⟩ := h; rfl) | (obtain ⟨_, _, _, _, _, _, _, _, rfl, _⟩ := h; rfl) | (obtain ⟨_, _, _, _, _, _, _, _, _, rfl, _⟩ := h; rfl) | (obtain ⟨_, _, _, _, _, _, _, _, _, _, rfl, _⟩ := h; rfl) | (obtain ⟨_, _, _, _, _, _, _, _, _, _, _, rfl, _⟩ := h; rfl) | (obtain ⟨_, _, _, _, _, _, _, _, _, _, _, _, rfl, _⟩ := h; rfl) | (obtain ⟨_, _, _, _, _, _, _, _, _, _, _, _, _, rfl, _⟩ := h; rfl)
  have hu := room_un hr
  obtain ⟨a, n, i, node, L, rfl, ⟨⟨dx, p, xs, h1, h2, h3⟩, ok⟩, hi, k⟩ := h
  refine ⟨_, (pss_cons (ps_asg (pe_ix (ixW g) (fldW g (pv 0) rfl) (pv 1) (fun _ _ => rfl)) (gTW g (n := 2) rfl (pgs_cons (pg_name (i := 3) sc_Net_far.nd rfl (Or.inl rfl)) (pgs_cons (pg_name (i := 4) sc_Net_far.nd rfl (Or.inl rfl)) pgs_nil))))
      (pss_one (ps_ret (pe_ifExp (pt_cmpR op_eq (pv 2) (pv 3) (nomark _)) (pv 4) (pv 3))))), ?_⟩
  walk_at "go"
  refine ⟨a, _, _, _, _, rfl, h1, Z.nc, Z.nc_pairs, rfl, ?_⟩
  walk_at "go"
  obtain ⟨x, hx, tx⟩ := h3.get (i := i) (d := eP L[i]) (by rw [List.getElem?_map, List.getElem?_eq_getElem hi]; rfl)
  refine st_ixT h2 (atI_nat hx) ?_
  obtain ⟨b, zs, rfl, hb, hz⟩ := tp_tup tx
  have hzz := tpInts (l := [(L[i].1 : Int), (L[i].2 : Int)]) hz
  subst hzz
  refine st_g2 hb ?_
  walk_at "go"
  have e : netFar L i node = if node = L[i].1 then L[i].2 else L[i].1 := by
    unfold netFar
    rw [List.getElem?_eq_getElem hi]
  rw [e] at k
  by_cases hc : node = L[i].1
  · rw [if_pos hc] at k
    refine st_T (decide_eq_true (by omega)) ?_
    walk_at "go"
    exact k
  · rw [if_neg hc] at k
    refine st_F (decide_eq_false (by omega)) ?_
    walk_at "go"
    exact k
end Sp
end
section
set_option Elab.async false
set_option linter.all false
set_option maxRecDepth 100000
set_option maxHeartbeats 4000000
set_option autoImplicit false
local macro_rules | `(tactic| walk_at "go") => `(tactic| repeat first
  | (with_reducible first
     | refine Sp.st_var rfl ?_ | refine Sp.st_c ?_ | refine Sp.st_op ?_ | refine Sp.st_seq ?_ | refine Sp.st_asg ?_ | refine Sp.st_name ?_
     | refine Sp.st_ret ?_ | refine Sp.st_drop ?_ | refine Sp.st_next ?_ | refine Sp.st_if ?_ | refine Sp.st_nx ?_ | refine Sp.st_rt ?_
     | refine Sp.st_cons ?_ | refine Sp.st_nil ?_ | refine Sp.st_cb ?_ | refine Sp.st_call ?_ | refine Sp.st_test ?_ | refine Sp.st_B ?_
     | refine Sp.st_not ?_ | refine Sp.st_and ?_ | refine Sp.st_or ?_ | refine Sp.st_andV ?_ | refine Sp.st_orV ?_ | refine Sp.st_notV ?_
     | refine Sp.st_tif ?_ | refine Sp.st_tup ?_ | refine Sp.st_lst ?_ | refine Sp.st_blx ?_ | refine Sp.st_I0 ?_ | refine Sp.st_U ?_
     | refine Sp.st_eqI ?_ | refine Sp.st_neI ?_ | refine Sp.st_chain ?_ | refine Sp.isiI ?_ | refine Sp.isiB ?_ | refine Sp.isiS ?_
     | refine Sp.st_T rfl ?_ | refine Sp.st_F rfl ?_ | refine Sp.st_lc ?_ | refine Sp.st_iT ?_ | refine Sp.st_iL ?_ | refine Sp.st_iR1 ?_
     | refine Sp.st_iR2 ?_ | refine Sp.st_iET ?_ | refine Sp.st_iZA ?_ | refine Sp.st_iZLT ?_ | refine Sp.st_for ?_ | refine Sp.st_fld ?_
     | refine Sp.st_sfld ?_ | refine Sp.st_prop ?_ | refine Sp.st_meth ?_ | refine Sp.st_make ?_ | refine Sp.st_isN ?_ | refine Sp.st_yes ?_
     | refine Sp.isNI ?_ | refine Sp.notNI ?_ | refine Sp.int1I ?_ | refine Sp.int1B ?_ | refine Sp.min2I ?_ | refine Sp.max2I ?_
     | refine Sp.st_dputN ?_ | refine Sp.st_dgetN ?_ | refine Sp.st_revL ?_ | refine Sp.st_din ?_ | refine Sp.st_dnin ?_ | refine Sp.st_dget ?_ | refine Sp.st_dput ?_ | refine Sp.st_dc ?_ | refine Sp.st_dcN ?_
     | refine Sp.st_sortLam ?_ | refine Sp.st_lc2 ?_ | refine Sp.st_bm ?_ | refine Sp.st_lenO ?_ | refine Sp.st_sl ?_ | refine Sp.st_part ?_ | refine Sp.st_nopart ?_ | refine Sp.st_intx ?_)
  | ((with_reducible refine Sp.st_wp ?_ ?_); (focus rfl)))
namespace Sp
open PySem PySem.Spec L2

/-! outages as numbers -/
def numOf (o : List Nat) : Nat := (o.map fun l => 2 ^ l).sum
def outOf (x : Nat) : List Nat := (List.range 8).filter fun l => decide (x / 2 ^ l % 2 = 1)
theorem num_out : ∀ x, x < 256 → numOf (outOf x) = x := by decide +kernel
theorem out_lt0 : ∀ m, m < 9 → ∀ x, x < 2 ^ m → (outOf x).all (fun l => decide (l < m)) = true := by decide +kernel
theorem bit0 : ∀ x : Nat, x < 256 → ∀ l : Nat, l < 8 → (decide (Builtin.bitAnd ((x : Int) / (2 : Int) ^ ((l : Int)).toNat) 1 = 1)) = decide (x / 2 ^ l % 2 = 1) := by decide +kernel
theorem out_lt {m x l : Nat} (hm : m ≤ 8) (hx : x < 2 ^ m) (hl : l ∈ outOf x) : l < m := by
  have := out_lt0 m (by omega) x hx
  rw [List.all_eq_true] at this
  exact of_decide_eq_true (this l hl)
theorem out_asc (x : Nat) : (outOf x).Pairwise (· < ·) := List.Pairwise.filter _ List.pairwise_lt_range
theorem out_len (x : Nat) : (outOf x).length ≤ 8 := Nat.le_trans (List.length_filter_le _ _) (by simp)
theorem pow_le256 {m : Nat} (h : m ≤ 8) : 2 ^ m ≤ 256 := Nat.pow_le_pow_right (by decide) h
-- number_of: slots outage 0, link 1; cells []
abbrev s_number_of : Stmt := top 18
abbrev N_number_of : List Str := ["outage", "link"]
theorem sc_number_of : FnScope N_number_of ["outage"] (defScope s_number_of) := ⟨rfl, rfl, rfl, by decide +kernel, rfl, by decide +kernel, by decide +kernel⟩
def sp_number_of (g : Gx) : Sp := fun vs H Q _ => ∃ v, ∃ o : List Nat, vs = [v] ∧ Tp g.K H v (ot o) ∧ (o.length ≤ 1000 ∧ ∀ x ∈ o, x < 1000) ∧ ∀ H', Ex g.T H H' → Q (.int (numOf o)) H'
theorem ok_number_of (g : Gx) (T : Blt g.mg) (Z : Fct g)   {f : Addr} {fd : FuncData} (F : Fun g.K "number_of" "number_of" s_number_of f fd) : FnOk g.P g.w g.K g.mg g.base CX0 1 f fd ["outage"] (sp_number_of g) := by
  refine F.ok sc_number_of (fun vs H Q E h => ?_) (fun cdv A outer s H vs Q E hr h => ?_)
  · first | (obtain ⟨rfl, _⟩ := h; rfl) | (obtain ⟨_, rfl, _⟩ := h; rfl) | (obtain ⟨_, _, rfl, _⟩ := h; rfl) | (obtain ⟨_, _, _, rfl, _⟩ := h; rfl) | (obtain ⟨_, _, _, _, rfl, _⟩ := h; rfl) | (obtain ⟨_, _, _, _, _, rfl, _⟩ := h; rfl) | (obtain ⟨_, _, _, _, _, _, rfl, _⟩ := h; rfl) | (obtain ⟨_, _, _, _, _, _, _, rfl, _⟩ := h; rfl) | (obtain ⟨_, _, _, _, _, _, _, _, rfl, _⟩ := h; rfl) | (obtain ⟨_, _, _, _, _, _, _, _, _, rfl, _⟩ := h; rfl) | (obtain ⟨_, _, _, _, _, _, _, _, _, _, rfl, _⟩ := h; rfl) | (obtain ⟨_, _, _, _, _, _, _, _, _, _, _, rfl, _⟩ := h; rfl) | (obtain ⟨_, _, _, _, _, _, _, _, _, _, _, _, rfl, _⟩ := h; rfl) | (obtain ⟨_, _, _, _, _, _, _, _, _, _, _, _, _, rfl, _⟩ := h; rfl)
  have hu := room_un hr
  obtain ⟨v, o, rfl, hv, ⟨hz, hm⟩, k⟩ := h
  refine ⟨_, (pss_one (ps_ret (pe_callB (cr_sum rfl) (by rfl) T.b_sum boot_f_sum (pa_cons (pe_lc (own := [("link", 1)]) rfl sc_number_of.nd (iTW g (pv 0)) (blkOk_by rfl) (fun _ _ _ _ _ => pg_name (i := 1) sc_number_of.nd rfl (Or.inl rfl)) (fun _ _ _ _ _ => pts_nil) (fun _ _ _ _ _ => (pe_op op_shl pe_int (pv 1)))) pa_nil)))), ?_⟩
  obtain ⟨a, xs, rfl, hs, hx⟩ := tp_tup hv
  walk_at "go"
  refine ⟨a, rfl, ⟨_, hs⟩, ?_⟩
  refine lcT (T := g.T) (l := o) (enc := eN) (fun _ => true) (fun l => .int ((2 : Int) ^ l)) hs hx (by omega) (fun z x H1 hz e hx => ?_) fun p H1 ys n e hp hy => ?_
  · intro Yes No hY hN
    cases tp_int hx
    walk_at "go"
    have := hm z hz
    refine st_I ⟨by omega, by omega, by decide⟩ ?_
    refine hY rfl _ _ (.refl _) ?_
    rw [Int.one_mul, Int.toNat_natCast]
    exact .int _
  · rw [List.filter_eq_self.mpr (fun _ _ => rfl)] at hy
    walk_at "go"
    have hy' := tpInts (l := o.map fun l => (2 : Int) ^ l) (by rw [List.map_map]; exact hy)
    subst hy'
    refine ⟨p, _, rfl, .of hp, ?_⟩
    walk_at "go"
    have e1 : (o.map fun l => (2 : Int) ^ l).sum = (numOf o : Nat) := by
      unfold numOf
      clear hx hs hv hm hz hy hp k e
      induction o with
      | nil => rfl
      | cons l o ih =>
        rw [List.map_cons, List.sum_cons, ih, List.map_cons, List.sum_cons]
        simp
    rw [e1]
    exact k _ e
-- outage_of: slots number 0, link 1; cells ['number']
abbrev s_outage_of : Stmt := top 19
abbrev N_outage_of : List Str := ["number", "link"]
theorem sc_outage_of : FnScope N_outage_of ["number"] (defScope s_outage_of) := ⟨rfl, rfl, rfl, by decide +kernel, rfl, by decide +kernel, by decide +kernel⟩
def sp_outage_of (g : Gx) : Sp := fun vs H Q _ => ∃ x : Nat, vs = [.int x] ∧ x < 256 ∧ ∀ r H', Ex g.T H H' → Tp g.K H' r (ot (outOf x)) → Q r H'
theorem ok_outage_of (g : Gx) (T : Blt g.mg) (Z : Fct g)  {t_MAX_LINKS : Tok} (c_MAX_LINKS : g.mg "MAX_LINKS" = some (.int 8 t_MAX_LINKS)) {f : Addr} {fd : FuncData} (F : Fun g.K "outage_of" "outage_of" s_outage_of f fd) : FnOk g.P g.w g.K g.mg g.base CX0 1 f fd ["number"] (sp_outage_of g) := by
  refine F.ok sc_outage_of (fun vs H Q E h => ?_) (fun cdv A outer s H vs Q E hr h => ?_)
  · first | (obtain ⟨rfl, _⟩ := h; rfl) | (obtain ⟨_, rfl, _⟩ := h; rfl) | (obtain ⟨_, _, rfl, _⟩ := h; rfl) | (obtain ⟨_, _, _, rfl, _⟩ := h; rfl) | (obtain ⟨_, _, _, _, rfl, _⟩ := h; rfl) | (obtain ⟨_, _, _, _, _, rfl, _⟩ := h; rfl) | (obtain ⟨_, _, _, _, _, _, rfl, _⟩ := h; rfl) | (obtain ⟨_, _, _, _, _, _, _, rfl, _⟩ := h; rfl) | (obtain ⟨_, _, _, _, _, _, _, _, rfl, _⟩ := h; rfl) | (obtain ⟨_, _, _, _, _, _, _, _, _, rfl, _⟩ := h; rfl) | (obtain ⟨_, _, _, _, _, _, _, _, _, _, rfl, _⟩ := h; rfl) | (obtain ⟨_, _, _, _, _, _, _, _, _, _, _, rfl, _⟩ := h; rfl) | (obtain ⟨_, _, _, _, _, _, _, _, _, _, _, _, rfl, _⟩ := h; rfl) | (obtain ⟨_, _, _, _, _, _, _, _, _, _, _, _, _, rfl, _⟩ := h; rfl)
  have hu := room_un hr
  obtain ⟨x, rfl, hx, k⟩ := h
  refine ⟨_, (pss_one (ps_ret (pe_callTy (tupOfW g) (by rfl) T.b_tuple boot_t_tuple (pa_cons (pe_lc (own := [("link", 1)]) rfl sc_outage_of.nd (pi_range1 (by rfl) T.b_range (pa_cons (pe_glob (v := .int 8) rfl c_MAX_LINKS ⟨_, rfl⟩) pa_nil)) (blkOk_by rfl) (fun _ _ _ _ _ => pg_name (i := 1) sc_outage_of.nd rfl (Or.inl rfl)) (fun _ _ _ _ _ => pts_one (pt_cmpR op_eq (pe_op op_and (pe_op op_shr (pv 0) (pv 1)) pe_int) pe_int (nomark _))) (fun _ _ _ _ _ => (pv 1))) pa_nil)))), ?_⟩
  walk_at "go"
  refine ⟨8, rfl, by decide, by decide, ?_⟩
  refine lcR (T := g.T) (K := g.K) (lo := 0) (n := 8) (fun l => decide (x / 2 ^ l % 2 = 1)) eN (by decide) (fun z H1 hz e => ?_) fun p H1 ys n e hp hy => ?_
  · intro Yes No hY hN
    rw [Int.zero_add]
    walk_at "go"
    refine st_I (Int.natCast_nonneg z) ?_
    walk_at "go"
    rw [bit0 x hx z hz]
    by_cases hc : x / 2 ^ z % 2 = 1
    · refine st_T (decide_eq_true hc) ?_
      walk_at "go"
      exact hY (decide_eq_true hc) _ _ (.refl _) (.int _)
    · refine st_F (decide_eq_false hc) ?_
      exact hN (decide_eq_false hc) _ (.refl _)
  · walk_at "go"
    refine tupL (.of hp) fun q hq => ?_
    walk_at "go"
    exact k _ _ (e.trans (.new hq)) (.tup (.of upd_same) (hy.up (noTup_none hq)))
-- outages_error: slots many 0, members 1, seen 2, index 3, member 4; cells []
abbrev s_outages_error : Stmt := top 17
abbrev N_outages_error : List Str := ["many", "members", "seen", "index", "member"]
theorem sc_outages_error : FnScope N_outages_error ["many", "members"] (defScope s_outages_error) := ⟨rfl, rfl, rfl, by decide +kernel, rfl, by decide +kernel, by decide +kernel⟩
def sp_outages_error (g : Gx) : Sp := fun vs H Q _ => ∃ v, ∃ m : Nat, ∃ ms : List (List Nat), vs = [.int m, v] ∧ Tp g.K H v (.tuple (ms.map ot)) ∧ (m ≤ 8 ∧ ms.length ≤ 256 ∧ ms.Nodup ∧ ∀ o ∈ ms, (o.Pairwise (· < ·) ∧ ∀ x ∈ o, x < m) ∧ o.length ≤ 8) ∧ ∀ H', Ex g.T H H' → Q .non H'
def seenK (ms : List (List Nat)) : List (KO × D) := ms.map fun o => (o.map fun n : Nat => some (n : Int), PyData.bool true)
theorem seenK_inj (a b : List Nat) (h : (a.map fun n : Nat => some (n : Int)) = b.map fun n : Nat => some (n : Int)) : a = b := map_inj' (fun x y e => Int.ofNat.inj (Option.some.inj e)) h
theorem ot_key (o : List Nat) : ot o = kD (o.map fun n : Nat => some (n : Int)) := by
  show PyData.tuple _ = PyData.tuple _
  rw [List.map_map]
  rfl
theorem ok_outages_error (g : Gx) (T : Blt g.mg) (Z : Fct g) (C_is_whole : Cal g.P g.w g.K g.mg g.base 1 "is_whole" ["value"] (sp_is_whole g)) (C_ascends : Cal g.P g.w g.K g.mg g.base 3 "ascends" ["value", "bound"] (sp_ascends g)) {t_MAX_LINKS : Tok} (c_MAX_LINKS : g.mg "MAX_LINKS" = some (.int 8 t_MAX_LINKS)) {f : Addr} {fd : FuncData} (F : Fun g.K "outages_error" "outages_error" s_outages_error f fd) : FnOk g.P g.w g.K g.mg g.base CX0 4 f fd ["many", "members"] (sp_outages_error g) := by
  refine F.ok sc_outages_error (fun vs H Q E h => ?_) (fun cdv A outer s H vs Q E hr h => ?_)
  · first | (obtain ⟨rfl, _⟩ := h; rfl) | (obtain ⟨_, rfl, _⟩ := h; rfl) | (obtain ⟨_, _, rfl, _⟩ := h; rfl) | (obtain ⟨_, _, _, rfl, _⟩ := h; rfl) | (obtain ⟨_, _, _, _, rfl, _⟩ := h; rfl) | (obtain ⟨_, _, _, _, _, rfl, _⟩ := h; rfl) | (obtain ⟨_, _, _, _, _, _, rfl, _⟩ := h; rfl) | (obtain ⟨_, _, _, _, _, _, _, rfl, _⟩ := h; rfl) | (obtain ⟨_, _, _, _, _, _, _, _, rfl, _⟩ := h; rfl) | (obtain ⟨_, _, _, _, _, _, _, _, _, rfl, _⟩ := h; rfl) | (obtain ⟨_, _, _, _, _, _, _, _, _, _, rfl, _⟩ := h; rfl) | (obtain ⟨_, _, _, _, _, _, _, _, _, _, _, rfl, _⟩ := h; rfl) | (obtain ⟨_, _, _, _, _, _, _, _, _, _, _, _, rfl, _⟩ := h; rfl) | (obtain ⟨_, _, _, _, _, _, _, _, _, _, _, _, _, rfl, _⟩ := h; rfl)
  have hu := room_un hr
  obtain ⟨v, m, ms, rfl, hv, ⟨h8, hz, hnd, hms⟩, k⟩ := h
  refine ⟨_, (pss_cons (ps_if (PW.pt (pw_or (pt_not (pt_val (pe_cF C_is_whole (hr.mono (by decide)) rfl (pa_cons (pv 0) pa_nil)))) (pw_or1 (pt_not (pt_chain op_le op_le pe_int (pv 0) (pe_glob (v := .int 8) rfl c_MAX_LINKS ⟨_, rfl⟩)))))) (pss_one ps_dead) pss_nil)
      (pss_cons (ps_if (pt_not (pt_val (pe_callB (isiW g) (by rfl) T.b_isinstance boot_f_isinstance (pa_cons (pv 1) (pa_cons (pe_bltn (v := .ty "tuple") rfl T.b_tuple boot_t_tuple rfl) pa_nil))))) (pss_one ps_dead) pss_nil)
      (pss_cons (ps_set (i := 2) sc_outages_error.nd rfl (Or.inl rfl) (newNW g))
      (pss_cons (ps_for PassesOwn.never rfl (iEW g (by rfl) T.b_enumerate (pa_cons (pv 1) pa_nil)) (gTW g (n := 2) rfl (pgs_cons (pg_name (i := 3) sc_outages_error.nd rfl (Or.inl rfl)) (pgs_cons (pg_name (i := 4) sc_outages_error.nd rfl (Or.inl rfl)) pgs_nil))) (pss_cons (ps_if (pt_not (pt_val (pe_cF C_ascends (hr.mono (by decide)) rfl (pa_cons (pv 4) (pa_cons (pv 0) pa_nil))))) (pss_one ps_dead) pss_nil)
      (pss_cons (ps_if (pt_cmpR (inNW g hu) (pv 4) (pv 2) rfl) (pss_one ps_dead) pss_nil)
      (pss_one (putNW g hu (pv 2) (pv 4) pe_bl rfl)))))
      (pss_one (ps_ret pe_non)))))), ?_⟩
  obtain ⟨a, xs, rfl, hs, hx⟩ := tp_tup hv
  have hxl : xs.length = ms.length := by rw [hx.len, List.length_map]
  walk_at "go"
  refine ⟨m, rfl, ?_⟩
  walk_at "go"
  refine st_F (by rw [decide_eq_true (by omega)]; rfl) ?_
  walk_at "go"
  refine isiT hs ?_
  walk_at "go"
  refine fun d hd => ?_
  walk_at "go"
  have e0 : Ex g.T H (upd H d (DicN g.P g.w d [])) := .new hd
  refine ⟨a, xs, rfl, e0.st hs, ?_⟩
  refine forE (K := g.K) (xs := xs) (fun i σ H1 => Ex g.T H H1 ∧ DicD g.P g.w g.K H1 d (seenK (ms.take i)) ∧ ∃ x3 x4, σ = [some (.int m), some (.ref a), some (.ref d), x3, x4])
    ⟨e0, by rw [List.take_zero]; exact .new, _, _, rfl⟩ (fun i σ H1 p => p.1.st hs) (fun i x t σ H1 hi p ht => ?_) (fun σ H1 p => ?_)
  · obtain ⟨e, dd, x3, x4, rfl⟩ := p
    have e1 : Ex g.T H1 (upd H1 t (.tup [.int (i : Nat), x])) := .new ht
    obtain ⟨o, ho, hxo⟩ := hx.src hi
    obtain ⟨⟨hm1, hm2⟩, hm3⟩ := hms o (List.mem_of_getElem? ho)
    have hxo1 := e1.tp (e.tp hxo)
    refine st_g2 (.of upd_same) ?_
    walk_at "go"
    refine ⟨_, m, o, rfl, hxo1, ⟨hm1, fun x hx => by have := hm2 x hx; omega⟩, by omega, fun H2 e2 => ?_⟩
    walk_at "go"
    have d2 := (e1.trans e2).dic dd
    have k2 := e2.tp hxo1
    rw [ot_key] at k2
    have nk : (o.map fun n : Nat => some (n : Int)) ∉ (seenK (ms.take i)).map (·.1) := fun hm => by
      unfold seenK at hm
      rw [List.map_map] at hm
      obtain ⟨o2, ho2, eo⟩ := List.mem_map.mp hm
      have eo := seenK_inj _ _ eo
      subst eo
      obtain ⟨j, hj⟩ := List.getElem?_of_mem ho2
      rw [List.getElem?_take] at hj
      split at hj
      · rename_i hji
        obtain ⟨l1, r1⟩ := List.getElem?_eq_some_iff.mp hj
        obtain ⟨l2, r2⟩ := List.getElem?_eq_some_iff.mp ho
        exact List.pairwise_iff_getElem.mp hnd j i l1 l2 hji (r1.trans r2.symm)
      · cases hj
    have nv : (dval (seenK (ms.take i)) (o.map fun n : Nat => some (n : Int))).isSome = false := Bool.eq_false_iff.mpr fun e => nk ((dval_any _ _).mp e)
    refine ⟨d, _, _, rfl, d2, k2, ?_⟩
    refine st_blx ?_
    refine st_F nv ?_
    walk_at "go"
    obtain ⟨b, rfl, hb⟩ := tp_key k2
    have hil : i < ms.length := by have := (List.getElem?_eq_some_iff.mp ho).1; omega
    obtain ⟨L, l1, l2, l3⟩ := d2.put hb (.bl true) (by unfold seenK; rw [List.length_map, List.length_take]; omega)
    refine ⟨d, L, _, b, rfl, l1, rfl, hb, l2, ?_⟩
    walk_at "go"
    refine ⟨d2.mut (e.trans (e1.trans e2)) (.of hd), ?_, _, _, rfl⟩
    rw [dput_new nk] at l3
    unfold seenK at l3 ⊢
    rw [List.take_succ, ho, Option.toList_some, List.map_append]
    exact l3
  · obtain ⟨e, dd, x3, x4, rfl⟩ := p
    walk_at "go"
    exact k _ e
end Sp
end
section
set_option Elab.async false
set_option linter.all false
set_option maxRecDepth 100000
set_option maxHeartbeats 4000000
set_option autoImplicit false
local macro_rules | `(tactic| walk_at "go") => `(tactic| repeat first
  | (with_reducible first
     | refine Sp.st_var rfl ?_ | refine Sp.st_c ?_ | refine Sp.st_op ?_ | refine Sp.st_seq ?_ | refine Sp.st_asg ?_ | refine Sp.st_name ?_
     | refine Sp.st_ret ?_ | refine Sp.st_drop ?_ | refine Sp.st_next ?_ | refine Sp.st_if ?_ | refine Sp.st_nx ?_ | refine Sp.st_rt ?_
     | refine Sp.st_cons ?_ | refine Sp.st_nil ?_ | refine Sp.st_cb ?_ | refine Sp.st_call ?_ | refine Sp.st_test ?_ | refine Sp.st_B ?_
     | refine Sp.st_not ?_ | refine Sp.st_and ?_ | refine Sp.st_or ?_ | refine Sp.st_andV ?_ | refine Sp.st_orV ?_ | refine Sp.st_notV ?_
     | refine Sp.st_tif ?_ | refine Sp.st_tup ?_ | refine Sp.st_lst ?_ | refine Sp.st_blx ?_ | refine Sp.st_I0 ?_ | refine Sp.st_U ?_
     | refine Sp.st_eqI ?_ | refine Sp.st_neI ?_ | refine Sp.st_chain ?_ | refine Sp.isiI ?_ | refine Sp.isiB ?_ | refine Sp.isiS ?_
     | refine Sp.st_T rfl ?_ | refine Sp.st_F rfl ?_ | refine Sp.st_lc ?_ | refine Sp.st_iT ?_ | refine Sp.st_iL ?_ | refine Sp.st_iR1 ?_
     | refine Sp.st_iR2 ?_ | refine Sp.st_iET ?_ | refine Sp.st_iZA ?_ | refine Sp.st_iZLT ?_ | refine Sp.st_for ?_ | refine Sp.st_fld ?_
     | refine Sp.st_sfld ?_ | refine Sp.st_prop ?_ | refine Sp.st_meth ?_ | refine Sp.st_make ?_ | refine Sp.st_isN ?_ | refine Sp.st_yes ?_
     | refine Sp.isNI ?_ | refine Sp.notNI ?_ | refine Sp.int1I ?_ | refine Sp.int1B ?_ | refine Sp.min2I ?_ | refine Sp.max2I ?_
     | refine Sp.st_dputN ?_ | refine Sp.st_dgetN ?_ | refine Sp.st_revL ?_ | refine Sp.st_din ?_ | refine Sp.st_dnin ?_ | refine Sp.st_dget ?_ | refine Sp.st_dput ?_ | refine Sp.st_dc ?_ | refine Sp.st_dcN ?_
     | refine Sp.st_sortLam ?_ | refine Sp.st_lc2 ?_ | refine Sp.st_bm ?_ | refine Sp.st_lenO ?_ | refine Sp.st_sl ?_ | refine Sp.st_part ?_ | refine Sp.st_nopart ?_ | refine Sp.st_intx ?_)
  | ((with_reducible refine Sp.st_wp ?_ ?_); (focus rfl)))
namespace Sp
open PySem PySem.Spec L2

def allM (m : Nat) : List (List Nat) := (List.range (2 ^ m)).map outOf
/-- every outage of m links, the short ones first -/
def allO (m : Nat) : List (List Nat) := (allM m).mergeSort (PySem.W.dataLe false ok2)
def outF (m : Nat) (p : Addr) : List (Str × V) := [("width", .int m), ("cells", .ref p)]
structure OutAt (g : Gx) (H : Hp) (a : Addr) (m : Nat) : Prop where
  ex : ∃ dx p, H a = some (.ins g.oc dx (outF m p)) ∧ H p = some (.lst (List.replicate (2 ^ m) (.bl true)))
  le : m ≤ 8
theorem Ex.out {g : Gx} {H H' : Hp} {a : Addr} {m : Nat} (e : Ex g.T H H') (h : OutAt g H a m) : OutAt g H' a m := by
  obtain ⟨⟨dx, p, h1, h2⟩, ok⟩ := h
  exact ⟨⟨dx, p, e.at h1, e.at h2⟩, ok⟩
theorem allM_nodup {m : Nat} (h : m ≤ 8) : (allM m).Nodup := by
  unfold allM
  rw [List.Nodup, List.pairwise_map, List.pairwise_iff_getElem]
  intro i j hi hj hij e
  have hp := pow_le256 h
  rw [List.length_range] at hi hj
  rw [List.getElem_range, List.getElem_range] at e
  have e1 := num_out i (by omega)
  rw [e, num_out j (by omega)] at e1
  omega
-- Outages.__init__: slots self 0, many 1, members 2, error 3, numbers 4, member 5, number 6; cells ['numbers']
abbrev s_Outages___init__ : Stmt := inClass (top 21) 0
abbrev N_Outages___init__ : List Str := ["self", "many", "members", "error", "numbers", "member", "number"]
theorem sc_Outages___init__ : FnScope N_Outages___init__ ["self", "many", "members"] (defScope s_Outages___init__) := ⟨rfl, rfl, rfl, by decide +kernel, rfl, by decide +kernel, by decide +kernel⟩
def sp_Outages___init__ (g : Gx) : Sp := fun vs H Q _ => ∃ x v, ∃ m : Nat, vs = [.ref x, .int m, v] ∧ (∃ dx, H x = some (.ins g.oc dx [])) ∧ Tp g.K H v (.tuple ((allM m).map ot)) ∧ m ≤ 8 ∧ ∀ H', ExB g.T x H H' → OutAt g H' x m → Q .non H'
theorem ok_Outages___init__ (g : Gx) (T : Blt g.mg) (Z : Fct g) (C_outages_error : Cal g.P g.w g.K g.mg g.base 4 "outages_error" ["many", "members"] (sp_outages_error g)) (C_number_of : Cal g.P g.w g.K g.mg g.base 1 "number_of" ["outage"] (sp_number_of g))  {f : Addr} {fd : FuncData} (F : Fun g.K "__init__" "Outages.__init__" s_Outages___init__ f fd) : FnOk g.P g.w g.K g.mg g.base CX0 5 f fd ["self", "many", "members"] (sp_Outages___init__ g) := by
  refine F.ok sc_Outages___init__ (fun vs H Q E h => ?_) (fun cdv A outer s H vs Q E hr h => ?_)
  · first | (obtain ⟨rfl, _⟩ := h; rfl) | (obtain ⟨_, rfl, _⟩ := h; rfl) | (obtain ⟨_, _, rfl, _⟩ := h; rfl) | (obtain ⟨_, _, _, rfl, _⟩ := h; rfl) | (obtain ⟨_, _, _, _, rfl, _⟩ := h; rfl) | (obtain ⟨_, _, _, _, _, rfl, _⟩ := h; rfl) | (obtain ⟨_, _, _, _, _, _, rfl, _⟩ := h; rfl) | (obtain ⟨_, _, _, _, _, _, _, rfl, _⟩ := h; rfl) | (obtain ⟨_, _, _, _, _, _, _, _, rfl, _⟩ := h; rfl) | (obtain ⟨_, _, _, _, _, _, _, _, _, rfl, _⟩ := h; rfl) | (obtain ⟨_, _, _, _, _, _, _, _, _, _, rfl, _⟩ := h; rfl) | (obtain ⟨_, _, _, _, _, _, _, _, _, _, _, rfl, _⟩ := h; rfl) | (obtain ⟨_, _, _, _, _, _, _, _, _, _, _, _, rfl, _⟩ := h; rfl) | (obtain ⟨_, _, _, _, _, _, _, _, _, _, _, _, _, rfl, _⟩ := h; rfl)
  have hu := room_un hr
  obtain ⟨x, v, m, rfl, ⟨dx, hx0⟩, hv, hm, k⟩ := h
  refine ⟨_, (pss_cons (ps_set (i := 3) sc_Outages___init__.nd rfl (Or.inl rfl) (pe_cF C_outages_error (hr.mono (by decide)) rfl (pa_cons (pv 1) (pa_cons (pv 2) pa_nil))))
      (pss_cons (ps_if (pt_cmpR notNW (pv 3) pe_non (nomark _)) (pss_one ps_dead) pss_nil)
      (pss_cons (sfldW g (pv 0) (pv 1) rfl)
      (pss_cons (ps_set (i := 4) sc_Outages___init__.nd rfl (Or.inr rfl) (pe_dc (own := [("member", 5)]) rfl sc_Outages___init__.nd (iTW g (pv 2)) (blkOk_by rfl) (fun _ _ _ _ _ => pg_name (i := 5) sc_Outages___init__.nd rfl (Or.inl rfl)) (fun _ _ _ _ _ => pts_nil) (fun _ _ _ _ _ => (pe_cF C_number_of (hr.mono (by decide)) rfl (pa_cons (pv 5) pa_nil))) (fun _ _ _ _ _ => pe_bl)))
      (pss_one (sfldW g (pv 0) (pe_lc (own := [("number", 6)]) rfl sc_Outages___init__.nd (pi_range1 (by rfl) T.b_range (pa_cons (pe_op op_shl pe_int (pv 1)) pa_nil)) (blkOk_by rfl) (fun _ _ _ _ _ => pg_name (i := 6) sc_Outages___init__.nd rfl (Or.inl rfl)) (fun _ _ _ _ _ => pts_nil) (fun _ _ _ _ _ => (pe_cmp (dinW hu (pv 6) (pv 4)) rfl))) rfl)))))), ?_⟩
  have hp := pow_le256 hm
  have nx : NoTup H x := noTup_of hx0
  obtain ⟨a, xs, rfl, hs, hx⟩ := tp_tup hv
  have hml : (allM m).length = 2 ^ m := by unfold allM; rw [List.length_map, List.length_range]
  walk_at "go"
  refine ⟨_, m, allM m, rfl, hv, ⟨hm, by omega, allM_nodup hm, fun o ho => ?_⟩, fun H1 e1 => ?_⟩
  · obtain ⟨y, hy, rfl⟩ := List.mem_map.mp ho
    exact ⟨⟨out_asc y, fun l hl => out_lt hm (List.mem_range.mp hy) hl⟩, out_len y⟩
  walk_at "go"
  have b1 : ExB g.T x H H1 := ExB.refl.then e1
  have hx1 := e1.at hx0
  refine ⟨x, g.oc, dx, [], rfl, hx1, Z.oc, Z.oc_width, Nat.le_of_ble_eq_true rfl, ?_⟩
  walk_at "go"
  have b2 := b1.set (o := .ins g.oc dx (putF "width" (.int m) [])) hx1
  have s2 := b2.st (u := .tup []) nx hs
  have t2 := b2.tps nx hx
  refine ⟨a, rfl, ⟨_, s2⟩, fun d hd => ?_⟩
  have hxl : xs.length = 2 ^ m := by rw [hx.len, List.length_map, hml]
  have ed : Ex g.T (upd H1 x (.ins g.oc dx (putF "width" (.int m) []))) (upd (upd H1 x (.ins g.oc dx (putF "width" (.int m) []))) d (.dK [])) := .new hd
  refine dc_tup (xs := xs) (fun i H' => Ex g.T (upd H1 x (.ins g.oc dx (putF "width" (.int m) []))) H' ∧ ∃ kvs : List (Key × V), H' d = some (.dK kvs) ∧ kvs.length ≤ i ∧ ∀ j : Nat, j < i → valV kvs (.inl (j : Int)) = some (.bl true)) ⟨ed, [], upd_same, Nat.le_refl _, fun j hj => by omega⟩ (fun i H' _ p => p.1.st s2) (fun i y H' hi p => ?_) (fun H' p => ?_)
  · obtain ⟨e3, kvs, k1, k2, k3⟩ := p
    obtain ⟨o, ho, hy⟩ := t2.src hi
    have hil : i < 2 ^ m := by
      have := (List.getElem?_eq_some_iff.mp ho).1
      omega
    have eo : o = outOf i := by
      unfold allM at ho
      rw [List.getElem?_map, List.getElem?_range hil] at ho
      exact (Option.some.inj ho).symm
    subst eo
    refine st_name ?_
    refine ⟨rfl, ?_⟩
    walk_at "go"
    refine ⟨_, outOf i, rfl, e3.tp hy, ⟨by have := out_len i; omega, fun l hl => by have := out_lt hm hil hl; omega⟩, fun H4 e4 => ?_⟩
    walk_at "go"
    rw [num_out i (by omega)]
    refine ⟨kvs, .inl (i : Int), rfl, e4.at k1, sz_lt (by omega), ?_, _, upd_same, Nat.le_trans (length_putK _ _ _) (by omega), fun j hj => ?_⟩
    · exact (e3.trans e4).mut (.of hd) (e4.at k1) trivial
    · rw [valV_put]
      by_cases hj2 : j = i
      · subst hj2
        rw [if_pos rfl]
      · rw [if_neg (fun z => hj2 (by have := Sum.inl.inj z; omega))]
        exact k3 j (by omega)
  · obtain ⟨e3, kvs, k1, k2, k3⟩ := p
    rw [hxl] at k3
    walk_at "go"
    refine st_I ⟨by omega, by omega, by decide⟩ ?_
    rw [Int.one_mul, Int.toNat_natCast]
    have e2i : ((2 : Int) ^ m) = ((2 ^ m : Nat) : Int) := by simp
    refine ⟨_, rfl, by omega, by omega, ?_⟩
    rw [e2i, Int.toNat_natCast]
    refine lcR (T := g.T) (K := g.K) (lo := 0) (n := 2 ^ m) (fun _ => true) (fun _ => .bool true) (by omega) (fun z H5 hz e5 => ?_) fun p H5 ys np e5 hp hy => ?_
    · intro Yes No hY hN
      rw [Int.zero_add]
      walk_at "go"
      refine ⟨d, _, rfl, DGet.k (k := .inl (z : Int)) (e5.at k1), ?_⟩
      rw [k3 z hz]
      exact hY rfl _ _ (.refl _) (.bl _)
    · rw [List.filter_eq_self.mpr (fun _ _ => rfl)] at hy
      have hy' := tpBls (l := (List.range (2 ^ m)).map fun _ => true) (by rw [List.map_map]; exact hy)
      walk_at "go"
      have e6 := e3.trans e5
      have hx6 := e6.at (upd_same (H := H1) (a := x) (o := .ins g.oc dx (putF "width" (.int m) [])))
      refine ⟨x, g.oc, dx, _, rfl, hx6, Z.oc, Z.oc_cells, Nat.le_of_ble_eq_true rfl, ?_⟩
      walk_at "go"
      refine k _ ((b2.then e6).set hx6) ⟨⟨dx, p, upd_same, ?_⟩, hm⟩
      have hpx : p ≠ x := fun z => by
        rw [z, hx6] at hp
        cases hp
      rw [upd_ne hpx, hp, hy']
      rw [List.map_map]
      exact congrArg (fun l => some (HO.lst l)) ((List.map_const' (l := List.range (2 ^ m)) (b := V.bl true)).trans (by rw [List.length_range]))
-- Outages.full: slots cls 0, many 1, number 2; cells []
abbrev s_Outages_full : Stmt := inClass (top 21) 1
abbrev N_Outages_full : List Str := ["cls", "many", "number"]
theorem sc_Outages_full : FnScope N_Outages_full ["cls", "many"] (defScope s_Outages_full) := ⟨rfl, rfl, rfl, by decide +kernel, rfl, by decide +kernel, by decide +kernel⟩
def sp_Outages_full (g : Gx) : Sp := fun vs H Q _ => ∃ m : Nat, vs = [.ref g.oc, .int m] ∧ m ≤ 8 ∧ ∀ a H', Ex g.T H H' → OutAt g H' a m → Q (.ref a) H'
theorem ok_Outages_full (g : Gx) (T : Blt g.mg) (Z : Fct g) (C_Outages : CalK g.P g.w g.K g.mg g.base 5 g.oc "Outages" ["self", "many", "members"] (sp_Outages___init__ g)) (C_outage_of : Cal g.P g.w g.K g.mg g.base 1 "outage_of" ["number"] (sp_outage_of g))  {f : Addr} {fd : FuncData} (F : Fun g.K "full" "Outages.full" s_Outages_full f fd) : FnOk g.P g.w g.K g.mg g.base CX0 7 f fd ["cls", "many"] (sp_Outages_full g) := by
  refine F.ok sc_Outages_full (fun vs H Q E h => ?_) (fun cdv A outer s H vs Q E hr h => ?_)
  · first | (obtain ⟨rfl, _⟩ := h; rfl) | (obtain ⟨_, rfl, _⟩ := h; rfl) | (obtain ⟨_, _, rfl, _⟩ := h; rfl) | (obtain ⟨_, _, _, rfl, _⟩ := h; rfl) | (obtain ⟨_, _, _, _, rfl, _⟩ := h; rfl) | (obtain ⟨_, _, _, _, _, rfl, _⟩ := h; rfl) | (obtain ⟨_, _, _, _, _, _, rfl, _⟩ := h; rfl) | (obtain ⟨_, _, _, _, _, _, _, rfl, _⟩ := h; rfl) | (obtain ⟨_, _, _, _, _, _, _, _, rfl, _⟩ := h; rfl) | (obtain ⟨_, _, _, _, _, _, _, _, _, rfl, _⟩ := h; rfl) | (obtain ⟨_, _, _, _, _, _, _, _, _, _, rfl, _⟩ := h; rfl) | (obtain ⟨_, _, _, _, _, _, _, _, _, _, _, rfl, _⟩ := h; rfl) | (obtain ⟨_, _, _, _, _, _, _, _, _, _, _, _, rfl, _⟩ := h; rfl) | (obtain ⟨_, _, _, _, _, _, _, _, _, _, _, _, _, rfl, _⟩ := h; rfl)
  have hu := room_un hr
  obtain ⟨m, rfl, hm, k⟩ := h
  have hp := pow_le256 hm
  refine ⟨_, (pss_one (ps_ret (pe_kL (i := 0) C_Outages (hr.mono (by decide)) rfl (by first | exact .inl rfl | exact .inr (.inl rfl) | exact .inr (.inr rfl)) (pa_cons (pv 1) (pa_cons (pe_callTy (tupOfW g) (by rfl) T.b_tuple boot_t_tuple (pa_cons (pe_lc (own := [("number", 2)]) rfl sc_Outages_full.nd (pi_range1 (by rfl) T.b_range (pa_cons (pe_op op_shl pe_int (pv 1)) pa_nil)) (blkOk_by rfl) (fun _ _ _ _ _ => pg_name (i := 2) sc_Outages_full.nd rfl (Or.inl rfl)) (fun _ _ _ _ _ => pts_nil) (fun _ _ _ _ _ => (pe_cF C_outage_of (hr.mono (by decide)) rfl (pa_cons (pv 2) pa_nil)))) pa_nil)) pa_nil))))), ?_⟩
  walk_at "go"
  refine ⟨rfl, ?_⟩
  walk_at "go"
  refine st_I ⟨by omega, by omega, by decide⟩ ?_
  rw [Int.one_mul, Int.toNat_natCast]
  have e2m : ((2 : Int) ^ m) = ((2 ^ m : Nat) : Int) := by simp
  rw [e2m]
  generalize hg2 : 2 ^ m = M at *
  refine ⟨_, rfl, by omega, by omega, ?_⟩
  rw [Int.toNat_natCast]
  subst hg2
  refine lcR (T := g.T) (K := g.K) (lo := 0) (n := 2 ^ m) (fun _ => true) (fun x => ot (outOf x)) (by omega) (fun z H5 hz e5 => ?_) fun p H5 ys np e5 hp5 hy => ?_
  · intro Yes No hY hN
    rw [Int.zero_add]
    walk_at "go"
    exact ⟨z, rfl, by omega, fun r H6 e6 hr => hY rfl _ _ e6 hr⟩
  · rw [List.filter_eq_self.mpr (fun _ _ => rfl)] at hy
    walk_at "go"
    refine tupL (.of hp5) fun q hq => ?_
    walk_at "go"
    intro x dx hx hdx hne
    have e6 : Ex g.T H (upd H5 q (.tup ys)) := e5.trans (.new hq)
    refine ⟨x, _, m, rfl, ⟨dx, upd_same⟩, ?_, hm, fun H7 b7 ho => ⟨rfl, k x H7 (e6.trans (ExB.made hx hdx hne b7)) ho⟩⟩
    have e7 : Ex g.T (upd H5 q (.tup ys)) (upd (upd (upd H5 q (.tup ys)) dx (.own x)) x (.ins g.oc dx [])) := (Ex.new hdx).trans (.new (by rw [upd_ne (Ne.symm hne)]; exact hx))
    refine e7.tp (.tup (.of upd_same) ?_)
    unfold allM
    rw [List.map_map]
    exact hy.up (noTup_none hq)
/-- a def whose code object is known -/
structure FunC (K : Fg) (x qual : Str) (st : Stmt) (f : Addr) (fd : FuncData) (c : Addr) : Prop where
  ex : ∃ (oc : Value) (od : Option Addr) (kV doc pm : Value) (an : Option Addr) (ct : Value) (osl : Array (Option Value)),
    fd = PySem.W.fnOf x qual (defArgs st) (defBody st) (defScope st) .none kV doc pm an (.ref c) ct ∧ K.lookup f = some ⟨oc, od, .func fd, osl⟩ ∧ PySem.W.codeIn K (.ref c) qual = true
theorem FunC.ok {P : Program} {w : World} {K : Fg} {mg : Str → Option Value} {base : Heap} {x qual : Str} {st : Stmt} {f c : Addr} {fd : FuncData} {N ps : List Str} {k : Nat} {sp : Sp} (F : FunC K x qual st f fd c) (S : FnScope N ps (defScope st)) (len : ∀ vs H Q E, sp vs H Q E → vs.length = ps.length)
    (hbody : ∀ (A : Around) (outer : List Env) (s : Shared) (H : Hp) (vs : List V) (Q : VK) (E : XK), Room k (A.deeper (PyProof.Rows.envOfC qual (defScope st) s.heap.objs.size f (.ref c))) → sp vs H Q E →
      ∃ t, PSs (cxOf CX0 P w K mg base N qual (defScope st) f (.ref c) A outer s H E).nox (defBody st) t ∧ t { nx := fun _ H' => Q .non H', rt := Q } (start N vs) H) : FnOk P w K mg base CX0 (k + 1) f fd ps sp := by
  obtain ⟨oc, od, kV, doc, pm, an, ct, osl, rfl, lk, hcd⟩ := F.ex
  refine fn_of lk hcd S len fun A outer s H vs Q E hr hsp => ?_
  obtain ⟨t, h, q⟩ := hbody A outer s H vs Q E hr hsp
  exact ⟨t, h.nox, q⟩
-- Outages.members: slots self 0, found 1, number 2; cells ['self']
abbrev s_Outages_members : Stmt := inClass (top 21) 6
abbrev N_Outages_members : List Str := ["self", "found", "number"]
theorem sc_Outages_members : FnScope N_Outages_members ["self"] (defScope s_Outages_members) := ⟨rfl, rfl, rfl, by decide +kernel, rfl, by decide +kernel, by decide +kernel⟩
def lamQ : Str := ("Outages.members" : Str) ++ ".<locals>." ++ "<lambda>"
def sp_Outages_members (g : Gx) : Sp := fun vs H Q _ => ∃ a, ∃ m : Nat, vs = [.ref a] ∧ OutAt g H a m ∧ LamX.Tabs g.T H ∧ ∀ r H', Ex g.T H H' → Tp g.K H' r (.tuple ((allO m).map ot)) → Q r H'
theorem ok_Outages_members (g : Gx) (T : Blt g.mg) (Z : Fct g) (C_outage_of : Cal g.P g.w g.K g.mg g.base 1 "outage_of" ["number"] (sp_outage_of g)) {c tb f : Addr} {fd : FuncData} (TB : LamX.TabB g.base g.mg c tb) (hT : g.T = [(tb, lamQ)]) (F : FunC g.K "members" "Outages.members" s_Outages_members f fd c) :
    FnOk g.P g.w g.K g.mg g.base CX0 4 f fd ["self"] (sp_Outages_members g) := by
  refine F.ok sc_Outages_members (fun vs H Q E h => ?_) (fun A outer s H vs Q E hr h => ?_)
  · obtain ⟨_, _, rfl, _⟩ := h; rfl
  have hu := room_un hr
  obtain ⟨a, m, rfl, ⟨⟨dx, p, h1, h2⟩, hm⟩, hTab, k⟩ := h
  have hp := pow_le256 hm
  refine ⟨_, (pss_cons (ps_setLc (i := 1) (own := [("number", 2)]) rfl sc_Outages_members.nd rfl rfl (sw_true rfl rfl rfl (by decide +kernel)) (pi_range1 (by rfl) T.b_range (pa_cons (pe_callB (lenW g) (by rfl) T.b_len boot_f_len (pa_cons (fldW g (pv 0) rfl) pa_nil)) pa_nil)) (blkOk_by rfl) (fun _ _ _ _ _ => pg_name (i := 2) sc_Outages_members.nd rfl (Or.inl rfl)) (fun _ _ _ _ _ => pts_one (pt_val (pe_ix (ixW g) (fldW g (pv 0) rfl) (pv 2) (fun _ _ => rfl)))) (fun _ _ _ _ _ => (pe_cF C_outage_of (hr.mono (by decide)) rfl (pa_cons (pv 2) pa_nil))))
      (pss_one (ps_ret (pe_callTy (tupOfW g) (by rfl) T.b_tuple boot_t_tuple (pa_cons (pe_sortLam (T := g.T) (c := c) (P := tb) (y := "outage") rfl T.b_sorted T.b_len (pv 1) { txt := ⟨_, _, _, _, _, _, rfl⟩, kind := rfl, co := rfl, gen := rfl, cell := by decide +kernel, loc := by decide +kernel, len := by decide +kernel, free := rfl, bind := fun _ _ _ _ _ => rfl, defs := rfl, nofree := by decide +kernel, dbg := by decide } TB rfl (by rw [hT]; exact List.mem_singleton.mpr rfl) (by rw [hT]; intro p hp _; rw [List.mem_singleton.mp hp]; rfl) (hr.mono (by decide))) pa_nil))))), ?_⟩
  walk_at "go"
  refine ⟨a, _, _, _, _, rfl, h1, Z.oc, Z.oc_cells, rfl, ?_⟩
  walk_at "go"
  refine lenL (.of h2) ?_
  walk_at "go"
  rw [List.length_replicate]
  generalize hg2 : 2 ^ m = M at *
  refine ⟨_, rfl, by omega, by omega, ?_⟩
  rw [Int.toNat_natCast]
  subst hg2
  refine lcR (T := g.T) (K := g.K) (lo := 0) (n := 2 ^ m) (fun _ => true) (fun x => ot (outOf x)) (by omega) (fun z H5 hz e5 => ?_) fun q H5 ys np e5 hp5 hy => ?_
  · intro Yes No hY hN
    rw [Int.zero_add]
    walk_at "go"
    refine ⟨a, _, _, _, _, rfl, e5.at h1, Z.oc, Z.oc_cells, rfl, ?_⟩
    walk_at "go"
    refine st_ixL (.of (e5.at h2)) (atI_nat (v := .bl true) (by rw [List.getElem?_replicate, if_pos hz])) ?_
    refine st_blx ?_
    walk_at "go"
    exact ⟨z, rfl, by omega, fun r H6 e6 hr => hY rfl _ _ e6 hr⟩
  · rw [List.filter_eq_self.mpr (fun _ _ => rfl)] at hy
    walk_at "go"
    refine ⟨q, ys, allM m, rfl, .of hp5, by unfold allM; rw [List.map_map]; exact hy, e5.tab hTab, fun o ho => ?_, fun p2 zs H6 e6 hp6 hz => ?_⟩
    · obtain ⟨x, _, rfl⟩ := List.mem_map.mp ho
      have := out_len x
      omega
    walk_at "go"
    refine tupL (.of upd_same) fun p3 hp7 => ?_
    walk_at "go"
    exact k _ _ ((e5.trans e6).trans ((Ex.new hp6).trans (.new hp7))) (.tup (.of upd_same) (hz.up (noTup_none hp7)))
end Sp
end
section
set_option Elab.async false
set_option linter.all false
set_option maxRecDepth 100000
set_option maxHeartbeats 4000000
set_option autoImplicit false
local macro_rules | `(tactic| walk_at "go") => `(tactic| repeat first
  | (with_reducible first
     | refine Sp.st_var rfl ?_ | refine Sp.st_c ?_ | refine Sp.st_op ?_ | refine Sp.st_seq ?_ | refine Sp.st_asg ?_ | refine Sp.st_name ?_
     | refine Sp.st_ret ?_ | refine Sp.st_drop ?_ | refine Sp.st_next ?_ | refine Sp.st_if ?_ | refine Sp.st_nx ?_ | refine Sp.st_rt ?_
     | refine Sp.st_cons ?_ | refine Sp.st_nil ?_ | refine Sp.st_cb ?_ | refine Sp.st_call ?_ | refine Sp.st_test ?_ | refine Sp.st_B ?_
     | refine Sp.st_not ?_ | refine Sp.st_and ?_ | refine Sp.st_or ?_ | refine Sp.st_andV ?_ | refine Sp.st_orV ?_ | refine Sp.st_notV ?_
     | refine Sp.st_tif ?_ | refine Sp.st_tup ?_ | refine Sp.st_lst ?_ | refine Sp.st_blx ?_ | refine Sp.st_I0 ?_ | refine Sp.st_U ?_
     | refine Sp.st_eqI ?_ | refine Sp.st_neI ?_ | refine Sp.st_chain ?_ | refine Sp.isiI ?_ | refine Sp.isiB ?_ | refine Sp.isiS ?_
     | refine Sp.st_T rfl ?_ | refine Sp.st_F rfl ?_ | refine Sp.st_lc ?_ | refine Sp.st_iT ?_ | refine Sp.st_iL ?_ | refine Sp.st_iR1 ?_
     | refine Sp.st_iR2 ?_ | refine Sp.st_iET ?_ | refine Sp.st_iZA ?_ | refine Sp.st_iZLT ?_ | refine Sp.st_for ?_ | refine Sp.st_fld ?_
     | refine Sp.st_sfld ?_ | refine Sp.st_prop ?_ | refine Sp.st_meth ?_ | refine Sp.st_make ?_ | refine Sp.st_isN ?_ | refine Sp.st_yes ?_
     | refine Sp.isNI ?_ | refine Sp.notNI ?_ | refine Sp.int1I ?_ | refine Sp.int1B ?_ | refine Sp.min2I ?_ | refine Sp.max2I ?_
     | refine Sp.st_dputN ?_ | refine Sp.st_dgetN ?_ | refine Sp.st_revL ?_ | refine Sp.st_din ?_ | refine Sp.st_dnin ?_ | refine Sp.st_dget ?_ | refine Sp.st_dput ?_ | refine Sp.st_dc ?_ | refine Sp.st_dcN ?_
     | refine Sp.st_sortLam ?_ | refine Sp.st_lc2 ?_ | refine Sp.st_lenSet ?_ | refine Sp.st_bm ?_ | refine Sp.st_lenO ?_ | refine Sp.st_sl ?_ | refine Sp.st_part ?_ | refine Sp.st_nopart ?_ | refine Sp.st_intx ?_)
  | ((with_reducible refine Sp.st_wp ?_ ?_); (focus rfl)))
namespace Sp
open PySem PySem.Spec L2

/-! ### books: keys and rows -/
structure KeyOk (n : Nat) (L : List (Nat × Nat)) (t w : Nat) (k : Ky) : Prop where
  node : k.1 < n
  off : k.1 ≠ t
  mark : k.2.2 < w
  none : k.2.1 = .none → k.2.2 = 0
  some : ∀ c, k.2.1 = .some c → c ∈ netAt L k.1
structure RowOk (L : List (Nat × Nat)) (node w : Nat) (r : Row) : Prop where
  link : ∀ p ∈ r, p.1 ∈ netAt L node ∧ p.2 < w
  nd : (r.map (·.1)).Nodup
theorem netAt_lt {L : List (Nat × Nat)} {node c : Nat} (h : c ∈ netAt L node) : c < L.length := by
  unfold netAt at h
  obtain ⟨q, hq, rfl⟩ := List.mem_map.mp h
  have := List.mem_zipIdx (List.mem_filter.mp hq).1
  omega
theorem netAt_nodup {L : List (Nat × Nat)} {node : Nat} : (netAt L node).Nodup := by
  unfold netAt
  have h : (L.zipIdx.map (·.2)).Nodup := by
    rw [List.zipIdx_map_snd]
    exact List.nodup_range'
  exact (List.Sublist.map _ List.filter_sublist).nodup h
theorem nodup_len {α : Type} [DecidableEq α] : ∀ {a b : List α}, a.Nodup → (∀ x ∈ a, x ∈ b) → a.length ≤ b.length
  | [], _, _, _ => Nat.zero_le _
  | x :: a, b, h, hs => by
    rw [List.nodup_cons] at h
    have hx := hs x List.mem_cons_self
    have h1 := nodup_len (b := b.erase x) h.2 fun y hy => (List.mem_erase_of_ne (fun e => h.1 (by rw [← e]; exact hy))).mpr (hs y (List.mem_cons_of_mem _ hy))
    rw [List.length_erase_of_mem hx] at h1
    have := List.length_pos_of_mem hx
    rw [List.length_cons]
    omega
theorem netAt_len {L : List (Nat × Nat)} {node : Nat} : (netAt L node).length ≤ L.length := by
  unfold netAt
  rw [List.length_map]
  exact Nat.le_trans (List.length_filter_le _ _) (by simp)
theorem RowOk.len {L : List (Nat × Nat)} {node w : Nat} {r : Row} (h : RowOk L node w r) : r.length ≤ L.length := by
  have h1 : ∀ x ∈ r.map (·.1), x ∈ netAt L node := fun x hx => by
    obtain ⟨p, hp, rfl⟩ := List.mem_map.mp hx
    exact (h.link p hp).1
  have := nodup_len h.nd h1
  rw [List.length_map] at this
  exact Nat.le_trans this netAt_len
-- is_key: slots net 0, target 1, marks 2, value 3, node 4, came 5, mark 6; cells []
abbrev s_is_key : Stmt := top 50
abbrev N_is_key : List Str := ["net", "target", "marks", "value", "node", "came", "mark"]
theorem sc_is_key : FnScope N_is_key ["net", "target", "marks", "value"] (defScope s_is_key) := ⟨rfl, rfl, rfl, by decide +kernel, rfl, by decide +kernel, by decide +kernel⟩
def sp_is_key (g : Gx) : Sp := fun vs H Q _ => ∃ a v, ∃ n t w : Nat, ∃ L : List (Nat × Nat), ∃ k : Ky, vs = [.ref a, .int t, .int w, v] ∧ NetAt g H a n L ∧ Tp g.K H v (eK k) ∧ KeyOk n L t w k ∧ ∀ H', Ex g.T H H' → Q (.bl true) H'
theorem ok_is_key (g : Gx) (T : Blt g.mg) (Z : Fct g) (C_is_below : Cal g.P g.w g.K g.mg g.base 2 "is_below" ["value", "bound"] (sp_is_below g)) (C_nodes : CalP g.P g.w g.K g.mg g.base 1 g.nc "nodes" (sp_Net_nodes g)) (C___len__ : CalM g.P g.w g.K g.mg g.base 1 g.nc "__len__" ["self"] (sp_Net___len__ g)) (C_at : CalM g.P g.w g.K g.mg g.base 1 g.nc "at" ["self", "node"] (sp_Net_at g))  {f : Addr} {fd : FuncData} (F : Fun g.K "is_key" "is_key" s_is_key f fd) : FnOk g.P g.w g.K g.mg g.base CX0 3 f fd ["net", "target", "marks", "value"] (sp_is_key g) := by
  refine F.ok sc_is_key (fun vs H Q E h => ?_) (fun cdv A outer s H vs Q E hr h => ?_)
  · first | (obtain ⟨rfl, _⟩ := h; rfl) | (obtain ⟨_, rfl, _⟩ := h; rfl) | (obtain ⟨_, _, rfl, _⟩ := h; rfl) | (obtain ⟨_, _, _, rfl, _⟩ := h; rfl) | (obtain ⟨_, _, _, _, rfl, _⟩ := h; rfl) | (obtain ⟨_, _, _, _, _, rfl, _⟩ := h; rfl) | (obtain ⟨_, _, _, _, _, _, rfl, _⟩ := h; rfl) | (obtain ⟨_, _, _, _, _, _, _, rfl, _⟩ := h; rfl) | (obtain ⟨_, _, _, _, _, _, _, _, rfl, _⟩ := h; rfl) | (obtain ⟨_, _, _, _, _, _, _, _, _, rfl, _⟩ := h; rfl) | (obtain ⟨_, _, _, _, _, _, _, _, _, _, rfl, _⟩ := h; rfl) | (obtain ⟨_, _, _, _, _, _, _, _, _, _, _, rfl, _⟩ := h; rfl) | (obtain ⟨_, _, _, _, _, _, _, _, _, _, _, _, rfl, _⟩ := h; rfl) | (obtain ⟨_, _, _, _, _, _, _, _, _, _, _, _, _, rfl, _⟩ := h; rfl)
  have hu := room_un hr
  obtain ⟨a, v, n, t, w, L, k, rfl, hn, hv, ok, kk⟩ := h
  refine ⟨_, (pss_cons (ps_if (PW.pt (pw_or (pt_not (pt_val (pe_callB (isiW g) (by rfl) T.b_isinstance boot_f_isinstance (pa_cons (pv 3) (pa_cons (pe_bltn (v := .ty "tuple") rfl T.b_tuple boot_t_tuple rfl) pa_nil))))) (pw_or (pt_cmpR op_ne (pe_callB (lenW g) (by rfl) T.b_len boot_f_len (pa_cons (pv 3) pa_nil)) pe_int (nomark _)) (pw_or (pt_not (pt_val (pe_cF C_is_below (hr.mono (by decide)) rfl (pa_cons (pe_ix (ixW g) (pv 3) pe_int (fun _ _ => rfl)) (pa_cons (pe_pF C_nodes (hr.mono (by decide)) (pv 0) rfl) pa_nil))))) (pw_or1 (pt_cmpR op_eq (pe_ix (ixW g) (pv 3) pe_int (fun _ _ => rfl)) (pv 1) (nomark _))))))) (pss_one (ps_ret pe_bl)) pss_nil)
      (pss_cons (ps_asg (pv 3) (gTW g (n := 3) rfl (pgs_cons (pg_name (i := 4) sc_is_key.nd rfl (Or.inl rfl)) (pgs_cons (pg_name (i := 5) sc_is_key.nd rfl (Or.inl rfl)) (pgs_cons (pg_name (i := 6) sc_is_key.nd rfl (Or.inl rfl)) pgs_nil)))))
      (pss_cons (ps_if (pt_not (pt_val (pe_cF C_is_below (hr.mono (by decide)) rfl (pa_cons (pv 6) (pa_cons (pv 2) pa_nil))))) (pss_one (ps_ret pe_bl)) pss_nil)
      (pss_one (ps_ret (pe_ifExp (pt_cmpR isNW (pv 5) pe_non (nomark _)) (pe_cmpR op_eq (pv 6) pe_int (nomark _)) (pe_and (pe_cF C_is_below (hr.mono (by decide)) rfl (pa_cons (pv 5) (pa_cons (pe_lenO C___len__ (hr.mono (by decide)) rfl T.b_len (pv 0)) pa_nil))) (pe_one (pe_cmpR (inTW g hu) (pv 5) (pe_mF C_at (hr.mono (by decide)) (pv 0) (pa_cons (pv 4) pa_nil)) rfl))))))))), ?_⟩
  obtain ⟨b, rfl, hb⟩ := tp_key hv
  have hb : SqT g.K H b [.int k.1, kx (k.2.1.map fun n : Nat => (n : Int)), .int k.2.2] := hb
  have hnet := hn
  obtain ⟨⟨dx, p, xs, h1, h2, h3⟩, nok⟩ := hn
  have o1 := ok.node
  have o3 := ok.mark
  walk_at "go"
  refine isiT hb ?_
  walk_at "go"
  refine lenT hb ?_
  walk_at "go"
  refine st_ixT hb rfl ?_
  walk_at "go"
  refine ⟨a, _, _, rfl, h1, a, n, L, rfl, hnet, ?_⟩
  walk_at "go"
  refine ⟨_, _, rfl, ⟨by omega, by omega⟩, ?_⟩
  walk_at "go"
  refine st_ixT hb rfl ?_
  walk_at "go"
  refine st_F (decide_eq_false (by have := ok.off; omega)) ?_
  walk_at "go"
  refine st_g3 hb ?_
  walk_at "go"
  refine ⟨_, _, rfl, ⟨by omega, by omega⟩, ?_⟩
  walk_at "go"
  obtain ⟨node, came, mark⟩ := k
  cases came with
  | none =>
    have hm := ok.none rfl
    simp only at hm
    subst hm
    refine st_T (decide_eq_true rfl) ?_
    walk_at "go"
    exact kk _ (.refl _)
  | some c =>
    have hc := ok.some c rfl
    have hcl := netAt_lt hc
    refine st_F (decide_eq_false (by intro z; cases z)) ?_
    walk_at "go"
    refine ⟨a, _, _, rfl, h1, a, n, L, rfl, hnet, L.length, rfl, by omega, by have := nok.few; omega, ?_⟩
    walk_at "go"
    refine ⟨(c : Int), _, rfl, ⟨by omega, by omega⟩, ?_⟩
    walk_at "go"
    refine ⟨a, _, _, rfl, h1, rfl, ?_⟩
    walk_at "go"
    refine ⟨a, n, _, L, rfl, hnet, fun r H' e hr => ?_⟩
    walk_at "go"
    refine ⟨_, _, .int _, hr.dp, rfl, shp1 (ot_pur _) (ot_depth _) (by decide), ?_⟩
    rw [any_in (f := eN) (a := c) rfl hc]
    exact kk _ e
-- is_row: slots net 0, node 1, marks 2, value 3, links 4, link 5, mark 6, turn 7; cells ['marks', 'net', 'node']
abbrev s_is_row : Stmt := top 51
abbrev N_is_row : List Str := ["net", "node", "marks", "value", "links", "link", "mark", "turn"]
theorem sc_is_row : FnScope N_is_row ["net", "node", "marks", "value"] (defScope s_is_row) := ⟨rfl, rfl, rfl, by decide +kernel, rfl, by decide +kernel, by decide +kernel⟩
def sp_is_row (g : Gx) : Sp := fun vs H Q _ => ∃ a v, ∃ n node w : Nat, ∃ L : List (Nat × Nat), ∃ r : Row, vs = [.ref a, .int node, .int w, v] ∧ NetAt g H a n L ∧ Tp g.K H v (eR r) ∧ RowOk L node w r ∧ ∀ H', Ex g.T H H' → Q (.bl true) H'
theorem ok_is_row (g : Gx) (T : Blt g.mg) (Z : Fct g) (C_is_pair : Cal g.P g.w g.K g.mg g.base 1 "is_pair" ["value"] (sp_is_pair g)) (C_is_below : Cal g.P g.w g.K g.mg g.base 2 "is_below" ["value", "bound"] (sp_is_below g)) (C___len__ : CalM g.P g.w g.K g.mg g.base 1 g.nc "__len__" ["self"] (sp_Net___len__ g)) (C_at : CalM g.P g.w g.K g.mg g.base 1 g.nc "at" ["self", "node"] (sp_Net_at g))  {f : Addr} {fd : FuncData} (F : Fun g.K "is_row" "is_row" s_is_row f fd) : FnOk g.P g.w g.K g.mg g.base CX0 3 f fd ["net", "node", "marks", "value"] (sp_is_row g) := by
  refine F.ok sc_is_row (fun vs H Q E h => ?_) (fun cdv A outer s H vs Q E hr h => ?_)
  · first | (obtain ⟨rfl, _⟩ := h; rfl) | (obtain ⟨_, rfl, _⟩ := h; rfl) | (obtain ⟨_, _, rfl, _⟩ := h; rfl) | (obtain ⟨_, _, _, rfl, _⟩ := h; rfl) | (obtain ⟨_, _, _, _, rfl, _⟩ := h; rfl) | (obtain ⟨_, _, _, _, _, rfl, _⟩ := h; rfl) | (obtain ⟨_, _, _, _, _, _, rfl, _⟩ := h; rfl) | (obtain ⟨_, _, _, _, _, _, _, rfl, _⟩ := h; rfl) | (obtain ⟨_, _, _, _, _, _, _, _, rfl, _⟩ := h; rfl) | (obtain ⟨_, _, _, _, _, _, _, _, _, rfl, _⟩ := h; rfl) | (obtain ⟨_, _, _, _, _, _, _, _, _, _, rfl, _⟩ := h; rfl) | (obtain ⟨_, _, _, _, _, _, _, _, _, _, _, rfl, _⟩ := h; rfl) | (obtain ⟨_, _, _, _, _, _, _, _, _, _, _, _, rfl, _⟩ := h; rfl) | (obtain ⟨_, _, _, _, _, _, _, _, _, _, _, _, _, rfl, _⟩ := h; rfl)
  have hu := room_un hr
  obtain ⟨a, v, n, node, w, L, r, rfl, hn, hv, ok, kk⟩ := h
  refine ⟨_, (pss_cons (ps_if (PW.pt (pw_or (pt_not (pt_val (pe_callB (isiW g) (by rfl) T.b_isinstance boot_f_isinstance (pa_cons (pv 3) (pa_cons (pe_bltn (v := .ty "tuple") rfl T.b_tuple boot_t_tuple rfl) pa_nil))))) (pw_or1 (pt_not (pt_val (pe_callB (allW g) (by rfl) T.b_all boot_f_all (pa_cons (pe_lc (own := [("turn", 7)]) rfl sc_is_row.nd (iTW g (pv 3)) (blkOk_by rfl) (fun _ _ _ _ _ => pg_name (i := 7) sc_is_row.nd rfl (Or.inl rfl)) (fun _ _ _ _ _ => pts_nil) (fun _ _ _ _ _ => (pe_cF C_is_pair (hr.mono (by decide)) rfl (pa_cons (pv 7) pa_nil)))) pa_nil))))))) (pss_one (ps_ret pe_bl)) pss_nil)
      (pss_cons (ps_if (pt_not (pt_val (pe_callB (allW g) (by rfl) T.b_all boot_f_all (pa_cons (pe_lc (own := [("link", 5), ("mark", 6)]) rfl sc_is_row.nd (iTW g (pv 3)) (blkOk_by rfl) (fun _ _ _ _ _ => gTW g (n := 2) rfl (pgs_cons (pg_name (i := 5) sc_is_row.nd rfl (Or.inl rfl)) (pgs_cons (pg_name (i := 6) sc_is_row.nd rfl (Or.inl rfl)) pgs_nil))) (fun _ _ _ _ _ => pts_nil) (fun _ _ _ _ _ => (pe_and (pe_cF C_is_below (hr.mono (by decide)) rfl (pa_cons (pv 5) (pa_cons (pe_lenO C___len__ (hr.mono (by decide)) rfl T.b_len (pv 0)) pa_nil))) (pe_one (pe_cF C_is_below (hr.mono (by decide)) rfl (pa_cons (pv 6) (pa_cons (pv 2) pa_nil))))))) pa_nil)))) (pss_one (ps_ret pe_bl)) pss_nil)
      (pss_cons (ps_setLc (i := 4) (own := [("link", 5), ("mark", 6)]) rfl sc_is_row.nd rfl rfl (sw_true rfl rfl rfl (by decide +kernel)) (iTW g (pv 3)) (blkOk_by rfl) (fun _ _ _ _ _ => gTW g (n := 2) rfl (pgs_cons (pg_name (i := 5) sc_is_row.nd rfl (Or.inl rfl)) (pgs_cons (pg_name (i := 6) sc_is_row.nd rfl (Or.inl rfl)) pgs_nil))) (fun _ _ _ _ _ => pts_nil) (fun _ _ _ _ _ => (pv 5)))
      (pss_one (ps_ret (pe_and (pe_cmpR op_eq (lenSetW g rfl rfl T.b_len rfl T.b_set (pv 4)) (pe_callB (lenW g) (by rfl) T.b_len boot_f_len (pa_cons (pv 4) pa_nil)) (nomark _)) (pe_one (pe_callB (allW g) (by rfl) T.b_all boot_f_all (pa_cons (pe_lc (own := [("link", 5)]) rfl sc_is_row.nd (iLW g (pv 4)) (blkOk_by rfl) (fun _ _ _ _ _ => pg_name (i := 5) sc_is_row.nd rfl (Or.inl rfl)) (fun _ _ _ _ _ => pts_nil) (fun _ _ _ _ _ => (pe_cmpR (inTW g hu) (pv 5) (pe_mF C_at (hr.mono (by decide)) (pv 0) (pa_cons (pv 1) pa_nil)) rfl))) pa_nil))))))))), ?_⟩
  obtain ⟨b, xs, rfl, hb, hx⟩ := tp_tup hv
  obtain ⟨⟨dx, p, ys, h1, h2, h3⟩, nok⟩ := id hn
  have rl := ok.len
  have nf := nok.few
  walk_at "go"
  refine isiT hb ?_
  walk_at "go"
  refine ⟨b, rfl, ⟨_, hb⟩, ?_⟩
  refine lcT (T := g.T) (l := r) (enc := eP) (fun _ => true) (fun _ => .bool true) hb hx (by omega) (fun z x H1 hz e hx => ?_) fun q1 H1 zs n1 e1 hq1 hy1 => ?_
  · intro Yes No hY hN
    walk_at "go"
    exact ⟨_, _, _, rfl, hx, hY rfl _ _ (.refl _) (.bl _)⟩
  rw [List.filter_eq_self.mpr (fun _ _ => rfl)] at hy1
  have hy' := tpBls (l := r.map fun _ => true) (by rw [List.map_map]; exact hy1)
  subst hy'
  walk_at "go"
  refine ⟨q1, _, rfl, .of hq1, ?_⟩
  walk_at "go"
  rw [show ((r.map fun _ => true).all id) = true by simp]
  walk_at "go"
  refine ⟨b, rfl, ⟨_, e1.st hb⟩, ?_⟩
  refine lcT (T := g.T) (l := r) (enc := eP) (fun _ => true) (fun _ => .bool true) (e1.st hb) (e1.tps hx) (by omega) (fun z x H2 hz e hx => ?_) fun q2 H2 zs n2 e2 hq2 hy2 => ?_
  · intro Yes No hY hN
    obtain ⟨c, cs, rfl, hc, hcs⟩ := tp_tup hx
    have hcc := tpInts (l := [(z.1 : Int), (z.2 : Int)]) hcs
    subst hcc
    have hl := ok.link z hz
    have hl1 := netAt_lt hl.1
    have hl2 := hl.2
    refine st_g2 hc ?_
    walk_at "go"
    refine ⟨a, _, _, rfl, (e1.trans e).at h1, a, n, L, rfl, (e1.trans e).net hn, L.length, rfl, by omega, by omega, ?_⟩
    walk_at "go"
    refine ⟨_, _, rfl, ⟨by omega, by omega⟩, ?_⟩
    walk_at "go"
    exact ⟨_, _, rfl, ⟨by omega, by omega⟩, hY rfl _ _ (.refl _) (.bl _)⟩
  rw [List.filter_eq_self.mpr (fun _ _ => rfl)] at hy2
  have hy' := tpBls (l := r.map fun _ => true) (by rw [List.map_map]; exact hy2)
  subst hy'
  walk_at "go"
  refine ⟨q2, _, rfl, .of hq2, ?_⟩
  walk_at "go"
  rw [show ((r.map fun _ => true).all id) = true by simp]
  walk_at "go"
  have e12 := e1.trans e2
  refine ⟨b, rfl, ⟨_, e12.st hb⟩, ?_⟩
  refine lcT (T := g.T) (l := r) (enc := eP) (fun _ => true) (fun z => eN z.1) (e12.st hb) (e12.tps hx) (by omega) (fun z x H3 hz e hx => ?_) fun q3 H3 zs n3 e3 hq3 hy3 => ?_
  · intro Yes No hY hN
    obtain ⟨c, cs, rfl, hc, hcs⟩ := tp_tup hx
    have hcc := tpInts (l := [(z.1 : Int), (z.2 : Int)]) hcs
    subst hcc
    refine st_g2 hc ?_
    walk_at "go"
    exact hY rfl _ _ (.refl _) (.int _)
  rw [List.filter_eq_self.mpr (fun _ _ => rfl)] at hy3
  have hy3' : TpAll g.K H3 zs ((r.map (·.1)).map eN) := by rw [List.map_map]; exact hy3
  have hzs := tpInts (l := (r.map (·.1)).map fun n : Nat => (n : Int)) (by rw [List.map_map]; exact hy3')
  walk_at "go"
  refine ⟨q3, (r.map (·.1)).map fun n : Nat => (n : Int), rfl, .of (by rw [← hzs]; exact hq3), ?_, by rw [List.length_map, List.length_map]; omega, ?_⟩
  · exact nodup_map (fun _ _ e => Int.ofNat.inj e) ok.nd
  walk_at "go"
  refine lenL (.of hq3) ?_
  walk_at "go"
  rw [show zs.length = r.length by rw [hy3.len, List.length_map], List.length_map, List.length_map]
  refine st_T (decide_eq_true rfl) ?_
  walk_at "go"
  refine ⟨q3, rfl, ⟨_, .of hq3⟩, ?_⟩
  refine lcL (T := g.T) (l := r.map (·.1)) (enc := eN) (fun _ => true) (fun _ => .bool true) (.of hq3) hy3' (by rw [List.length_map]; omega) (fun z x H4 hz e hx => ?_) fun q4 H4 zs n4 e4 hq4 hy4 => ?_
  · intro Yes No hY hN
    cases tp_int hx
    obtain ⟨c, hc, rfl⟩ := List.mem_map.mp hz
    have hl := ok.link c hc
    have e5 := (e12.trans e3).trans e
    walk_at "go"
    refine ⟨a, _, _, rfl, e5.at h1, rfl, ?_⟩
    walk_at "go"
    refine ⟨a, n, _, L, rfl, e5.net hn, fun r2 H' e6 hr => ?_⟩
    refine ⟨_, _, .int _, hr.dp, rfl, shp1 (ot_pur _) (ot_depth _) (by decide), ?_⟩
    rw [any_in (f := eN) (a := c.1) rfl hl.1]
    exact hY rfl _ _ e6 (.bl _)
  rw [List.filter_eq_self.mpr (fun _ _ => rfl)] at hy4
  have hy' := tpBls (l := (r.map (·.1)).map fun _ => true) (by rw [List.map_map]; exact hy4)
  subst hy'
  walk_at "go"
  refine ⟨q4, _, rfl, .of hq4, ?_⟩
  walk_at "go"
  rw [show (((r.map (·.1)).map fun _ => true).all id) = true by simp]
  exact kk _ ((e12.trans e3).trans e4)
end Sp
end
section
set_option Elab.async false
set_option linter.all false
set_option maxRecDepth 100000
set_option maxHeartbeats 4000000
set_option autoImplicit false
local macro_rules | `(tactic| walk_at "go") => `(tactic| repeat first
  | (with_reducible first
     | refine Sp.st_var rfl ?_ | refine Sp.st_c ?_ | refine Sp.st_op ?_ | refine Sp.st_seq ?_ | refine Sp.st_asg ?_ | refine Sp.st_name ?_
     | refine Sp.st_ret ?_ | refine Sp.st_drop ?_ | refine Sp.st_next ?_ | refine Sp.st_if ?_ | refine Sp.st_nx ?_ | refine Sp.st_rt ?_
     | refine Sp.st_cons ?_ | refine Sp.st_nil ?_ | refine Sp.st_cb ?_ | refine Sp.st_call ?_ | refine Sp.st_test ?_ | refine Sp.st_B ?_
     | refine Sp.st_not ?_ | refine Sp.st_and ?_ | refine Sp.st_or ?_ | refine Sp.st_andV ?_ | refine Sp.st_orV ?_ | refine Sp.st_notV ?_
     | refine Sp.st_tif ?_ | refine Sp.st_tup ?_ | refine Sp.st_lst ?_ | refine Sp.st_blx ?_ | refine Sp.st_I0 ?_ | refine Sp.st_U ?_
     | refine Sp.st_eqI ?_ | refine Sp.st_neI ?_ | refine Sp.st_chain ?_ | refine Sp.isiI ?_ | refine Sp.isiB ?_ | refine Sp.isiS ?_
     | refine Sp.st_T rfl ?_ | refine Sp.st_F rfl ?_ | refine Sp.st_lc ?_ | refine Sp.st_iT ?_ | refine Sp.st_iL ?_ | refine Sp.st_iR1 ?_
     | refine Sp.st_iR2 ?_ | refine Sp.st_iET ?_ | refine Sp.st_iZA ?_ | refine Sp.st_iZLT ?_ | refine Sp.st_for ?_ | refine Sp.st_fld ?_
     | refine Sp.st_sfld ?_ | refine Sp.st_prop ?_ | refine Sp.st_meth ?_ | refine Sp.st_make ?_ | refine Sp.st_isN ?_ | refine Sp.st_yes ?_
     | refine Sp.isNI ?_ | refine Sp.notNI ?_ | refine Sp.int1I ?_ | refine Sp.int1B ?_ | refine Sp.min2I ?_ | refine Sp.max2I ?_
     | refine Sp.st_dputN ?_ | refine Sp.st_dgetN ?_ | refine Sp.st_revL ?_ | refine Sp.st_din ?_ | refine Sp.st_dnin ?_ | refine Sp.st_dget ?_ | refine Sp.st_dput ?_ | refine Sp.st_dc ?_ | refine Sp.st_dcN ?_
     | refine Sp.st_sortLam ?_ | refine Sp.st_lc2 ?_ | refine Sp.st_lenSet ?_ | refine Sp.st_bm ?_ | refine Sp.st_lenO ?_ | refine Sp.st_sl ?_ | refine Sp.st_part ?_ | refine Sp.st_nopart ?_ | refine Sp.st_intx ?_)
  | ((with_reducible refine Sp.st_wp ?_ ?_); (focus rfl)))
namespace Sp
open PySem PySem.Spec L2

structure RowsOk (n : Nat) (L : List (Nat × Nat)) (t w : Nat) (rows : List (Ky × Row)) : Prop where
  key : ∀ x ∈ rows, KeyOk n L t w x.1
  row : ∀ x ∈ rows, RowOk L x.1.1 w x.2
  nd : (rows.map (·.1)).Nodup
  few : rows.length ≤ 1000
theorem eO_pur (x : Ky × Row) : pur (eO x) = true := by
  show (pur (eK x.1) && (pur (eR x.2) && true)) = true
  rw [eK_pur, eR_pur]; rfl
theorem tp_eO {K : Fg} {H : Hp} {v : V} {x : Ky × Row} (h : Tp K H v (eO x)) : ∃ a k r, v = .ref a ∧ SqT K H a [k, r] ∧ Tp K H k (eK x.1) ∧ Tp K H r (eR x.2) := by
  obtain ⟨a, xs, rfl, h1, h2⟩ := tp_tup h
  cases h2 with
  | cons h2 h3 =>
    cases h3 with
    | cons h3 h4 =>
      cases h4
      exact ⟨a, _, _, rfl, h1, h2, h3⟩
theorem tp_eK {K : Fg} {H : Hp} {v : V} {k : Ky} (h : Tp K H v (eK k)) : ∃ a, v = .ref a ∧ SqT K H a [.int k.1, kx (k.2.1.map fun n : Nat => (n : Int)), .int k.2.2] := tp_key h
-- book_error: slots net 0, target 1, marks 2, rows 3, seen 4, index 5, pair 6; cells []
abbrev s_book_error : Stmt := top 52
abbrev N_book_error : List Str := ["net", "target", "marks", "rows", "seen", "index", "pair"]
theorem sc_book_error : FnScope N_book_error ["net", "target", "marks", "rows"] (defScope s_book_error) := ⟨rfl, rfl, rfl, by decide +kernel, rfl, by decide +kernel, by decide +kernel⟩
def sp_book_error (g : Gx) : Sp := fun vs H Q _ => ∃ a v, ∃ n t w : Nat, ∃ L : List (Nat × Nat), ∃ rows : List (Ky × Row), vs = [.ref a, .int t, .int w, v] ∧ NetAt g H a n L ∧ Tp g.K H v (.tuple (rows.map eO)) ∧ RowsOk n L t w rows ∧ ∀ H', Ex g.T H H' → Q .non H'
theorem ok_book_error (g : Gx) (T : Blt g.mg) (Z : Fct g) (C_is_pair : Cal g.P g.w g.K g.mg g.base 1 "is_pair" ["value"] (sp_is_pair g)) (C_is_key : Cal g.P g.w g.K g.mg g.base 3 "is_key" ["net", "target", "marks", "value"] (sp_is_key g)) (C_is_row : Cal g.P g.w g.K g.mg g.base 3 "is_row" ["net", "node", "marks", "value"] (sp_is_row g))  {f : Addr} {fd : FuncData} (F : Fun g.K "book_error" "book_error" s_book_error f fd) : FnOk g.P g.w g.K g.mg g.base CX0 4 f fd ["net", "target", "marks", "rows"] (sp_book_error g) := by
  refine F.ok sc_book_error (fun vs H Q E h => ?_) (fun cdv A outer s H vs Q E hr h => ?_)
  · first | (obtain ⟨rfl, _⟩ := h; rfl) | (obtain ⟨_, rfl, _⟩ := h; rfl) | (obtain ⟨_, _, rfl, _⟩ := h; rfl) | (obtain ⟨_, _, _, rfl, _⟩ := h; rfl) | (obtain ⟨_, _, _, _, rfl, _⟩ := h; rfl) | (obtain ⟨_, _, _, _, _, rfl, _⟩ := h; rfl) | (obtain ⟨_, _, _, _, _, _, rfl, _⟩ := h; rfl) | (obtain ⟨_, _, _, _, _, _, _, rfl, _⟩ := h; rfl) | (obtain ⟨_, _, _, _, _, _, _, _, rfl, _⟩ := h; rfl) | (obtain ⟨_, _, _, _, _, _, _, _, _, rfl, _⟩ := h; rfl) | (obtain ⟨_, _, _, _, _, _, _, _, _, _, rfl, _⟩ := h; rfl) | (obtain ⟨_, _, _, _, _, _, _, _, _, _, _, rfl, _⟩ := h; rfl) | (obtain ⟨_, _, _, _, _, _, _, _, _, _, _, _, rfl, _⟩ := h; rfl) | (obtain ⟨_, _, _, _, _, _, _, _, _, _, _, _, _, rfl, _⟩ := h; rfl)
  have hu := room_un hr
  obtain ⟨a, v, n, t, w, L, rows, rfl, hn, hv, ok, kk⟩ := h
  refine ⟨_, (pss_cons (ps_if (pt_not (pt_val (pe_callB (isiW g) (by rfl) T.b_isinstance boot_f_isinstance (pa_cons (pv 3) (pa_cons (pe_bltn (v := .ty "tuple") rfl T.b_tuple boot_t_tuple rfl) pa_nil))))) (pss_one ps_dead) pss_nil)
      (pss_cons (ps_set (i := 4) sc_book_error.nd rfl (Or.inl rfl) (pe_lst pa_nil))
      (pss_cons (ps_for PassesOwn.never rfl (iEW g (by rfl) T.b_enumerate (pa_cons (pv 3) pa_nil)) (gTW g (n := 2) rfl (pgs_cons (pg_name (i := 5) sc_book_error.nd rfl (Or.inl rfl)) (pgs_cons (pg_name (i := 6) sc_book_error.nd rfl (Or.inl rfl)) pgs_nil))) (pss_cons (ps_if (PW.pt (pw_or (pt_not (pt_val (pe_cF C_is_pair (hr.mono (by decide)) rfl (pa_cons (pv 6) pa_nil)))) (pw_or1 (pt_not (pt_val (pe_cF C_is_key (hr.mono (by decide)) rfl (pa_cons (pv 0) (pa_cons (pv 1) (pa_cons (pv 2) (pa_cons (pe_ix (ixW g) (pv 6) pe_int (fun _ _ => rfl)) pa_nil)))))))))) (pss_one ps_dead) pss_nil)
      (pss_cons (ps_if (pt_cmpR (inDW g hu) (pe_ix (ixW g) (pv 6) pe_int (fun _ _ => rfl)) (pv 4) rfl) (pss_one ps_dead) pss_nil)
      (pss_cons (ps_if (pt_not (pt_val (pe_cF C_is_row (hr.mono (by decide)) rfl (pa_cons (pv 0) (pa_cons (pe_ix (ixW g) (pe_ix (ixW g) (pv 6) pe_int (fun _ _ => rfl)) pe_int (fun _ _ => rfl)) (pa_cons (pv 2) (pa_cons (pe_ix (ixW g) (pv 6) pe_int (fun _ _ => rfl)) pa_nil))))))) (pss_one ps_dead) pss_nil)
      (pss_one (ps_expr (bmW g PySem.F.plainAttrs_list PySem.F.slot_list_append PySem.F.type_list_append mt_append (pv 4) (pa_cons (pe_ix (ixW g) (pv 6) pe_int (fun _ _ => rfl)) pa_nil))))))))
      (pss_one (ps_ret pe_non))))), ?_⟩
  obtain ⟨b, xs, rfl, hb, hx⟩ := tp_tup hv
  have hxl : xs.length = rows.length := by rw [hx.len, List.length_map]
  have hf := ok.few
  walk_at "go"
  refine isiT hb ?_
  walk_at "go"
  refine ⟨Nat.zero_le _, fun d hd => ?_⟩
  have e0 : Ex g.T H (upd H d (.lst [])) := .new hd
  walk_at "go"
  refine ⟨b, xs, rfl, e0.st hb, ?_⟩
  refine forE (K := g.K) (xs := xs) (fun i σ H1 => Ex g.T H H1 ∧ (∃ ys, H1 d = some (.lst ys) ∧ TpAll g.K H1 ys ((rows.take i).map fun x => eK x.1)) ∧ ∃ x5 x6, σ = [some (.ref a), some (.int t), some (.int w), some (.ref b), some (.ref d), x5, x6])
    ⟨e0, ⟨[], upd_same, by rw [List.take_zero]; exact .nil⟩, _, _, rfl⟩ (fun i σ H1 p => p.1.st hb) (fun i x t2 σ H1 hi p ht => ?_) (fun σ H1 p => ?_)
  · obtain ⟨e, ⟨ys, d1, d2⟩, x5, x6, rfl⟩ := p
    obtain ⟨z, hz, hxz⟩ := hx.src hi
    have hzm := List.mem_of_getElem? hz
    have hk := ok.key z hzm
    have hrow := ok.row z hzm
    have e1 : Ex g.T H1 (upd H1 t2 (.tup [.int (i : Nat), x])) := .new ht
    have hxz1 := e1.tp (e.tp hxz)
    have hxp : Tp g.K _ x (.tuple [eK z.1, eR z.2]) := hxz1
    obtain ⟨c, k, r, rfl, hc, hkk, hrr⟩ := tp_eO hxz1
    refine st_g2 (.of upd_same) ?_
    walk_at "go"
    refine ⟨_, _, _, rfl, hxp, ?_⟩
    walk_at "go"
    refine st_ixT hc rfl ?_
    walk_at "go"
    refine ⟨a, _, n, t, w, L, z.1, rfl, (e.trans e1).net hn, hkk, hk, fun H2 e2 => ?_⟩
    walk_at "go"
    have e12 := e1.trans e2
    refine st_ixT (e2.st hc) rfl ?_
    walk_at "go"
    refine ⟨_, _, (e2.tp hkk).dp, .lst (.of (e12.at d1)) (TpAll.dps (e12.tps d2)), shp1 (eK_pur _) (eK_depth _) (by decide), shp_list (f := fun x : Ky × Row => eK x.1) 1 (fun x => eK_pur _) (fun x => eK_depth _) (by decide), ?_⟩
    have hnin : z.1 ∉ (rows.take i).map (·.1) := fun hm => by
      obtain ⟨y, hy, e⟩ := List.mem_map.mp hm
      obtain ⟨j, hj⟩ := List.getElem?_of_mem hy
      rw [List.getElem?_take] at hj
      split at hj
      · rename_i hji
        obtain ⟨l1, r1⟩ := List.getElem?_eq_some_iff.mp hj
        obtain ⟨l2, r2⟩ := List.getElem?_eq_some_iff.mp hz
        refine List.pairwise_iff_getElem.mp ok.nd j i (by rw [List.length_map]; exact l1) (by rw [List.length_map]; exact l2) hji ?_
        rw [List.getElem_map, List.getElem_map, r1, r2]
        exact e
      · cases hj
    have h0 := any_nin (f := eK) eK_pur eK_inj hnin
    rw [List.map_map] at h0
    refine st_blx ?_
    refine st_F h0 ?_
    walk_at "go"
    refine st_ixT (e2.st hc) rfl ?_
    obtain ⟨ck, rfl, hck⟩ := tp_eK (e2.tp hkk)
    refine st_ixT hck rfl ?_
    walk_at "go"
    refine st_ixT (e2.st hc) rfl ?_
    walk_at "go"
    refine ⟨a, _, n, _, w, L, z.2, rfl, (e.trans e12).net hn, e2.tp hrr, hrow, fun H3 e3 => ?_⟩
    walk_at "go"
    refine ⟨tyL (.of ((e12.trans e3).at d1)), ?_⟩
    walk_at "go"
    refine st_ixT ((e2.trans e3).st hc) rfl ?_
    walk_at "go"
    have d3 := (e12.trans e3).at d1
    have hyl : ys.length ≤ 1000 := by
      rw [d2.len, List.length_map, List.length_take]; omega
    refine appendL d3 (by omega) ?_
    have nt : NoTup H3 d := noTup_of d3
    refine ⟨(e.trans (e12.trans e3)).mut (.of hd) d3 trivial, ⟨_, upd_same, ?_⟩, _, _, rfl⟩
    rw [List.take_succ, hz, Option.toList_some, List.map_append]
    exact (((e12.trans e3).tps d2).up nt).app (.one (((e2.trans e3).tp hkk).up nt))
  · obtain ⟨e, _, x5, x6, rfl⟩ := p
    walk_at "go"
    exact kk _ e
/-- the keys at a node -/
def keysAt (L : List (Nat × Nat)) (w node : Nat) : List Ky := (node, none, 0) :: (netAt L node).flatMap fun c => (List.range w).map fun m => (node, some c, m)
theorem keysAt_map (L : List (Nat × Nat)) (w i : Nat) : (keysAt L w i).map eK = eK (i, none, 0) :: (netAt L i).flatMap fun c => (List.range w).map fun m => eK (i, some c, m) := by
  unfold keysAt
  rw [List.map_cons, List.map_flatMap]
  simp only [List.map_map]
  rfl
/-- all keys -/
def keysOf (n : Nat) (L : List (Nat × Nat)) (t w : Nat) : List Ky := (List.range n).flatMap fun node => if node = t then [] else keysAt L w node
theorem flat_len {α β : Type} {f : α → List β} {k : Nat} : ∀ {l : List α}, (∀ x ∈ l, (f x).length ≤ k) → (l.flatMap f).length ≤ l.length * k
  | [], _ => by simp
  | x :: l, h => by
    have h1 := flat_len (l := l) fun y hy => h y (List.mem_cons_of_mem _ hy)
    have h2 := h x List.mem_cons_self
    rw [List.flatMap_cons, List.length_append, List.length_cons, Nat.succ_mul]
    omega
theorem keysAt_len {L : List (Nat × Nat)} {w node : Nat} (hL : L.length ≤ 8) (hw : w ≤ 2) : (keysAt L w node).length ≤ 17 := by
  unfold keysAt
  rw [List.length_cons]
  have h1 := flat_len (l := netAt L node) (f := fun c => (List.range w).map fun m => ((node, some c, m) : Ky)) (k := 2) fun x _ => by rw [List.length_map, List.length_range]; exact hw
  have h2 := netAt_len (L := L) (node := node)
  omega
theorem keysTo_len {n : Nat} {L : List (Nat × Nat)} {t w : Nat} (hL : L.length ≤ 8) (hw : w ≤ 2) (l : List Nat) : (l.flatMap fun node => if node = t then [] else keysAt L w node).length ≤ l.length * 17 := flat_len fun x _ => by
  split
  · exact Nat.zero_le _
  · exact keysAt_len hL hw
-- keys_of: slots net 0, target 1, marks 2, found 3, node 4, came 5, mark 6; cells ['marks', 'node']
abbrev s_keys_of : Stmt := top 53
abbrev N_keys_of : List Str := ["net", "target", "marks", "found", "node", "came", "mark"]
theorem sc_keys_of : FnScope N_keys_of ["net", "target", "marks"] (defScope s_keys_of) := ⟨rfl, rfl, rfl, by decide +kernel, rfl, by decide +kernel, by decide +kernel⟩
def sp_keys_of (g : Gx) : Sp := fun vs H Q _ => ∃ a, ∃ n t w : Nat, ∃ L : List (Nat × Nat), vs = [.ref a, .int t, .int w] ∧ NetAt g H a n L ∧ w ≤ 2 ∧ ∀ p H' ys, New H p → Ex g.T H H' → H' p = some (.lst ys) → TpAll g.K H' ys ((keysOf n L t w).map eK) → Q (.ref p) H'
theorem ok_keys_of (g : Gx) (T : Blt g.mg) (Z : Fct g) (C_nodes : CalP g.P g.w g.K g.mg g.base 1 g.nc "nodes" (sp_Net_nodes g)) (C_at : CalM g.P g.w g.K g.mg g.base 1 g.nc "at" ["self", "node"] (sp_Net_at g))  {f : Addr} {fd : FuncData} (F : Fun g.K "keys_of" "keys_of" s_keys_of f fd) : FnOk g.P g.w g.K g.mg g.base CX0 3 f fd ["net", "target", "marks"] (sp_keys_of g) := by
  refine F.ok sc_keys_of (fun vs H Q E h => ?_) (fun cdv A outer s H vs Q E hr h => ?_)
  · first | (obtain ⟨rfl, _⟩ := h; rfl) | (obtain ⟨_, rfl, _⟩ := h; rfl) | (obtain ⟨_, _, rfl, _⟩ := h; rfl) | (obtain ⟨_, _, _, rfl, _⟩ := h; rfl) | (obtain ⟨_, _, _, _, rfl, _⟩ := h; rfl) | (obtain ⟨_, _, _, _, _, rfl, _⟩ := h; rfl) | (obtain ⟨_, _, _, _, _, _, rfl, _⟩ := h; rfl) | (obtain ⟨_, _, _, _, _, _, _, rfl, _⟩ := h; rfl) | (obtain ⟨_, _, _, _, _, _, _, _, rfl, _⟩ := h; rfl) | (obtain ⟨_, _, _, _, _, _, _, _, _, rfl, _⟩ := h; rfl) | (obtain ⟨_, _, _, _, _, _, _, _, _, _, rfl, _⟩ := h; rfl) | (obtain ⟨_, _, _, _, _, _, _, _, _, _, _, rfl, _⟩ := h; rfl) | (obtain ⟨_, _, _, _, _, _, _, _, _, _, _, _, rfl, _⟩ := h; rfl) | (obtain ⟨_, _, _, _, _, _, _, _, _, _, _, _, _, rfl, _⟩ := h; rfl)
  have hu := room_un hr
  obtain ⟨a, n, t, w, L, rfl, hn, hw, kk⟩ := h
  refine ⟨_, (pss_cons (ps_set (i := 3) sc_keys_of.nd rfl (Or.inl rfl) (pe_lst pa_nil))
      (pss_cons (ps_for PassesOwn.never rfl (pi_range1 (by rfl) T.b_range (pa_cons (pe_pF C_nodes (hr.mono (by decide)) (pv 0) rfl) pa_nil)) (pg_name (i := 4) sc_keys_of.nd rfl (Or.inr rfl)) (pss_one (ps_if (pt_cmpR op_ne (pv 4) (pv 1) (nomark _)) (pss_cons (ps_expr (bmW g PySem.F.plainAttrs_list PySem.F.slot_list_append PySem.F.type_list_append mt_append (pv 3) (pa_cons (pe_tup (pa_cons (pv 4) (pa_cons pe_non (pa_cons pe_int pa_nil)))) pa_nil)))
      (pss_one (ps_expr (bmW g PySem.F.plainAttrs_list PySem.F.slot_list_extend PySem.F.type_list_extend mt_extend (pv 3) (pa_cons (pe_lc2 (own := [("came", 5), ("mark", 6)]) (vs1 := [6]) rfl sc_keys_of.nd (iTW g (pe_mF C_at (hr.mono (by decide)) (pv 0) (pa_cons (pv 4) pa_nil))) (blkOk_by rfl) (by decide) (fun _ _ _ _ _ => pg_name (i := 5) sc_keys_of.nd rfl (Or.inl rfl)) (fun _ _ _ _ _ => pts_nil) (fun _ _ _ _ _ => (pi_range1 (by rfl) T.b_range (pa_cons (pv 2) pa_nil))) (fun _ _ _ _ _ => pg_name (i := 6) sc_keys_of.nd rfl (Or.inl rfl)) (fun _ _ _ _ _ => pts_nil) (fun _ _ _ _ _ => (pe_tup (pa_cons (pv 4) (pa_cons (pv 5) (pa_cons (pv 6) pa_nil)))))) pa_nil))))) pss_nil)))
      (pss_one (ps_ret (pv 3))))), ?_⟩
  have hnet := hn
  obtain ⟨⟨dx, p, xs, h1, h2, h3⟩, nok⟩ := hn
  have nh := nok.hi
  have nf := nok.few
  walk_at "go"
  refine ⟨Nat.zero_le _, fun d hd => ?_⟩
  have e0 : Ex g.T H (upd H d (.lst [])) := .new hd
  walk_at "go"
  refine ⟨a, _, _, rfl, e0.at h1, a, n, L, rfl, e0.net hnet, ?_⟩
  walk_at "go"
  refine ⟨n, rfl, by omega, by omega, ?_⟩
  rw [Int.toNat_natCast]
  refine forR (fun i σ H1 => Ex g.T H H1 ∧ (∃ ys, H1 d = some (.lst ys) ∧ TpAll g.K H1 ys (((List.range i).flatMap fun node => if node = t then [] else keysAt L w node).map eK)) ∧ ∃ x4 x5 x6, σ = [some (.ref a), some (.int t), some (.int w), some (.ref d), x4, x5, x6])
    ⟨e0, ⟨[], upd_same, .nil⟩, _, _, _, rfl⟩ (fun i σ H1 hi p => ?_) (fun σ H1 p => ?_)
  · obtain ⟨e, ⟨ys, d1, d2⟩, x4, x5, x6, rfl⟩ := p
    have hyl : ys.length ≤ 119 := by
      have := keysTo_len (n := n) (t := t) nf hw (List.range i)
      rw [d2.len, List.length_map]
      rw [List.length_range] at this
      omega
    rw [Int.zero_add]
    walk_at "go"
    by_cases hit : i = t
    · refine st_F (by rw [decide_eq_true (by omega)]; rfl) ?_
      walk_at "go"
      refine ⟨e, ⟨ys, d1, ?_⟩, _, _, _, rfl⟩
      rw [List.range_succ, List.flatMap_append, List.flatMap_singleton, if_pos hit, List.append_nil]
      exact d2
    · refine st_T (by rw [decide_eq_false (by omega)]; rfl) ?_
      walk_at "go"
      refine ⟨tyL (.of d1), ?_⟩
      walk_at "go"
      refine ⟨szr rfl, fun q hq => ?_⟩
      walk_at "go"
      have e1 : Ex g.T H1 (upd H1 q (.tup [.int (i : Nat), .non, .int 0])) := .new hq
      refine appendL (e1.at d1) (by omega) ?_
      have nt : NoTup (upd H1 q (.tup [.int (i : Nat), .non, .int 0])) d := noTup_of (e1.at d1)
      have e2 : Ex g.T H (upd (upd H1 q (.tup [.int (i : Nat), .non, .int 0])) d (.lst (ys ++ [.ref q]))) := (e.trans e1).mut (.of hd) (e1.at d1) trivial
      have d3 : TpAll g.K (upd (upd H1 q (.tup [.int (i : Nat), .non, .int 0])) d (.lst (ys ++ [.ref q]))) (ys ++ [.ref q]) ((((List.range i).flatMap fun node => if node = t then [] else keysAt L w node) ++ [(i, none, 0)]).map eK) := by
        rw [List.map_append]
        refine ((e1.tps d2).up nt).app (.one (Tp.up ?_ nt))
        exact .tup (.of upd_same) (kxs_tp (ko (i, none, 0)))
      have d4 : (upd (upd H1 q (.tup [.int (i : Nat), .non, .int 0])) d (.lst (ys ++ [.ref q]))) d = some (.lst (ys ++ [.ref q])) := upd_same
      generalize upd (upd H1 q (.tup [.int (i : Nat), .non, .int 0])) d (.lst (ys ++ [.ref q])) = He at e2 d3 d4
      walk_at "go"
      refine ⟨tyL (.of d4), ?_⟩
      walk_at "go"
      refine ⟨a, _, _, rfl, e2.at h1, rfl, ?_⟩
      walk_at "go"
      refine ⟨a, n, i, L, rfl, e2.net hnet, fun r H5 e5 hr => ?_⟩
      walk_at "go"
      obtain ⟨b, rs, rfl, hb, hrs⟩ := tp_tup hr
      refine ⟨b, rfl, ⟨_, hb⟩, ?_⟩
      have hnl := netAt_len (L := L) (node := i)
      refine lc2T (T := g.T) (l := netAt L i) (enc := eN) (fun c => (List.range w).map fun m => eK (i, some c, m)) hb hrs (fun j z x H6 D hz e6 hx pr Nx hN => ?_) fun q2 H6 zs nq e6 hq2 hzs => ?_
      · cases tp_int hx
        have hjl : j < (netAt L i).length := (List.getElem?_eq_some_iff.mp hz).1
        walk_at "go"
        refine ⟨w, rfl, by omega, by omega, ?_⟩
        rw [Int.toNat_natCast]
        refine lcIR (T := g.T) (K := g.K) (fun m => eK (i, some z, m)) pr ?_ (fun m H7 hm e7 => ?_) hN
        · have h5 := flat_len (l := (netAt L i).take j) (f := fun c => (List.range w).map fun m => eK (i, some c, m)) (k := 2) fun x _ => by rw [List.length_map, List.length_range]; exact hw
          rw [List.length_take] at h5
          omega
        · intro Yes No hY hN2
          rw [Int.zero_add]
          walk_at "go"
          exact ⟨szr rfl, fun q3 hq3 => hY rfl _ _ (.new hq3) (.tup (.of upd_same) (kxs_tp (ko (i, some z, m))))⟩
      · walk_at "go"
        have d6 := (e5.trans e6).at d4
        have hzl : zs.length ≤ 17 := by
          have h5 := flat_len (l := netAt L i) (f := fun c => (List.range w).map fun m => eK (i, some c, m)) (k := 2) fun x _ => by rw [List.length_map, List.length_range]; exact hw
          rw [hzs.len]
          omega
        refine extendL d6 hq2 (by rw [List.length_append, List.length_singleton]; omega) ?_
        have nt6 : NoTup H6 d := noTup_of d6
        refine ⟨(e2.trans (e5.trans e6)).mut (.of hd) d6 trivial, ⟨_, upd_same, ?_⟩, _, _, _, rfl⟩
        have h7 := (((e5.trans e6).tps d3).up nt6 (o := .lst (ys ++ [.ref q] ++ zs))).app (hzs.up nt6)
        rw [List.range_succ, List.flatMap_append, List.flatMap_singleton, if_neg hit]
        have e8 : (((List.range i).flatMap fun node => if node = t then [] else keysAt L w node) ++ keysAt L w i).map eK = (((List.range i).flatMap fun node => if node = t then [] else keysAt L w node) ++ [(i, none, 0)]).map eK ++ (netAt L i).flatMap fun c => (List.range w).map fun m => eK (i, some c, m) := by
          rw [List.map_append, keysAt_map, List.map_append, List.append_assoc]
          rfl
        rw [e8]
        exact h7
  · obtain ⟨e, ⟨ys, d1, d2⟩, x4, x5, x6, rfl⟩ := p
    walk_at "go"
    exact kk d H1 ys (.of hd) e d1 d2
end Sp
end
section
set_option Elab.async false
set_option linter.all false
set_option maxRecDepth 100000
set_option maxHeartbeats 4000000
set_option autoImplicit false
local macro_rules | `(tactic| walk_at "go") => `(tactic| repeat first
  | (with_reducible first
     | refine Sp.st_var rfl ?_ | refine Sp.st_c ?_ | refine Sp.st_op ?_ | refine Sp.st_seq ?_ | refine Sp.st_asg ?_ | refine Sp.st_name ?_
     | refine Sp.st_ret ?_ | refine Sp.st_drop ?_ | refine Sp.st_next ?_ | refine Sp.st_if ?_ | refine Sp.st_nx ?_ | refine Sp.st_rt ?_
     | refine Sp.st_cons ?_ | refine Sp.st_nil ?_ | refine Sp.st_cb ?_ | refine Sp.st_call ?_ | refine Sp.st_test ?_ | refine Sp.st_B ?_
     | refine Sp.st_not ?_ | refine Sp.st_and ?_ | refine Sp.st_or ?_ | refine Sp.st_andV ?_ | refine Sp.st_orV ?_ | refine Sp.st_notV ?_
     | refine Sp.st_tif ?_ | refine Sp.st_tup ?_ | refine Sp.st_lst ?_ | refine Sp.st_blx ?_ | refine Sp.st_I0 ?_ | refine Sp.st_U ?_
     | refine Sp.st_eqI ?_ | refine Sp.st_neI ?_ | refine Sp.st_chain ?_ | refine Sp.isiI ?_ | refine Sp.isiB ?_ | refine Sp.isiS ?_
     | refine Sp.st_T rfl ?_ | refine Sp.st_F rfl ?_ | refine Sp.st_lc ?_ | refine Sp.st_iT ?_ | refine Sp.st_iL ?_ | refine Sp.st_iR1 ?_
     | refine Sp.st_iR2 ?_ | refine Sp.st_iET ?_ | refine Sp.st_iZA ?_ | refine Sp.st_iZLT ?_ | refine Sp.st_for ?_ | refine Sp.st_fld ?_
     | refine Sp.st_sfld ?_ | refine Sp.st_prop ?_ | refine Sp.st_meth ?_ | refine Sp.st_make ?_ | refine Sp.st_isN ?_ | refine Sp.st_yes ?_
     | refine Sp.isNI ?_ | refine Sp.notNI ?_ | refine Sp.int1I ?_ | refine Sp.int1B ?_ | refine Sp.min2I ?_ | refine Sp.max2I ?_
     | refine Sp.st_dputN ?_ | refine Sp.st_dgetN ?_ | refine Sp.st_revL ?_ | refine Sp.st_din ?_ | refine Sp.st_dnin ?_ | refine Sp.st_dget ?_ | refine Sp.st_dput ?_ | refine Sp.st_dc ?_ | refine Sp.st_dcN ?_
     | refine Sp.st_sortLam ?_ | refine Sp.st_lc2 ?_ | refine Sp.st_lenSet ?_ | refine Sp.st_bm ?_ | refine Sp.st_lenO ?_ | refine Sp.st_sl ?_ | refine Sp.st_part ?_ | refine Sp.st_nopart ?_ | refine Sp.st_intx ?_)
  | ((with_reducible refine Sp.st_wp ?_ ?_); (focus rfl)))
namespace Sp
open PySem PySem.Spec L2

/-! ### books: the plain part -/
def lookR (rs : List (Ky × Row)) (k : Ky) : Option Row := (rs.find? fun x => decide (x.1 = k)).map (·.2)
theorem lookR_pos {x : Ky × Row} {r : List (Ky × Row)} {k : Ky} (e : x.1 = k) : lookR (x :: r) k = some x.2 := by simp [lookR, List.find?_cons, e]
theorem lookR_neg {x : Ky × Row} {r : List (Ky × Row)} {k : Ky} (e : ¬ x.1 = k) : lookR (x :: r) k = lookR r k := by simp [lookR, List.find?_cons, e]
theorem lookR_none : ∀ {rs : List (Ky × Row)} {k : Ky}, k ∉ rs.map (·.1) → lookR rs k = none
  | [], _, _ => rfl
  | x :: r, k, h => by
    rw [List.map_cons, List.mem_cons, not_or] at h
    rw [lookR_neg (fun e => h.1 e.symm), lookR_none h.2]
theorem lookR_mem : ∀ {rs : List (Ky × Row)} {k : Ky} {r : Row}, lookR rs k = some r → (k, r) ∈ rs
  | [], _, _, h => nomatch h
  | x :: rs, k, r, h => by
    by_cases e : x.1 = k
    · rw [lookR_pos e] at h
      cases h
      rw [← e]
      exact List.mem_cons_self
    · rw [lookR_neg e] at h
      exact List.mem_cons_of_mem _ (lookR_mem h)
theorem lookR_some : ∀ {rs : List (Ky × Row)} {k : Ky}, k ∈ rs.map (·.1) → ∃ r, lookR rs k = some r
  | [], _, h => nomatch h
  | x :: rs, k, h => by
    by_cases e : x.1 = k
    · exact ⟨_, lookR_pos e⟩
    · rw [lookR_neg e]
      rw [List.map_cons, List.mem_cons] at h
      exact lookR_some (h.resolve_left fun z => e z.symm)
theorem lookR_at : ∀ {rs : List (Ky × Row)} {x : Ky × Row}, (rs.map (·.1)).Nodup → x ∈ rs → lookR rs x.1 = some x.2
  | [], _, _, h => nomatch h
  | y :: rs, x, hn, h => by
    rw [List.map_cons, List.nodup_cons] at hn
    rcases List.mem_cons.mp h with rfl | h
    · exact lookR_pos rfl
    · rw [lookR_neg (fun e => hn.1 (by rw [e]; exact List.mem_map_of_mem h)), lookR_at hn.2 h]
theorem lookR_app (a b : List (Ky × Row)) (k : Ky) : lookR (a ++ b) k = match lookR a k with
    | some r => some r
    | none => lookR b k := by
  induction a with
  | nil => rfl
  | cons x a ih =>
    by_cases e : x.1 = k
    · rw [List.cons_append, lookR_pos e, lookR_pos e]
    · rw [List.cons_append, lookR_neg e, lookR_neg e, ih]
def toldD (rows : List (Ky × Row)) : List (KO × D) := (rows.filter fun x => decide (x.2 ≠ [])).map fun x => (ko x.1, eR x.2)
theorem toldD_keys {rows : List (Ky × Row)} {k : KO} (h : k ∈ (toldD rows).map (·.1)) : ∃ x ∈ rows, k = ko x.1 := by
  unfold toldD at h
  rw [List.map_map] at h
  obtain ⟨x, hx, e⟩ := List.mem_map.mp h
  exact ⟨x, (List.mem_filter.mp hx).1, e.symm⟩
theorem toldD_nodup : ∀ {rows : List (Ky × Row)}, (rows.map (·.1)).Nodup → ((toldD rows).map (·.1)).Nodup
  | [], _ => List.nodup_nil
  | x :: rows, h => by
    rw [List.map_cons, List.nodup_cons] at h
    have ih := toldD_nodup h.2
    unfold toldD
    rw [List.filter_cons]
    split
    · rw [List.map_cons, List.map_cons, List.nodup_cons]
      refine ⟨fun hm => ?_, ih⟩
      obtain ⟨y, hy, e⟩ := toldD_keys hm
      have e := ko_inj e
      exact h.1 (by rw [e]; exact List.mem_map_of_mem hy)
    · exact ih
theorem dval_none {kvs : List (KO × D)} {k : KO} (h : k ∉ kvs.map (·.1)) : dval kvs k = none := by
  cases e : dval kvs k with
  | none => rfl
  | some d => exact absurd ((dval_any kvs k).mp (by rw [e]; rfl)) h
theorem toldD_val : ∀ {rows : List (Ky × Row)}, (rows.map (·.1)).Nodup → ∀ k, dval (toldD rows) (ko k) = if (lookR rows k).getD [] = [] then none else some (eR ((lookR rows k).getD []))
  | [], _, k => by
    show none = if ([] : Row) = [] then none else _
    rw [if_pos rfl]
  | x :: rows, h, k => by
    rw [List.map_cons, List.nodup_cons] at h
    have ih := toldD_val h.2 k
    by_cases e : x.1 = k
    · subst e
      have hn : dval (toldD rows) (ko x.1) = none := dval_none fun hm => by
        obtain ⟨y, hy, e⟩ := toldD_keys hm
        exact h.1 (by rw [ko_inj e]; exact List.mem_map_of_mem hy)
      rw [lookR_pos rfl, Option.getD_some]
      unfold toldD
      rw [List.filter_cons]
      by_cases hx : x.2 = []
      · rw [if_neg (by simp [hx]), if_pos hx]
        exact hn
      · rw [if_pos (by simp [hx]), if_neg hx, List.map_cons, dval_pos rfl]
    · rw [lookR_neg e, ← ih]
      unfold toldD
      rw [List.filter_cons]
      split
      · rw [List.map_cons, dval_neg (fun z => e (ko_inj z))]
      · rfl
/-- a book, plainly -/
structure Bk where
  n : Nat
  L : List (Nat × Nat)
  t : Nat
  w : Nat
  F : Ky → Row
structure BkOk (B : Bk) : Prop where
  net : NetOk B.n B.L
  tgt : B.t < B.n
  w1 : 1 ≤ B.w
  w2 : B.w ≤ 2
  key : ∀ k, B.F k ≠ [] → KeyOk B.n B.L B.t B.w k
  row : ∀ k, B.F k ≠ [] → RowOk B.L k.1 B.w (B.F k)
def rowF (rows : List (Ky × Row)) (k : Ky) : Row := (lookR rows k).getD []
theorem BkOk.of {n : Nat} {L : List (Nat × Nat)} {t w : Nat} {rows : List (Ky × Row)} (hn : NetOk n L) (ht : t < n) (h1 : 1 ≤ w) (h2 : w ≤ 2) (ok : RowsOk n L t w rows) : BkOk ⟨n, L, t, w, rowF rows⟩ := by
  refine ⟨hn, ht, h1, h2, fun k hk => ?_, fun k hk => ?_⟩
  all_goals
    cases e : lookR rows k with
    | none =>
      exfalso
      apply hk
      show (lookR rows k).getD [] = []
      rw [e]; rfl
    | some r =>
      have hm := lookR_mem e
      have ef : (lookR rows k).getD [] = r := by rw [e]; rfl
      first
        | exact ok.key _ hm
        | (show RowOk L k.1 w ((lookR rows k).getD []); rw [ef]; exact ok.row _ hm)
theorem mem_keysOf {n : Nat} {L : List (Nat × Nat)} {t w : Nat} {k : Ky} (hw : 1 ≤ w) : k ∈ keysOf n L t w ↔ KeyOk n L t w k := by
  unfold keysOf
  rw [List.mem_flatMap]
  constructor
  · rintro ⟨node, hn, hk⟩
    rw [List.mem_range] at hn
    split at hk
    · cases hk
    · rename_i ht
      unfold keysAt at hk
      rcases List.mem_cons.mp hk with rfl | hk
      · exact ⟨hn, ht, hw, fun _ => rfl, fun c hc => nomatch hc⟩
      · obtain ⟨c, hc, hk⟩ := List.mem_flatMap.mp hk
        obtain ⟨m, hm, rfl⟩ := List.mem_map.mp hk
        refine ⟨hn, ht, List.mem_range.mp hm, fun z => (nomatch z), fun c' e => ?_⟩
        cases e
        exact hc
  · intro h
    obtain ⟨node, came, m⟩ := k
    refine ⟨node, List.mem_range.mpr h.node, ?_⟩
    rw [if_neg h.off]
    unfold keysAt
    cases came with
    | none =>
      have := h.none rfl
      simp only at this
      subst this
      exact List.mem_cons_self
    | some c => exact List.mem_cons_of_mem _ (List.mem_flatMap.mpr ⟨c, h.some c rfl, List.mem_map.mpr ⟨m, List.mem_range.mpr h.mark, rfl⟩⟩)
theorem keysAt_nodup (L : List (Nat × Nat)) (w node : Nat) : (keysAt L w node).Nodup := by
  unfold keysAt
  rw [List.nodup_cons]
  refine ⟨fun h => ?_, ?_⟩
  · obtain ⟨c, _, h⟩ := List.mem_flatMap.mp h
    obtain ⟨m, _, h⟩ := List.mem_map.mp h
    cases h
  · rw [List.Nodup, List.pairwise_flatMap]
    refine ⟨fun c _ => nodup_map (fun x y e => by cases e; rfl) List.nodup_range, ?_⟩
    refine (netAt_nodup (L := L) (node := node)).imp fun {a b} hab x hx y hy e => ?_
    obtain ⟨m, _, rfl⟩ := List.mem_map.mp hx
    obtain ⟨m', _, h⟩ := List.mem_map.mp hy
    rw [← h] at e
    cases e
    exact hab rfl
theorem keysAt_node {L : List (Nat × Nat)} {w node : Nat} {k : Ky} (h : k ∈ keysAt L w node) : k.1 = node := by
  unfold keysAt at h
  rcases List.mem_cons.mp h with rfl | h
  · rfl
  · obtain ⟨c, _, h⟩ := List.mem_flatMap.mp h
    obtain ⟨m, _, rfl⟩ := List.mem_map.mp h
    rfl
theorem keysOf_nodup (n : Nat) (L : List (Nat × Nat)) (t w : Nat) : (keysOf n L t w).Nodup := by
  unfold keysOf
  rw [List.Nodup, List.pairwise_flatMap]
  refine ⟨fun node _ => ?_, ?_⟩
  · split
    · exact List.Pairwise.nil
    · exact keysAt_nodup L w node
  · refine List.nodup_range.imp fun {a b} hab x hx y hy e => ?_
    have h1 : x.1 = a := by
      split at hx
      · cases hx
      · exact keysAt_node hx
    have h2 : y.1 = b := by
      split at hy
      · cases hy
      · exact keysAt_node hy
    exact hab (by rw [← h1, ← h2, e])
/-- the rows that a book tells -/
def rowsOf (B : Bk) : List (Ky × Row) := ((keysOf B.n B.L B.t B.w).filter fun k => decide (B.F k ≠ [])).map fun k => (k, B.F k)
/-- a book with rows put -/
def putRows (B : Bk) (rs : List (Ky × Row)) : Bk := { B with F := fun k => (lookR rs k).getD (B.F k) }
def keptR (B : Bk) (rs : List (Ky × Row)) : List (Ky × Row) := (rowsOf B).filter fun x => !decide (x.1 ∈ rs.map (·.1))
theorem rowsOf_keys (B : Bk) : (rowsOf B).map (·.1) = (keysOf B.n B.L B.t B.w).filter fun k => decide (B.F k ≠ []) := by
  unfold rowsOf
  rw [List.map_map]
  exact List.map_id _
theorem rowsOf_nodup (B : Bk) : ((rowsOf B).map (·.1)).Nodup := by
  rw [rowsOf_keys]
  exact (keysOf_nodup _ _ _ _).sublist List.filter_sublist
theorem kept_ok {B : Bk} (ok : BkOk B) {rs : List (Ky × Row)} (hr : RowsOk B.n B.L B.t B.w rs) (hz : rs.length ≤ 500) : RowsOk B.n B.L B.t B.w (keptR B rs ++ rs) := by
  have hm : ∀ x ∈ keptR B rs, B.F x.1 ≠ [] ∧ x.2 = B.F x.1 ∧ x.1 ∉ rs.map (·.1) := fun x hx => by
    unfold keptR at hx
    obtain ⟨h1, h2⟩ := List.mem_filter.mp hx
    unfold rowsOf at h1
    obtain ⟨k, hk, rfl⟩ := List.mem_map.mp h1
    exact ⟨of_decide_eq_true (List.mem_filter.mp hk).2, rfl, by simpa using h2⟩
  refine ⟨fun x hx => ?_, fun x hx => ?_, ?_, ?_⟩
  · rcases List.mem_append.mp hx with h | h
    · exact ok.key _ (hm x h).1
    · exact hr.key x h
  · rcases List.mem_append.mp hx with h | h
    · rw [(hm x h).2.1]
      exact ok.row _ (hm x h).1
    · exact hr.row x h
  · rw [List.map_append, List.nodup_append]
    refine ⟨?_, hr.nd, fun k hk k' hk' e => ?_⟩
    · unfold keptR
      exact (rowsOf_nodup B).sublist (List.filter_sublist.map _)
    · obtain ⟨x, hx, rfl⟩ := List.mem_map.mp hk
      exact (hm x hx).2.2 (by rw [e]; exact hk')
  · rw [List.length_append]
    have h1 : (keptR B rs).length ≤ 119 := by
      unfold keptR rowsOf
      refine Nat.le_trans (List.length_filter_le _ _) ?_
      rw [List.length_map]
      refine Nat.le_trans (List.length_filter_le _ _) ?_
      unfold keysOf
      have := keysTo_len (n := B.n) (t := B.t) ok.net.few ok.w2 (List.range B.n)
      rw [List.length_range] at this
      have := ok.net.hi
      omega
    omega
theorem kept_F {B : Bk} (ok : BkOk B) (rs : List (Ky × Row)) : rowF (keptR B rs ++ rs) = (putRows B rs).F := by
  funext k
  show (lookR (keptR B rs ++ rs) k).getD [] = (lookR rs k).getD (B.F k)
  rw [lookR_app]
  by_cases hk : k ∈ rs.map (·.1)
  · obtain ⟨r, e⟩ := lookR_some hk
    have h0 : lookR (keptR B rs) k = none := lookR_none fun h => by
      obtain ⟨x, hx, rfl⟩ := List.mem_map.mp h
      unfold keptR at hx
      have := (List.mem_filter.mp hx).2
      simp only [Bool.not_eq_true', decide_eq_false_iff_not] at this
      exact this hk
    rw [h0, e]; rfl
  · rw [lookR_none hk, Option.getD_none]
    by_cases hF : B.F k = []
    · have h0 : lookR (keptR B rs) k = none := lookR_none fun h => by
        obtain ⟨x, hx, rfl⟩ := List.mem_map.mp h
        unfold keptR rowsOf at hx
        obtain ⟨y, hy, e⟩ := List.mem_map.mp (List.mem_filter.mp hx).1
        have := of_decide_eq_true (List.mem_filter.mp hy).2
        rw [← e] at hF
        exact this hF
      rw [h0, hF]; rfl
    · have hm : (k, B.F k) ∈ keptR B rs := by
        unfold keptR rowsOf
        refine List.mem_filter.mpr ⟨List.mem_map.mpr ⟨k, List.mem_filter.mpr ⟨(mem_keysOf ok.w1).mpr (ok.key k hF), decide_eq_true hF⟩, rfl⟩, ?_⟩
        simpa using hk
      have h0 : lookR (keptR B rs) k = some (B.F k) := lookR_at (x := (k, B.F k)) (by unfold keptR; exact (rowsOf_nodup B).sublist (List.filter_sublist.map _)) hm
      rw [h0]; rfl
theorem put_ok {B : Bk} (ok : BkOk B) {rs : List (Ky × Row)} (hr : RowsOk B.n B.L B.t B.w rs) (hz : rs.length ≤ 500) : BkOk (putRows B rs) := by
  have := BkOk.of ok.net ok.tgt ok.w1 ok.w2 (kept_ok ok hr hz)
  rw [kept_F ok rs] at this
  exact this
end Sp
end
section
set_option Elab.async false
set_option linter.all false
set_option maxRecDepth 100000
set_option maxHeartbeats 4000000
set_option autoImplicit false
local macro_rules | `(tactic| walk_at "go") => `(tactic| repeat first
  | (with_reducible first
     | refine Sp.st_var rfl ?_ | refine Sp.st_c ?_ | refine Sp.st_op ?_ | refine Sp.st_seq ?_ | refine Sp.st_asg ?_ | refine Sp.st_name ?_
     | refine Sp.st_ret ?_ | refine Sp.st_drop ?_ | refine Sp.st_next ?_ | refine Sp.st_if ?_ | refine Sp.st_nx ?_ | refine Sp.st_rt ?_
     | refine Sp.st_cons ?_ | refine Sp.st_nil ?_ | refine Sp.st_cb ?_ | refine Sp.st_call ?_ | refine Sp.st_test ?_ | refine Sp.st_B ?_
     | refine Sp.st_not ?_ | refine Sp.st_and ?_ | refine Sp.st_or ?_ | refine Sp.st_andV ?_ | refine Sp.st_orV ?_ | refine Sp.st_notV ?_
     | refine Sp.st_tif ?_ | refine Sp.st_tup ?_ | refine Sp.st_lst ?_ | refine Sp.st_blx ?_ | refine Sp.st_I0 ?_ | refine Sp.st_U ?_
     | refine Sp.st_eqI ?_ | refine Sp.st_neI ?_ | refine Sp.st_chain ?_ | refine Sp.isiI ?_ | refine Sp.isiB ?_ | refine Sp.isiS ?_
     | refine Sp.st_T rfl ?_ | refine Sp.st_F rfl ?_ | refine Sp.st_lc ?_ | refine Sp.st_iT ?_ | refine Sp.st_iL ?_ | refine Sp.st_iR1 ?_
     | refine Sp.st_iR2 ?_ | refine Sp.st_iET ?_ | refine Sp.st_iZA ?_ | refine Sp.st_iZLT ?_ | refine Sp.st_for ?_ | refine Sp.st_fld ?_
     | refine Sp.st_sfld ?_ | refine Sp.st_prop ?_ | refine Sp.st_meth ?_ | refine Sp.st_make ?_ | refine Sp.st_isN ?_ | refine Sp.st_yes ?_
     | refine Sp.isNI ?_ | refine Sp.notNI ?_ | refine Sp.int1I ?_ | refine Sp.int1B ?_ | refine Sp.min2I ?_ | refine Sp.max2I ?_
     | refine Sp.st_dputN ?_ | refine Sp.st_dgetN ?_ | refine Sp.st_revL ?_ | refine Sp.st_din ?_ | refine Sp.st_dnin ?_ | refine Sp.st_dget ?_ | refine Sp.st_dput ?_ | refine Sp.st_dc ?_ | refine Sp.st_dcN ?_
     | refine Sp.st_sortLam ?_ | refine Sp.st_lc2 ?_ | refine Sp.st_lenSet ?_ | refine Sp.st_bm ?_ | refine Sp.st_lenO ?_ | refine Sp.st_sl ?_ | refine Sp.st_part ?_ | refine Sp.st_nopart ?_ | refine Sp.st_intx ?_)
  | ((with_reducible refine Sp.st_wp ?_ ?_); (focus rfl)))
namespace Sp
open PySem PySem.Spec L2

def bookF (gr : Addr) (t w : Nat) (d l : Addr) : List (Str × V) := [("ground", .ref gr), ("goal", .int t), ("width", .int w), ("told", .ref d), ("turns", .ref l)]
/-- a book object -/
structure BookAt (g : Gx) (H : Hp) (a : Addr) (B : Bk) : Prop where
  ex : ∃ dx gr d l kvs, H a = some (.ins g.bc dx (bookF gr B.t B.w d l)) ∧ NetAt g H gr B.n B.L ∧ DicD g.P g.w g.K H d kvs ∧ ∀ k, dval kvs (ko k) = if B.F k = [] then none else some (eR (B.F k))
  ok : BkOk B
theorem Ex.book {g : Gx} {H H' : Hp} {a : Addr} {B : Bk} (e : Ex g.T H H') (h : BookAt g H a B) : BookAt g H' a B := by
  obtain ⟨⟨dx, gr, d, l, kvs, h1, h2, h3, h4⟩, ok⟩ := h
  exact ⟨⟨dx, gr, d, l, kvs, e.at h1, e.net h2, e.dic h3, h4⟩, ok⟩
theorem ExB.net {g : Gx} {H H' : Hp} {x a : Addr} {n : Nat} {L : List (Nat × Nat)} (e : ExB g.T x H H') (nx : NoTup H x) (hne : a ≠ x) (h : NetAt g H a n L) : NetAt g H' a n L := by
  obtain ⟨⟨dx, p, xs, h1, h2, h3⟩, ok⟩ := h
  exact ⟨⟨dx, p, xs, e.ext a _ hne h1 (fun _ z => by cases z), e.st (u := .tup []) nx h2, e.tps nx h3⟩, ok⟩
-- Book.__init__: slots self 0, net 1, target 2, marks 3, rows 4, error 5, key 6, row 7, turn 8; cells []
abbrev s_Book___init__ : Stmt := inClass (top 54) 0
abbrev N_Book___init__ : List Str := ["self", "net", "target", "marks", "rows", "error", "key", "row", "turn"]
theorem sc_Book___init__ : FnScope N_Book___init__ ["self", "net", "target", "marks", "rows"] (defScope s_Book___init__) := ⟨rfl, rfl, rfl, by decide +kernel, rfl, by decide +kernel, by decide +kernel⟩
def sp_Book___init__ (g : Gx) : Sp := fun vs H Q _ => ∃ x gr v, ∃ n t w : Nat, ∃ L : List (Nat × Nat), ∃ rows : List (Ky × Row), vs = [.ref x, .ref gr, .int t, .int w, v] ∧ (∃ dx, H x = some (.ins g.bc dx [])) ∧ NetAt g H gr n L ∧ Tp g.K H v (.tuple (rows.map eO)) ∧ (t < n ∧ 1 ≤ w ∧ w ≤ 2) ∧ RowsOk n L t w rows ∧
  ∀ H', ExB g.T x H H' → BookAt g H' x ⟨n, L, t, w, rowF rows⟩ → Q .non H'
theorem ok_Book___init__ (g : Gx) (T : Blt g.mg) (Z : Fct g) (C_book_error : Cal g.P g.w g.K g.mg g.base 4 "book_error" ["net", "target", "marks", "rows"] (sp_book_error g))  {f : Addr} {fd : FuncData} (F : Fun g.K "__init__" "Book.__init__" s_Book___init__ f fd) : FnOk g.P g.w g.K g.mg g.base CX0 5 f fd ["self", "net", "target", "marks", "rows"] (sp_Book___init__ g) := by
  refine F.ok sc_Book___init__ (fun vs H Q E h => ?_) (fun cdv A outer s H vs Q E hr h => ?_)
  · first | (obtain ⟨rfl, _⟩ := h; rfl) | (obtain ⟨_, rfl, _⟩ := h; rfl) | (obtain ⟨_, _, rfl, _⟩ := h; rfl) | (obtain ⟨_, _, _, rfl, _⟩ := h; rfl) | (obtain ⟨_, _, _, _, rfl, _⟩ := h; rfl) | (obtain ⟨_, _, _, _, _, rfl, _⟩ := h; rfl) | (obtain ⟨_, _, _, _, _, _, rfl, _⟩ := h; rfl) | (obtain ⟨_, _, _, _, _, _, _, rfl, _⟩ := h; rfl) | (obtain ⟨_, _, _, _, _, _, _, _, rfl, _⟩ := h; rfl) | (obtain ⟨_, _, _, _, _, _, _, _, _, rfl, _⟩ := h; rfl) | (obtain ⟨_, _, _, _, _, _, _, _, _, _, rfl, _⟩ := h; rfl) | (obtain ⟨_, _, _, _, _, _, _, _, _, _, _, rfl, _⟩ := h; rfl) | (obtain ⟨_, _, _, _, _, _, _, _, _, _, _, _, rfl, _⟩ := h; rfl) | (obtain ⟨_, _, _, _, _, _, _, _, _, _, _, _, _, rfl, _⟩ := h; rfl)
  have hu := room_un hr
  obtain ⟨x, gr, v, n, t, w, L, rows, rfl, ⟨dx, hx0⟩, hn, hv, ⟨ht, hw1, hw2⟩, ok, kk⟩ := h
  refine ⟨_, (pss_cons (ps_set (i := 5) sc_Book___init__.nd rfl (Or.inl rfl) (pe_cF C_book_error (hr.mono (by decide)) rfl (pa_cons (pv 1) (pa_cons (pv 2) (pa_cons (pv 3) (pa_cons (pv 4) pa_nil))))))
      (pss_cons (ps_if (pt_cmpR notNW (pv 5) pe_non (nomark _)) (pss_one ps_dead) pss_nil)
      (pss_cons (sfldW g (pv 0) (pv 1) rfl)
      (pss_cons (sfldW g (pv 0) (pv 2) rfl)
      (pss_cons (sfldW g (pv 0) (pv 3) rfl)
      (pss_cons (sfldW g (pv 0) (pe_dcN hu (own := [("key", 6), ("row", 7)]) rfl sc_Book___init__.nd (iTW g (pv 4)) (blkOk_by rfl) (fun _ _ _ _ _ => gTW g (n := 2) rfl (pgs_cons (pg_name (i := 6) sc_Book___init__.nd rfl (Or.inl rfl)) (pgs_cons (pg_name (i := 7) sc_Book___init__.nd rfl (Or.inl rfl)) pgs_nil))) (fun _ _ _ _ _ => pts_one (pt_cmpR (neDW g hu) (pv 7) (pe_tup pa_nil) (nomark _))) (fun _ _ _ _ _ => (pv 6)) (fun _ _ _ _ _ => (pv 7))) rfl)
      (pss_one (sfldW g (pv 0) (pe_lc2 (own := [("key", 6), ("row", 7), ("turn", 8)]) (vs1 := [8]) rfl sc_Book___init__.nd (iTW g (pv 4)) (blkOk_by rfl) (by decide) (fun _ _ _ _ _ => gTW g (n := 2) rfl (pgs_cons (pg_name (i := 6) sc_Book___init__.nd rfl (Or.inl rfl)) (pgs_cons (pg_name (i := 7) sc_Book___init__.nd rfl (Or.inl rfl)) pgs_nil))) (fun _ _ _ _ _ => pts_nil) (fun _ _ _ _ _ => (iTW g (pv 7))) (fun _ _ _ _ _ => pg_name (i := 8) sc_Book___init__.nd rfl (Or.inl rfl)) (fun _ _ _ _ _ => pts_nil) (fun _ _ _ _ _ => (pv 8))) rfl)))))))), ?_⟩
  have nx : NoTup H x := noTup_of hx0
  obtain ⟨a, xs, rfl, hs, hx⟩ := tp_tup hv
  have hf := ok.few
  have nok := hn.ok
  have hgx : gr ≠ x := fun z => by
    obtain ⟨⟨dx2, p, ys, h1, _⟩, _⟩ := hn
    rw [z, hx0] at h1
    have := (HO.ins.inj (Option.some.inj h1)).2.2
    cases this
  walk_at "go"
  refine ⟨gr, _, n, t, w, L, rows, rfl, hn, hv, ok, fun H1 e1 => ?_⟩
  walk_at "go"
  have b1 : ExB g.T x H H1 := ExB.refl.then e1
  have hx1 := e1.at hx0
  refine ⟨x, g.bc, dx, [], rfl, hx1, Z.bc, Z.bc_ground, Nat.le_of_ble_eq_true rfl, ?_⟩
  walk_at "go"
  have b2 := b1.set (o := .ins g.bc dx (putF "ground" (.ref gr) [])) hx1
  refine ⟨x, g.bc, dx, _, rfl, upd_same, Z.bc, Z.bc_goal, Nat.le_of_ble_eq_true rfl, ?_⟩
  walk_at "go"
  have b3 := b2.set (o := .ins g.bc dx (putF "goal" (.int t) (putF "ground" (.ref gr) []))) upd_same
  refine ⟨x, g.bc, dx, _, rfl, upd_same, Z.bc, Z.bc_width, Nat.le_of_ble_eq_true rfl, ?_⟩
  walk_at "go"
  have b4 := b3.set (o := .ins g.bc dx (putF "width" (.int w) (putF "goal" (.int t) (putF "ground" (.ref gr) [])))) upd_same
  generalize hH4 : upd (upd (upd H1 x (.ins g.bc dx (putF "ground" (.ref gr) []))) x (.ins g.bc dx (putF "goal" (.int t) (putF "ground" (.ref gr) [])))) x (.ins g.bc dx (putF "width" (.int w) (putF "goal" (.int t) (putF "ground" (.ref gr) [])))) = H4 at b4
  have hx4 : H4 x = some (.ins g.bc dx (putF "width" (.int w) (putF "goal" (.int t) (putF "ground" (.ref gr) [])))) := by rw [← hH4]; exact upd_same
  have s4 := b4.st (u := .tup []) nx hs
  have t4 := b4.tps nx hx
  refine ⟨a, rfl, ⟨_, s4⟩, ?_⟩
  refine dcT (T := g.T) (l := rows) (enc := eO) (fun x => decide (x.2 ≠ [])) (fun x => (ko x.1, eR x.2)) s4 t4 (by omega) (fun z y H5 hz e5 hy => ?_) fun d H5 nd e5 hd => ?_
  · intro Yes No hY hN
    obtain ⟨b, k, r, rfl, hb, hk, hr⟩ := tp_eO hy
    refine st_g2 hb ?_
    walk_at "go"
    refine ⟨Nat.zero_le _, fun q hq => ?_⟩
    have e6 : Ex g.T H5 (upd H5 q (.tup [])) := .new hq
    refine ⟨eR z.2, .tuple [], (e6.tp hr).dp, .tup (.of upd_same) .nil, shp1 (eR_pur _) (eR_depth _) (by decide), rfl, ?_⟩
    have he : (!PyData.eqv (eR z.2) (.tuple [])) = decide (z.2 ≠ []) := by
      have h0 := eqv_enc (f := eR) eR_pur eR_inj z.2 []
      have h1 : PyData.eqv (eR z.2) (.tuple []) = decide (z.2 = []) := h0
      rw [h1]
      by_cases hz : z.2 = []
      · rw [decide_eq_true hz, decide_eq_false (fun z => z hz)]; rfl
      · rw [decide_eq_false hz, decide_eq_true hz]; rfl
    rw [he]
    refine st_blx ?_
    by_cases hz2 : z.2 ≠ []
    · refine st_T (decide_eq_true hz2) ?_
      walk_at "go"
      exact hY (decide_eq_true hz2) _ _ _ e6 (e6.tp hk) (e6.tp hr)
    · refine st_F (decide_eq_false hz2) ?_
      exact hN (decide_eq_false hz2) _ e6
  · walk_at "go"
    have hx5 := e5.at hx4
    refine ⟨x, g.bc, dx, _, rfl, hx5, Z.bc, Z.bc_told, Nat.le_of_ble_eq_true rfl, ?_⟩
    walk_at "go"
    have b5 := (b4.then e5).set (o := .ins g.bc dx (putF "told" (.ref d) (putF "width" (.int w) (putF "goal" (.int t) (putF "ground" (.ref gr) []))))) hx5
    have hdx : d ≠ x := fun z => by
      obtain ⟨Lx, q1, _⟩ := hd.ex
      have := q1.at_
      rw [z, hx5] at this
      cases this
    have hd6 := hd.up (o := .ins g.bc dx (putF "told" (.ref d) (putF "width" (.int w) (putF "goal" (.int t) (putF "ground" (.ref gr) []))))) (noTup_of hx5) (Ne.symm hdx)
    have s6 := b5.st (u := .tup []) nx hs
    have t6 := b5.tps nx hx
    generalize hH6 : upd H5 x (.ins g.bc dx (putF "told" (.ref d) (putF "width" (.int w) (putF "goal" (.int t) (putF "ground" (.ref gr) []))))) = H6 at b5 hd6 s6 t6
    have hx6 : H6 x = some (.ins g.bc dx (putF "told" (.ref d) (putF "width" (.int w) (putF "goal" (.int t) (putF "ground" (.ref gr) []))))) := by rw [← hH6]; exact upd_same
    refine ⟨a, rfl, ⟨_, s6⟩, ?_⟩
    have rowlen : ∀ z ∈ rows, z.2.length ≤ 8 := fun z hz => Nat.le_trans (ok.row z hz).len nok.few
    refine lc2T (T := g.T) (l := rows) (enc := eO) (fun x => x.2.map eP) s6 t6 (fun j z y H7 D hz e7 hy pr Nx hN => ?_) fun l H7 ys nl e7 hl hys => ?_
    · obtain ⟨b, k, r, rfl, hb, hk, hr⟩ := tp_eO hy
      have hjl : j < rows.length := (List.getElem?_eq_some_iff.mp hz).1
      refine st_g2 (e7.st hb) ?_
      walk_at "go"
      obtain ⟨rb, rs, rfl, hrb, hrs⟩ := tp_tup hr
      refine ⟨rb, rfl, ⟨_, e7.st hrb⟩, ?_⟩
      refine lcIT (T := g.T) (K := g.K) (l := z.2) (enc := eP) eP pr hrb hrs ?_ (fun m y2 H8 hm e8 hy2 => ?_) hN
      · have h5 := flat_len (l := rows.take j) (f := fun x : Ky × Row => x.2.map eP) (k := 8) fun x hx => by rw [List.length_map]; exact rowlen x (List.mem_of_mem_take hx)
        rw [List.length_take] at h5
        have := rowlen z (List.mem_of_getElem? hz)
        omega
      · intro Yes No hY hN2
        walk_at "go"
        exact hY rfl _ _ (.refl _) hy2
    · walk_at "go"
      have hx7 := e7.at hx6
      refine ⟨x, g.bc, dx, _, rfl, hx7, Z.bc, Z.bc_turns, Nat.le_of_ble_eq_true rfl, ?_⟩
      walk_at "go"
      have b7 := (b5.then e7).set (o := .ins g.bc dx (bookF gr t w d l)) hx7
      refine kk _ b7 ⟨⟨dx, gr, d, l, _, upd_same, b7.net nx hgx hn, (e7.dic hd6).up (noTup_of hx7) (Ne.symm hdx), fun k => ?_⟩, BkOk.of nok ht hw1 hw2 ok⟩
      have hnd := toldD_nodup ok.nd
      have e9 : dputs [] ((rows.filter fun x => decide (x.2 ≠ [])).map fun x => (ko x.1, eR x.2)) = toldD rows := dputs_nodup _ [] (by rw [List.nil_append]; exact hnd)
      rw [e9]
      exact toldD_val ok.nd k
-- Book.net: slots self 0; cells []
abbrev s_Book_net : Stmt := inClass (top 54) 3
abbrev N_Book_net : List Str := ["self"]
theorem sc_Book_net : FnScope N_Book_net ["self"] (defScope s_Book_net) := ⟨rfl, rfl, rfl, by decide +kernel, rfl, by decide +kernel, by decide +kernel⟩
def sp_Book_net (g : Gx) : Sp := fun vs H Q _ => ∃ a B, vs = [.ref a] ∧ BookAt g H a B ∧ ∀ gr, NetAt g H gr B.n B.L → Q (.ref gr) H
theorem ok_Book_net (g : Gx) (T : Blt g.mg) (Z : Fct g)   {f : Addr} {fd : FuncData} (F : Fun g.K "net" "Book.net" s_Book_net f fd) : FnOk g.P g.w g.K g.mg g.base CX0 1 f fd ["self"] (sp_Book_net g) := by
  refine F.ok sc_Book_net (fun vs H Q E h => ?_) (fun cdv A outer s H vs Q E hr h => ?_)
  · first | (obtain ⟨rfl, _⟩ := h; rfl) | (obtain ⟨_, rfl, _⟩ := h; rfl) | (obtain ⟨_, _, rfl, _⟩ := h; rfl) | (obtain ⟨_, _, _, rfl, _⟩ := h; rfl) | (obtain ⟨_, _, _, _, rfl, _⟩ := h; rfl) | (obtain ⟨_, _, _, _, _, rfl, _⟩ := h; rfl) | (obtain ⟨_, _, _, _, _, _, rfl, _⟩ := h; rfl) | (obtain ⟨_, _, _, _, _, _, _, rfl, _⟩ := h; rfl) | (obtain ⟨_, _, _, _, _, _, _, _, rfl, _⟩ := h; rfl) | (obtain ⟨_, _, _, _, _, _, _, _, _, rfl, _⟩ := h; rfl) | (obtain ⟨_, _, _, _, _, _, _, _, _, _, rfl, _⟩ := h; rfl) | (obtain ⟨_, _, _, _, _, _, _, _, _, _, _, rfl, _⟩ := h; rfl) | (obtain ⟨_, _, _, _, _, _, _, _, _, _, _, _, rfl, _⟩ := h; rfl) | (obtain ⟨_, _, _, _, _, _, _, _, _, _, _, _, _, rfl, _⟩ := h; rfl)
  have hu := room_un hr
  obtain ⟨a, B, rfl, ⟨⟨dx, gr, d, l, kvs, h1, h2, h3, h4⟩, ok⟩, kk⟩ := h
  refine ⟨_, (pss_one (ps_ret (fldW g (pv 0) rfl))), ?_⟩
  walk_at "go"
  exact ⟨a, _, _, _, _, rfl, h1, Z.bc, Z.bc_ground, rfl, kk gr h2⟩
-- Book.target: slots self 0; cells []
abbrev s_Book_target : Stmt := inClass (top 54) 4
abbrev N_Book_target : List Str := ["self"]
theorem sc_Book_target : FnScope N_Book_target ["self"] (defScope s_Book_target) := ⟨rfl, rfl, rfl, by decide +kernel, rfl, by decide +kernel, by decide +kernel⟩
def sp_Book_target (g : Gx) : Sp := fun vs H Q _ => ∃ a B, vs = [.ref a] ∧ BookAt g H a B ∧ Q (.int B.t) H
theorem ok_Book_target (g : Gx) (T : Blt g.mg) (Z : Fct g)   {f : Addr} {fd : FuncData} (F : Fun g.K "target" "Book.target" s_Book_target f fd) : FnOk g.P g.w g.K g.mg g.base CX0 1 f fd ["self"] (sp_Book_target g) := by
  refine F.ok sc_Book_target (fun vs H Q E h => ?_) (fun cdv A outer s H vs Q E hr h => ?_)
  · first | (obtain ⟨rfl, _⟩ := h; rfl) | (obtain ⟨_, rfl, _⟩ := h; rfl) | (obtain ⟨_, _, rfl, _⟩ := h; rfl) | (obtain ⟨_, _, _, rfl, _⟩ := h; rfl) | (obtain ⟨_, _, _, _, rfl, _⟩ := h; rfl) | (obtain ⟨_, _, _, _, _, rfl, _⟩ := h; rfl) | (obtain ⟨_, _, _, _, _, _, rfl, _⟩ := h; rfl) | (obtain ⟨_, _, _, _, _, _, _, rfl, _⟩ := h; rfl) | (obtain ⟨_, _, _, _, _, _, _, _, rfl, _⟩ := h; rfl) | (obtain ⟨_, _, _, _, _, _, _, _, _, rfl, _⟩ := h; rfl) | (obtain ⟨_, _, _, _, _, _, _, _, _, _, rfl, _⟩ := h; rfl) | (obtain ⟨_, _, _, _, _, _, _, _, _, _, _, rfl, _⟩ := h; rfl) | (obtain ⟨_, _, _, _, _, _, _, _, _, _, _, _, rfl, _⟩ := h; rfl) | (obtain ⟨_, _, _, _, _, _, _, _, _, _, _, _, _, rfl, _⟩ := h; rfl)
  have hu := room_un hr
  obtain ⟨a, B, rfl, ⟨⟨dx, gr, d, l, kvs, h1, h2, h3, h4⟩, ok⟩, kk⟩ := h
  refine ⟨_, (pss_one (ps_ret (fldW g (pv 0) rfl))), ?_⟩
  walk_at "go"
  exact ⟨a, _, _, _, _, rfl, h1, Z.bc, Z.bc_goal, rfl, kk⟩
-- Book.row_at: slots self 0, key 1; cells []
abbrev s_Book_row_at : Stmt := inClass (top 54) 7
abbrev N_Book_row_at : List Str := ["self", "key"]
theorem sc_Book_row_at : FnScope N_Book_row_at ["self", "key"] (defScope s_Book_row_at) := ⟨rfl, rfl, rfl, by decide +kernel, rfl, by decide +kernel, by decide +kernel⟩
def sp_Book_row_at (g : Gx) : Sp := fun vs H Q _ => ∃ a v B k, vs = [.ref a, v] ∧ BookAt g H a B ∧ Tp g.K H v (eK k) ∧ ∀ r H', Ex g.T H H' → Tp g.K H' r (eR (B.F k)) → Q r H'
theorem ok_Book_row_at (g : Gx) (T : Blt g.mg) (Z : Fct g)   {f : Addr} {fd : FuncData} (F : Fun g.K "row_at" "Book.row_at" s_Book_row_at f fd) : FnOk g.P g.w g.K g.mg g.base CX0 1 f fd ["self", "key"] (sp_Book_row_at g) := by
  refine F.ok sc_Book_row_at (fun vs H Q E h => ?_) (fun cdv A outer s H vs Q E hr h => ?_)
  · first | (obtain ⟨rfl, _⟩ := h; rfl) | (obtain ⟨_, rfl, _⟩ := h; rfl) | (obtain ⟨_, _, rfl, _⟩ := h; rfl) | (obtain ⟨_, _, _, rfl, _⟩ := h; rfl) | (obtain ⟨_, _, _, _, rfl, _⟩ := h; rfl) | (obtain ⟨_, _, _, _, _, rfl, _⟩ := h; rfl) | (obtain ⟨_, _, _, _, _, _, rfl, _⟩ := h; rfl) | (obtain ⟨_, _, _, _, _, _, _, rfl, _⟩ := h; rfl) | (obtain ⟨_, _, _, _, _, _, _, _, rfl, _⟩ := h; rfl) | (obtain ⟨_, _, _, _, _, _, _, _, _, rfl, _⟩ := h; rfl) | (obtain ⟨_, _, _, _, _, _, _, _, _, _, rfl, _⟩ := h; rfl) | (obtain ⟨_, _, _, _, _, _, _, _, _, _, _, rfl, _⟩ := h; rfl) | (obtain ⟨_, _, _, _, _, _, _, _, _, _, _, _, rfl, _⟩ := h; rfl) | (obtain ⟨_, _, _, _, _, _, _, _, _, _, _, _, _, rfl, _⟩ := h; rfl)
  have hu := room_un hr
  obtain ⟨a, v, B, k, rfl, ⟨⟨dx, gr, d, l, kvs, h1, h2, h3, h4⟩, ok⟩, hv, kk⟩ := h
  refine ⟨_, (pss_one (ps_ret (getNW g hu (fldW g (pv 0) rfl) (pv 1) (pe_tup pa_nil) ⟨rfl, rfl, rfl, rfl⟩))), ?_⟩
  walk_at "go"
  refine ⟨a, _, _, _, _, rfl, h1, Z.bc, Z.bc_told, rfl, d, kvs, rfl, h3, ?_⟩
  walk_at "go"
  refine ⟨ko k, hv, ?_⟩
  walk_at "go"
  refine ⟨Nat.zero_le _, fun q hq => ?_⟩
  have e6 : Ex g.T H (upd H q (.tup [])) := .new hq
  refine ⟨e6.dic h3, e6.tp hv, .tuple [], .tup (.of upd_same) .nil, fun r hr => ?_⟩
  refine kk _ _ e6 ?_
  rw [h4 k] at hr
  by_cases hF : B.F k = []
  · rw [if_pos hF] at hr
    rw [hF]
    exact hr
  · rw [if_neg hF] at hr
    exact hr
-- Book.rows: slots self 0, keys 1, key 2; cells ['self']
abbrev s_Book_rows : Stmt := inClass (top 54) 6
abbrev N_Book_rows : List Str := ["self", "keys", "key"]
theorem sc_Book_rows : FnScope N_Book_rows ["self"] (defScope s_Book_rows) := ⟨rfl, rfl, rfl, by decide +kernel, rfl, by decide +kernel, by decide +kernel⟩
def sp_Book_rows (g : Gx) : Sp := fun vs H Q _ => ∃ a B, vs = [.ref a] ∧ BookAt g H a B ∧ ∀ r H', Ex g.T H H' → Tp g.K H' r (.tuple ((rowsOf B).map eO)) → Q r H'
theorem ok_Book_rows (g : Gx) (T : Blt g.mg) (Z : Fct g) (C_keys_of : Cal g.P g.w g.K g.mg g.base 3 "keys_of" ["net", "target", "marks"] (sp_keys_of g))  {f : Addr} {fd : FuncData} (F : Fun g.K "rows" "Book.rows" s_Book_rows f fd) : FnOk g.P g.w g.K g.mg g.base CX0 4 f fd ["self"] (sp_Book_rows g) := by
  refine F.ok sc_Book_rows (fun vs H Q E h => ?_) (fun cdv A outer s H vs Q E hr h => ?_)
  · first | (obtain ⟨rfl, _⟩ := h; rfl) | (obtain ⟨_, rfl, _⟩ := h; rfl) | (obtain ⟨_, _, rfl, _⟩ := h; rfl) | (obtain ⟨_, _, _, rfl, _⟩ := h; rfl) | (obtain ⟨_, _, _, _, rfl, _⟩ := h; rfl) | (obtain ⟨_, _, _, _, _, rfl, _⟩ := h; rfl) | (obtain ⟨_, _, _, _, _, _, rfl, _⟩ := h; rfl) | (obtain ⟨_, _, _, _, _, _, _, rfl, _⟩ := h; rfl) | (obtain ⟨_, _, _, _, _, _, _, _, rfl, _⟩ := h; rfl) | (obtain ⟨_, _, _, _, _, _, _, _, _, rfl, _⟩ := h; rfl) | (obtain ⟨_, _, _, _, _, _, _, _, _, _, rfl, _⟩ := h; rfl) | (obtain ⟨_, _, _, _, _, _, _, _, _, _, _, rfl, _⟩ := h; rfl) | (obtain ⟨_, _, _, _, _, _, _, _, _, _, _, _, rfl, _⟩ := h; rfl) | (obtain ⟨_, _, _, _, _, _, _, _, _, _, _, _, _, rfl, _⟩ := h; rfl)
  have hu := room_un hr
  obtain ⟨a, B, rfl, ⟨⟨dx, gr, d, l, kvs, h1, h2, h3, h4⟩, ok⟩, kk⟩ := h
  refine ⟨_, (pss_cons (ps_set (i := 1) sc_Book_rows.nd rfl (Or.inl rfl) (pe_cF C_keys_of (hr.mono (by decide)) rfl (pa_cons (fldW g (pv 0) rfl) (pa_cons (fldW g (pv 0) rfl) (pa_cons (fldW g (pv 0) rfl) pa_nil)))))
      (pss_one (ps_ret (pe_callTy (tupOfW g) (by rfl) T.b_tuple boot_t_tuple (pa_cons (pe_lc (own := [("key", 2)]) rfl sc_Book_rows.nd (iLW g (pv 1)) (blkOk_by rfl) (fun _ _ _ _ _ => pg_name (i := 2) sc_Book_rows.nd rfl (Or.inl rfl)) (fun _ _ _ _ _ => pts_one (pt_cmpR (inNW g hu) (pv 2) (fldW g (pv 0) rfl) rfl)) (fun _ _ _ _ _ => (pe_tup (pa_cons (pv 2) (pa_cons (ixNW g hu (fldW g (pv 0) rfl) (pv 2) (fun _ _ => rfl)) pa_nil))))) pa_nil))))), ?_⟩
  walk_at "go"
  refine ⟨a, _, _, _, _, rfl, h1, Z.bc, Z.bc_ground, rfl, ?_⟩
  walk_at "go"
  refine ⟨a, _, _, _, _, rfl, h1, Z.bc, Z.bc_goal, rfl, ?_⟩
  walk_at "go"
  refine ⟨a, _, _, _, _, rfl, h1, Z.bc, Z.bc_width, rfl, ?_⟩
  walk_at "go"
  refine ⟨gr, B.n, B.t, B.w, B.L, rfl, h2, ok.w2, fun p H1 ys np e1 hp hy => ?_⟩
  walk_at "go"
  refine ⟨p, rfl, ⟨_, .of hp⟩, ?_⟩
  refine lcL (T := g.T) (l := keysOf B.n B.L B.t B.w) (enc := eK) (fun k => decide (B.F k ≠ [])) (fun k => eO (k, B.F k)) (.of hp) hy ?_ (fun k x H2 hk e2 hx => ?_) fun q H2 zs nq e2 hq hz => ?_
  · have := keysTo_len (n := B.n) (t := B.t) ok.net.few ok.w2 (List.range B.n)
    rw [List.length_range] at this
    have := ok.net.hi
    unfold keysOf
    omega
  · intro Yes No hY hN
    have e12 := e1.trans e2
    walk_at "go"
    refine ⟨a, _, _, _, _, rfl, e12.at h1, Z.bc, Z.bc_told, rfl, d, kvs, ko k, rfl, e12.dic h3, hx, ?_⟩
    refine st_blx ?_
    have h0 := h4 k
    by_cases hF : B.F k = []
    · rw [if_pos hF] at h0
      refine st_F (by rw [h0]; rfl) ?_
      exact hN (decide_eq_false (fun z => z hF)) _ (.refl _)
    · rw [if_neg hF] at h0
      refine st_T (by rw [h0]; rfl) ?_
      walk_at "go"
      refine ⟨a, _, _, _, _, rfl, e12.at h1, Z.bc, Z.bc_told, rfl, ?_⟩
      walk_at "go"
      refine ⟨d, kvs, ko k, eR (B.F k), rfl, e12.dic h3, hx, h0, fun r hr => ?_⟩
      walk_at "go"
      refine ⟨szr rfl, fun q hq => ?_⟩
      have e6 : Ex g.T H2 (upd H2 q (.tup [x, r])) := .new hq
      exact hY (decide_eq_true hF) _ _ e6 (.tup (.of upd_same) (.cons (e6.tp hx) (.cons (e6.tp hr) .nil)))
  · walk_at "go"
    refine tupL (.of hq) fun q2 hq2 => ?_
    walk_at "go"
    refine kk _ _ ((e1.trans e2).trans (.new hq2)) (.tup (.of upd_same) ?_)
    have := hz.up (o := .tup zs) (noTup_none hq2)
    unfold rowsOf
    rw [List.map_map]
    exact this
-- Book.with_rows: slots self 0, rows 1, error 2, here 3, kept 4, key 5, row 6, pair 7; cells ['here']
abbrev s_Book_with_rows : Stmt := inClass (top 54) 8
abbrev N_Book_with_rows : List Str := ["self", "rows", "error", "here", "kept", "key", "row", "pair"]
theorem sc_Book_with_rows : FnScope N_Book_with_rows ["self", "rows"] (defScope s_Book_with_rows) := ⟨rfl, rfl, rfl, by decide +kernel, rfl, by decide +kernel, by decide +kernel⟩
def sp_Book_with_rows (g : Gx) : Sp := fun vs H Q _ => ∃ a v B, ∃ rs : List (Ky × Row), vs = [.ref a, v] ∧ BookAt g H a B ∧ Tp g.K H v (.tuple (rs.map eO)) ∧ RowsOk B.n B.L B.t B.w rs ∧ rs.length ≤ 500 ∧ ∀ b H', Ex g.T H H' → BookAt g H' b (putRows B rs) → Q (.ref b) H'
theorem ok_Book_with_rows (g : Gx) (T : Blt g.mg) (Z : Fct g) (C_book_error : Cal g.P g.w g.K g.mg g.base 4 "book_error" ["net", "target", "marks", "rows"] (sp_book_error g)) (C_rows : CalP g.P g.w g.K g.mg g.base 4 g.bc "rows" (sp_Book_rows g)) (C_Book : CalK g.P g.w g.K g.mg g.base 5 g.bc "Book" ["self", "net", "target", "marks", "rows"] (sp_Book___init__ g))  {f : Addr} {fd : FuncData} (F : Fun g.K "with_rows" "Book.with_rows" s_Book_with_rows f fd) : FnOk g.P g.w g.K g.mg g.base CX0 7 f fd ["self", "rows"] (sp_Book_with_rows g) := by
  refine F.ok sc_Book_with_rows (fun vs H Q E h => ?_) (fun cdv A outer s H vs Q E hr h => ?_)
  · first | (obtain ⟨rfl, _⟩ := h; rfl) | (obtain ⟨_, rfl, _⟩ := h; rfl) | (obtain ⟨_, _, rfl, _⟩ := h; rfl) | (obtain ⟨_, _, _, rfl, _⟩ := h; rfl) | (obtain ⟨_, _, _, _, rfl, _⟩ := h; rfl) | (obtain ⟨_, _, _, _, _, rfl, _⟩ := h; rfl) | (obtain ⟨_, _, _, _, _, _, rfl, _⟩ := h; rfl) | (obtain ⟨_, _, _, _, _, _, _, rfl, _⟩ := h; rfl) | (obtain ⟨_, _, _, _, _, _, _, _, rfl, _⟩ := h; rfl) | (obtain ⟨_, _, _, _, _, _, _, _, _, rfl, _⟩ := h; rfl) | (obtain ⟨_, _, _, _, _, _, _, _, _, _, rfl, _⟩ := h; rfl) | (obtain ⟨_, _, _, _, _, _, _, _, _, _, _, rfl, _⟩ := h; rfl) | (obtain ⟨_, _, _, _, _, _, _, _, _, _, _, _, rfl, _⟩ := h; rfl) | (obtain ⟨_, _, _, _, _, _, _, _, _, _, _, _, _, rfl, _⟩ := h; rfl)
  have hu := room_un hr
  obtain ⟨a, v, B, rs, rfl, hB, hv, ok, hz, kk⟩ := h
  refine ⟨_, (pss_cons (ps_set (i := 2) sc_Book_with_rows.nd rfl (Or.inl rfl) (pe_cF C_book_error (hr.mono (by decide)) rfl (pa_cons (fldW g (pv 0) rfl) (pa_cons (fldW g (pv 0) rfl) (pa_cons (fldW g (pv 0) rfl) (pa_cons (pv 1) pa_nil))))))
      (pss_cons (ps_if (pt_cmpR notNW (pv 2) pe_non (nomark _)) (pss_one ps_dead) pss_nil)
      (pss_cons (ps_set (i := 3) sc_Book_with_rows.nd rfl (Or.inr rfl) (pe_lc (own := [("key", 5), ("row", 6)]) rfl sc_Book_with_rows.nd (iTW g (pv 1)) (blkOk_by rfl) (fun _ _ _ _ _ => gTW g (n := 2) rfl (pgs_cons (pg_name (i := 5) sc_Book_with_rows.nd rfl (Or.inl rfl)) (pgs_cons (pg_name (i := 6) sc_Book_with_rows.nd rfl (Or.inl rfl)) pgs_nil))) (fun _ _ _ _ _ => pts_nil) (fun _ _ _ _ _ => (pv 5))))
      (pss_cons (ps_setLc (i := 4) (own := [("pair", 7)]) rfl sc_Book_with_rows.nd rfl rfl (sw_true rfl rfl rfl (by decide +kernel)) (iTW g (pe_pF C_rows (hr.mono (by decide)) (pv 0) rfl)) (blkOk_by rfl) (fun _ _ _ _ _ => pg_name (i := 7) sc_Book_with_rows.nd rfl (Or.inl rfl)) (fun _ _ _ _ _ => pts_one (pt_cmpR (ninDW g hu) (pe_ix (ixW g) (pv 7) pe_int (fun _ _ => rfl)) (pv 3) rfl)) (fun _ _ _ _ _ => (pv 7)))
      (pss_one (ps_ret (pe_kF C_Book (hr.mono (by decide)) rfl (pa_cons (fldW g (pv 0) rfl) (pa_cons (fldW g (pv 0) rfl) (pa_cons (fldW g (pv 0) rfl) (pa_cons (pe_op (catAW g) (pe_callTy (tupOfW g) (by rfl) T.b_tuple boot_t_tuple (pa_cons (pv 4) pa_nil)) (pv 1)) pa_nil))))))))))), ?_⟩
  have hBook := hB
  obtain ⟨⟨dx, gr, d, l, kvs, h1, h2, h3, h4⟩, bok⟩ := hB
  obtain ⟨b, xs, rfl, hb, hx⟩ := tp_tup hv
  walk_at "go"
  refine ⟨a, _, _, _, _, rfl, h1, Z.bc, Z.bc_ground, rfl, ?_⟩
  walk_at "go"
  refine ⟨a, _, _, _, _, rfl, h1, Z.bc, Z.bc_goal, rfl, ?_⟩
  walk_at "go"
  refine ⟨a, _, _, _, _, rfl, h1, Z.bc, Z.bc_width, rfl, ?_⟩
  walk_at "go"
  refine ⟨gr, _, B.n, B.t, B.w, B.L, rs, rfl, h2, hv, ok, fun H1 e1 => ?_⟩
  walk_at "go"
  refine ⟨b, rfl, ⟨_, e1.st hb⟩, ?_⟩
  refine lcT (T := g.T) (l := rs) (enc := eO) (fun _ => true) (fun x => eK x.1) (e1.st hb) (e1.tps hx) (by omega) (fun z x H2 hk e2 hx => ?_) fun q H2 ks nq e2 hq hks => ?_
  · intro Yes No hY hN
    obtain ⟨c, k, r, rfl, hc, hkk, hrr⟩ := tp_eO hx
    refine st_g2 hc ?_
    walk_at "go"
    exact hY rfl _ _ (.refl _) hkk
  rw [List.filter_eq_self.mpr (fun _ _ => rfl)] at hks
  have e12 := e1.trans e2
  walk_at "go"
  refine ⟨a, _, _, rfl, e12.at h1, a, B, rfl, e12.book hBook, fun r H3 e3 hr => ?_⟩
  obtain ⟨c, cs, rfl, hc, hcs⟩ := tp_tup hr
  have e13 := e12.trans e3
  walk_at "go"
  refine ⟨c, rfl, ⟨_, hc⟩, ?_⟩
  have hrl : (rowsOf B).length ≤ 119 := by
    unfold rowsOf
    rw [List.length_map]
    refine Nat.le_trans (List.length_filter_le _ _) ?_
    unfold keysOf
    have := keysTo_len (n := B.n) (t := B.t) bok.net.few bok.w2 (List.range B.n)
    rw [List.length_range] at this
    have := bok.net.hi
    omega
  have hkd : DpAll g.K H3 ks ((rs.map (·.1)).map eK) := by
    rw [List.map_map]
    exact TpAll.dps (e3.tps hks)
  refine lcT (T := g.T) (l := rowsOf B) (enc := eO) (fun x => !decide (x.1 ∈ rs.map (·.1))) eO hc hcs (by omega) (fun z x H4 hk e4 hx => ?_) fun p H4 ps np e4 hp hps => ?_
  · intro Yes No hY hN
    have hxp : Tp g.K H4 x (eO z) := hx
    obtain ⟨cc, k, r, rfl, hcc, hkk, hrr⟩ := tp_eO hx
    walk_at "go"
    refine st_ixT hcc rfl ?_
    walk_at "go"
    have hkd4 : DpAll g.K H4 ks ((rs.map (·.1)).map eK) := by
      rw [List.map_map]
      exact TpAll.dps ((e3.trans e4).tps hks)
    refine ⟨_, _, hkk.dp, .lst (.of ((e3.trans e4).at hq)) hkd4, shp1 (eK_pur _) (eK_depth _) (by decide), shp_list (f := eK) 1 eK_pur eK_depth (by decide), ?_⟩
    refine st_blx ?_
    by_cases hm : z.1 ∈ rs.map (·.1)
    · have h0 := any_in (f := eK) (eK_pur z.1) hm
      refine st_F (by rw [h0]; rfl) ?_
      exact hN (by rw [decide_eq_true hm]; rfl) _ (.refl _)
    · have h0 := any_nin (f := eK) eK_pur eK_inj hm
      refine st_T (by rw [h0]; rfl) ?_
      walk_at "go"
      exact hY (by rw [decide_eq_false hm]; rfl) _ _ (.refl _) hxp
  have e14 := e13.trans e4
  walk_at "go"
  refine ⟨a, _, _, _, _, rfl, e14.at h1, Z.bc, Z.bc_ground, rfl, ?_⟩
  walk_at "go"
  refine ⟨a, _, _, _, _, rfl, e14.at h1, Z.bc, Z.bc_goal, rfl, ?_⟩
  walk_at "go"
  refine ⟨a, _, _, _, _, rfl, e14.at h1, Z.bc, Z.bc_width, rfl, ?_⟩
  walk_at "go"
  refine tupL (.of hp) fun q2 hq2 => ?_
  have e15 : Ex g.T H (upd H4 q2 (.tup ps)) := e14.trans (.new hq2)
  have hps2 := hps.up (o := .tup ps) (noTup_none hq2)
  walk_at "go"
  have hkl : (keptR B rs).length ≤ 119 := by
    unfold keptR
    exact Nat.le_trans (List.length_filter_le _ _) hrl
  refine catT (.of upd_same) (e15.st hb) ?_ fun p3 H5 h5 hs5 => ?_
  · rw [hps.len, List.length_map, hx.len, List.length_map]
    have : ((rowsOf B).filter fun x => !decide (x.1 ∈ rs.map (·.1))).length ≤ 119 := hkl
    omega
  have e5 : Ex g.T (upd H4 q2 (.tup ps)) H5 := by
    rcases h5 with rfl | ⟨h5, rfl⟩
    · exact .refl _
    · exact .new h5
  walk_at "go"
  intro x dx2 hx2 hdx hne
  have e16 := e15.trans e5
  have e17 : Ex g.T H5 (upd (upd H5 dx2 (.own x)) x (.ins g.bc dx2 [])) := (Ex.new hdx).trans (.new (by rw [upd_ne (Ne.symm hne)]; exact hx2))
  have hdat : Tp g.K H5 (.ref p3) (.tuple ((keptR B rs ++ rs).map eO)) := by
    rw [List.map_append]
    exact .tup hs5 ((e5.tps hps2).app (e16.tps hx))
  refine ⟨x, gr, _, B.n, B.t, B.w, B.L, keptR B rs ++ rs, rfl, ⟨dx2, upd_same⟩, (e16.trans e17).net h2, e17.tp hdat, ⟨bok.tgt, bok.w1, bok.w2⟩, kept_ok bok ok hz, fun H7 b7 hb7 => ⟨rfl, ?_⟩⟩
  rw [kept_F bok rs] at hb7
  exact kk x H7 (e16.trans (ExB.made hx2 hdx hne b7)) hb7
/-- the links at a node, turned behind the one that one came by -/
def turnL (L : List (Nat × Nat)) (k : Ky) : List Nat := match k.2.1 with
  | none => netAt L k.1
  | some c => (netAt L k.1).drop ((netAt L k.1).idxOf c + 1) ++ (netAt L k.1).take ((netAt L k.1).idxOf c + 1)
def turnRows (n : Nat) (L : List (Nat × Nat)) (t : Nat) : List (Ky × Row) := (keysOf n L t 1).map fun k => (k, (turnL L k).map fun l => (l, 0))
theorem turnL_perm (L : List (Nat × Nat)) (k : Ky) : (turnL L k).Perm (netAt L k.1) := by
  unfold turnL
  split
  · exact .refl _
  · refine List.perm_append_comm.trans ?_
    rw [List.take_append_drop]
theorem turn_ok {n : Nat} {L : List (Nat × Nat)} {t : Nat} (hn : NetOk n L) : RowsOk n L t 1 (turnRows n L t) := by
  have hk : (turnRows n L t).map (·.1) = keysOf n L t 1 := by
    unfold turnRows
    rw [List.map_map]
    exact List.map_id _
  refine ⟨fun x hx => ?_, fun x hx => ?_, by rw [hk]; exact keysOf_nodup _ _ _ _, ?_⟩
  · unfold turnRows at hx
    obtain ⟨k, hk, rfl⟩ := List.mem_map.mp hx
    exact (mem_keysOf (Nat.le_refl _)).mp hk
  · unfold turnRows at hx
    obtain ⟨k, hk, rfl⟩ := List.mem_map.mp hx
    refine ⟨fun p hp => ?_, ?_⟩
    · obtain ⟨l, hl, rfl⟩ := List.mem_map.mp hp
      exact ⟨(turnL_perm L k).mem_iff.mp hl, Nat.zero_lt_one⟩
    · show ((((turnL L k).map fun l => ((l, 0) : Nat × Nat))).map (·.1)).Nodup
      rw [List.map_map]
      have : ((turnL L k).map ((fun x : Nat × Nat => x.1) ∘ fun l => ((l, 0) : Nat × Nat))) = turnL L k := List.map_id _
      rw [this]
      exact (turnL_perm L k).nodup_iff.mpr netAt_nodup
  · have : (turnRows n L t).length = (keysOf n L t 1).length := by rw [← hk, List.length_map]
    rw [this]
    unfold keysOf
    have := keysTo_len (n := n) (t := t) hn.few (show 1 ≤ 2 by decide) (List.range n)
    rw [List.length_range] at this
    have := hn.hi
    omega
-- Book.turning: slots cls 0, net 1, target 2, rows 3, node 4, came 5, mark 6, links 7, place 8, link 9; cells []
abbrev s_Book_turning : Stmt := inClass (top 54) 1
abbrev N_Book_turning : List Str := ["cls", "net", "target", "rows", "node", "came", "mark", "links", "place", "link"]
theorem sc_Book_turning : FnScope N_Book_turning ["cls", "net", "target"] (defScope s_Book_turning) := ⟨rfl, rfl, rfl, by decide +kernel, rfl, by decide +kernel, by decide +kernel⟩
def sp_Book_turning (g : Gx) : Sp := fun vs H Q _ => ∃ gr, ∃ n t : Nat, ∃ L : List (Nat × Nat), vs = [.ref g.bc, .ref gr, .int t] ∧ NetAt g H gr n L ∧ t < n ∧ ∀ a H', Ex g.T H H' → BookAt g H' a ⟨n, L, t, 1, rowF (turnRows n L t)⟩ → Q (.ref a) H'
theorem ok_Book_turning (g : Gx) (T : Blt g.mg) (Z : Fct g) (C_keys_of : Cal g.P g.w g.K g.mg g.base 3 "keys_of" ["net", "target", "marks"] (sp_keys_of g)) (C_at : CalM g.P g.w g.K g.mg g.base 1 g.nc "at" ["self", "node"] (sp_Net_at g)) (C_Book : CalK g.P g.w g.K g.mg g.base 5 g.bc "Book" ["self", "net", "target", "marks", "rows"] (sp_Book___init__ g))  {f : Addr} {fd : FuncData} (F : Fun g.K "turning" "Book.turning" s_Book_turning f fd) : FnOk g.P g.w g.K g.mg g.base CX0 7 f fd ["cls", "net", "target"] (sp_Book_turning g) := by
  refine F.ok sc_Book_turning (fun vs H Q E h => ?_) (fun cdv A outer s H vs Q E hr h => ?_)
  · first | (obtain ⟨rfl, _⟩ := h; rfl) | (obtain ⟨_, rfl, _⟩ := h; rfl) | (obtain ⟨_, _, rfl, _⟩ := h; rfl) | (obtain ⟨_, _, _, rfl, _⟩ := h; rfl) | (obtain ⟨_, _, _, _, rfl, _⟩ := h; rfl) | (obtain ⟨_, _, _, _, _, rfl, _⟩ := h; rfl) | (obtain ⟨_, _, _, _, _, _, rfl, _⟩ := h; rfl) | (obtain ⟨_, _, _, _, _, _, _, rfl, _⟩ := h; rfl) | (obtain ⟨_, _, _, _, _, _, _, _, rfl, _⟩ := h; rfl) | (obtain ⟨_, _, _, _, _, _, _, _, _, rfl, _⟩ := h; rfl) | (obtain ⟨_, _, _, _, _, _, _, _, _, _, rfl, _⟩ := h; rfl) | (obtain ⟨_, _, _, _, _, _, _, _, _, _, _, rfl, _⟩ := h; rfl) | (obtain ⟨_, _, _, _, _, _, _, _, _, _, _, _, rfl, _⟩ := h; rfl) | (obtain ⟨_, _, _, _, _, _, _, _, _, _, _, _, _, rfl, _⟩ := h; rfl)
  have hu := room_un hr
  obtain ⟨gr, n, t, L, rfl, hn, ht, kk⟩ := h
  refine ⟨_, (pss_cons (ps_set (i := 3) sc_Book_turning.nd rfl (Or.inl rfl) (pe_lst pa_nil))
      (pss_cons (ps_for PassesOwn.never rfl (iLW g (pe_cF C_keys_of (hr.mono (by decide)) rfl (pa_cons (pv 1) (pa_cons (pv 2) (pa_cons pe_int pa_nil))))) (gTW g (n := 3) rfl (pgs_cons (pg_name (i := 4) sc_Book_turning.nd rfl (Or.inl rfl)) (pgs_cons (pg_name (i := 5) sc_Book_turning.nd rfl (Or.inl rfl)) (pgs_cons (pg_name (i := 6) sc_Book_turning.nd rfl (Or.inl rfl)) pgs_nil)))) (pss_cons (ps_set (i := 7) sc_Book_turning.nd rfl (Or.inl rfl) (pe_callTy (listOfW g) (by rfl) T.b_list boot_t_list (pa_cons (pe_mF C_at (hr.mono (by decide)) (pv 1) (pa_cons (pv 4) pa_nil)) pa_nil)))
      (pss_cons (ps_if (pt_cmpR notNW (pv 5) pe_non (nomark _)) (pss_cons (ps_set (i := 8) sc_Book_turning.nd rfl (Or.inl rfl) (pe_op op_add (bmW g PySem.F.plainAttrs_list PySem.F.slot_list_index PySem.F.type_list_index (indexW g) (pv 7) (pa_cons (pv 5) pa_nil)) pe_int))
      (pss_one (ps_set (i := 7) sc_Book_turning.nd rfl (Or.inl rfl) (pe_op op_cat (pe_slice (slLW g) (pv 7) (po_some (pv 8)) po_none) (pe_slice (slLW g) (pv 7) po_none (po_some (pv 8))))))) pss_nil)
      (pss_one (ps_expr (bmW g PySem.F.plainAttrs_list PySem.F.slot_list_append PySem.F.type_list_append mt_append (pv 3) (pa_cons (pe_tup (pa_cons (pe_tup (pa_cons (pv 4) (pa_cons (pv 5) (pa_cons (pv 6) pa_nil)))) (pa_cons (pe_callTy (tupOfW g) (by rfl) T.b_tuple boot_t_tuple (pa_cons (pe_lc (own := [("link", 9)]) rfl sc_Book_turning.nd (iLW g (pv 7)) (blkOk_by rfl) (fun _ _ _ _ _ => pg_name (i := 9) sc_Book_turning.nd rfl (Or.inl rfl)) (fun _ _ _ _ _ => pts_nil) (fun _ _ _ _ _ => (pe_tup (pa_cons (pv 9) (pa_cons pe_int pa_nil))))) pa_nil)) pa_nil))) pa_nil)))))))
      (pss_one (ps_ret (pe_kL (i := 0) C_Book (hr.mono (by decide)) rfl (by first | exact .inl rfl | exact .inr (.inl rfl) | exact .inr (.inr rfl)) (pa_cons (pv 1) (pa_cons (pv 2) (pa_cons pe_int (pa_cons (pe_callTy (tupOfW g) (by rfl) T.b_tuple boot_t_tuple (pa_cons (pv 3) pa_nil)) pa_nil))))))))), ?_⟩
  have hnet := hn
  obtain ⟨⟨dx, p, xs, h1, h2, h3⟩, nok⟩ := hn
  have nf := nok.few
  have nh := nok.hi
  have hkl : (keysOf n L t 1).length ≤ 119 := by
    unfold keysOf
    have := keysTo_len (n := n) (t := t) nf (show 1 ≤ 2 by decide) (List.range n)
    rw [List.length_range] at this
    omega
  walk_at "go"
  refine ⟨Nat.zero_le _, fun d hd => ?_⟩
  have e0 : Ex g.T H (upd H d (.lst [])) := .new hd
  walk_at "go"
  refine ⟨gr, n, t, 1, L, rfl, e0.net hnet, by decide, fun ka H1 kys nk e1 hk hky => ?_⟩
  walk_at "go"
  refine ⟨ka, rfl, ⟨_, .of hk⟩, ?_⟩
  have hkyl : kys.length = (keysOf n L t 1).length := by rw [hky.len, List.length_map]
  refine forL (K := g.K) (xs := kys) (fun i σ H2 => Ex g.T H H2 ∧ H2 ka = some (.lst kys) ∧ TpAll g.K H2 kys ((keysOf n L t 1).map eK) ∧ (∃ ys, H2 d = some (.lst ys) ∧ TpAll g.K H2 ys (((turnRows n L t).take i).map eO)) ∧ d ≠ ka ∧ ∃ x4 x5 x6 x7 x8 x9, σ = [some (.ref g.bc), some (.ref gr), some (.int t), some (.ref d), x4, x5, x6, x7, x8, x9])
    ⟨e0.trans e1, hk, hky, ⟨[], e1.at upd_same, by rw [List.take_zero]; exact .nil⟩, fun z => ?_, _, _, _, _, _, _, rfl⟩ (fun i σ H2 p => .of p.2.1) (fun i x σ H2 hi p => ?_) (fun σ H2 p => ?_)
  · obtain ⟨ps, q⟩ := nk _ (by rw [← z]; exact upd_same)
    cases q
  · obtain ⟨e2, hk2, hky2, ⟨ys, d1, d2⟩, hne, x4, x5, x6, x7, x8, x9, rfl⟩ := p
    obtain ⟨k, hkm, hkx⟩ := hky2.src hi
    have hil : i < (keysOf n L t 1).length := (List.getElem?_eq_some_iff.mp hkm).1
    have kok := (mem_keysOf (Nat.le_refl 1)).mp (List.mem_of_getElem? hkm)
    obtain ⟨kc, rfl, hkc⟩ := tp_eK hkx
    refine st_g3 hkc ?_
    walk_at "go"
    refine ⟨gr, _, _, rfl, e2.at h1, rfl, ?_⟩
    walk_at "go"
    refine ⟨gr, n, k.1, L, rfl, e2.net hnet, fun r H3 e3 hr => ?_⟩
    walk_at "go"
    obtain ⟨rc, rs, rfl, hrc, hrs⟩ := tp_tup hr
    refine lstT hrc fun lk hlk => ?_
    have e4 : Ex g.T H3 (upd H3 lk (.lst rs)) := .new hlk
    have hrs4 := hrs.up (o := .lst rs) (noTup_none hlk)
    have hrsi := tpInts (l := (netAt L k.1).map fun n : Nat => (n : Int)) (by rw [List.map_map]; exact hrs)
    walk_at "go"
    obtain ⟨node, came, mark⟩ := k
    cases came with
    | none =>
      refine st_F rfl ?_
      walk_at "go"
      have E : Ex g.T H2 (upd H3 lk (.lst rs)) := e3.trans e4
      have hLK : (upd H3 lk (.lst rs)) lk = some (.lst rs) := upd_same
      have hLT : TpAll g.K (upd H3 lk (.lst rs)) rs ((turnL L (node, none, mark)).map eN) := hrs4
      generalize hkk0 : ((node, none, mark) : Ky) = k at *
      refine ⟨tyL (.of (E.at d1)), ?_⟩
      walk_at "go"
      refine ⟨szr rfl, fun q hq => ?_⟩
      walk_at "go"
      have e5 : Ex g.T (upd H3 lk (.lst rs)) (upd (upd H3 lk (.lst rs)) q (.tup [.int k.1, kx (k.2.1.map fun n : Nat => (n : Int)), .int k.2.2])) := .new hq
      refine ⟨lk, rfl, ⟨_, .of (e5.at hLK)⟩, ?_⟩
      refine lcL (T := g.T) (l := turnL L k) (enc := eN) (fun _ => true) (fun l => eP (l, 0)) (.of (e5.at hLK)) (e5.tps hLT) (by rw [(turnL_perm L k).length_eq]; have := netAt_len (L := L) (node := k.1); omega) (fun z x H5 hz e6 hx => ?_) fun q2 H5 zs nq e6 hq2 hzs => ?_
      · intro Yes No hY hN
        cases tp_int hx
        walk_at "go"
        exact ⟨szr rfl, fun q3 hq3 => hY rfl _ _ (.new hq3) (.tup (.of upd_same) (.cons (.int _) (.cons (.int _) .nil)))⟩
      · rw [List.filter_eq_self.mpr (fun _ _ => rfl)] at hzs
        walk_at "go"
        refine tupL (.of hq2) fun q3 hq3 => ?_
        walk_at "go"
        refine ⟨szr rfl, fun q4 hq4 => ?_⟩
        walk_at "go"
        have e7 : Ex g.T H2 (upd (upd H5 q3 (.tup zs)) q4 (.tup [.ref q, .ref q3])) := (E.trans (e5.trans e6)).trans ((Ex.new hq3).trans (.new hq4))
        have dd := e7.at d1
        have hyl : ys.length ≤ 119 := by
          rw [d2.len, List.length_map, List.length_take]
          have : (turnRows n L t).length = (keysOf n L t 1).length := by unfold turnRows; rw [List.length_map]
          omega
        refine appendL dd (by omega) ?_
        have nt : NoTup (upd (upd H5 q3 (.tup zs)) q4 (.tup [.ref q, .ref q3])) d := noTup_of dd
        have nd0 : New H d := .of hd
        refine ⟨(e2.trans e7).mut nd0 dd trivial, by rw [upd_ne (Ne.symm hne)]; exact e7.at hk2, (e7.tps hky2).up nt, ⟨_, upd_same, ?_⟩, hne, _, _, _, _, _, _, rfl⟩
        have hrow : (turnRows n L t)[i]? = some (k, (turnL L k).map fun l => (l, 0)) := by
          unfold turnRows
          rw [List.getElem?_map, hkm]; rfl
        rw [List.take_succ, hrow, Option.toList_some, List.map_append]
        refine ((e7.tps d2).up nt).app (.one (Tp.up ?_ nt))
        have e8 : Ex g.T (upd (upd H3 lk (.lst rs)) q (.tup [.int k.1, kx (k.2.1.map fun n : Nat => (n : Int)), .int k.2.2])) (upd (upd H5 q3 (.tup zs)) q4 (.tup [.ref q, .ref q3])) := e6.trans ((Ex.new hq3).trans (.new hq4))
        refine .tup (.of upd_same) (.cons (.tup (e8.st (.of upd_same)) (kxs_tp (ko k))) (.cons (.tup (.of (by rw [upd_ne (fun z => by rw [z, upd_same] at hq4; cases hq4)]; exact upd_same)) ?_) .nil))
        rw [List.map_map]
        exact (hzs.up (noTup_none hq3)).up (noTup_none hq4)
    | some c =>
      refine st_T rfl ?_
      walk_at "go"
      refine ⟨tyL (.of upd_same), ?_⟩
      have hcm := kok.some c rfl
      have hidx : (netAt L node)[(netAt L node).idxOf c]? = some c := by
        have hl := List.idxOf_lt_length_of_mem hcm
        rw [List.getElem?_eq_getElem hl, List.getElem_idxOf hl]
      walk_at "go"
      refine indexL (o := netAt L node) (c := c) (by rw [← hrsi]; exact .of upd_same) netAt_nodup hidx ?_
      walk_at "go"
      refine ⟨lk, rs, rfl, .of upd_same, fun p1 hp1 => ?_⟩
      walk_at "go"
      rw [show (((netAt L node).idxOf c : Nat) : Int) + 1 = (((netAt L node).idxOf c + 1 : Nat) : Int) by omega]
      rw [cut_from]
      refine ⟨lk, rs, rfl, .of ((Ex.new (T := g.T) hp1).at upd_same), fun p2 hp2 => ?_⟩
      rw [cut_to]
      have e5a : Ex g.T (upd H3 lk (.lst rs)) (upd (upd (upd H3 lk (.lst rs)) p1 (.lst (rs.drop ((netAt L node).idxOf c + 1)))) p2 (.lst (rs.take ((netAt L node).idxOf c + 1)))) := (Ex.new hp1).trans (.new hp2)
      refine catL (by rw [upd_ne (fun z => by rw [z, upd_same] at hp2; cases hp2)]; exact upd_same) upd_same ?_ fun LK hlk2 => ?_
      · have h7 : rs.length = (netAt L node).length := by rw [hrs.len, List.length_map]
        have h8 := netAt_len (L := L) (node := node)
        have h9 := nf
        rw [List.length_drop, List.length_take]
        generalize (netAt L node).idxOf c = ic
        omega
      walk_at "go"
      have E : Ex g.T H2 (upd (upd (upd (upd H3 lk (.lst rs)) p1 (.lst (rs.drop ((netAt L node).idxOf c + 1)))) p2 (.lst (rs.take ((netAt L node).idxOf c + 1)))) LK (.lst (rs.drop ((netAt L node).idxOf c + 1) ++ rs.take ((netAt L node).idxOf c + 1)))) := (e3.trans e4).trans (e5a.trans (.new hlk2))
      have hLT : TpAll g.K (upd (upd (upd (upd H3 lk (.lst rs)) p1 (.lst (rs.drop ((netAt L node).idxOf c + 1)))) p2 (.lst (rs.take ((netAt L node).idxOf c + 1)))) LK (.lst (rs.drop ((netAt L node).idxOf c + 1) ++ rs.take ((netAt L node).idxOf c + 1)))) (rs.drop ((netAt L node).idxOf c + 1) ++ rs.take ((netAt L node).idxOf c + 1)) ((turnL L (node, some c, mark)).map eN) := by
        have h9 := (e5a.trans (.new hlk2)).tps hrs4 (H' := (upd (upd (upd (upd H3 lk (.lst rs)) p1 (.lst (rs.drop ((netAt L node).idxOf c + 1)))) p2 (.lst (rs.take ((netAt L node).idxOf c + 1)))) LK (.lst (rs.drop ((netAt L node).idxOf c + 1) ++ rs.take ((netAt L node).idxOf c + 1)))))
        unfold turnL
        rw [List.map_append, List.map_drop, List.map_take]
        exact (h9.drop _).app (h9.take _)
      have hLK : (upd (upd (upd (upd H3 lk (.lst rs)) p1 (.lst (rs.drop ((netAt L node).idxOf c + 1)))) p2 (.lst (rs.take ((netAt L node).idxOf c + 1)))) LK (.lst (rs.drop ((netAt L node).idxOf c + 1) ++ rs.take ((netAt L node).idxOf c + 1)))) LK = some (.lst (rs.drop ((netAt L node).idxOf c + 1) ++ rs.take ((netAt L node).idxOf c + 1))) := upd_same
      generalize (upd (upd (upd (upd H3 lk (.lst rs)) p1 (.lst (rs.drop ((netAt L node).idxOf c + 1)))) p2 (.lst (rs.take ((netAt L node).idxOf c + 1)))) LK (.lst (rs.drop ((netAt L node).idxOf c + 1) ++ rs.take ((netAt L node).idxOf c + 1)))) = HX at E hLT hLK
      generalize hkk0 : ((node, some c, mark) : Ky) = k at *
      refine ⟨tyL (.of (E.at d1)), ?_⟩
      walk_at "go"
      refine ⟨szr rfl, fun q hq => ?_⟩
      walk_at "go"
      have e5 : Ex g.T HX (upd HX q (.tup [.int k.1, kx (k.2.1.map fun n : Nat => (n : Int)), .int k.2.2])) := .new hq
      refine ⟨LK, rfl, ⟨_, .of (e5.at hLK)⟩, ?_⟩
      refine lcL (T := g.T) (l := turnL L k) (enc := eN) (fun _ => true) (fun l => eP (l, 0)) (.of (e5.at hLK)) (e5.tps hLT) (by rw [(turnL_perm L k).length_eq]; have := netAt_len (L := L) (node := k.1); omega) (fun z x H5 hz e6 hx => ?_) fun q2 H5 zs nq e6 hq2 hzs => ?_
      · intro Yes No hY hN
        cases tp_int hx
        walk_at "go"
        exact ⟨szr rfl, fun q3 hq3 => hY rfl _ _ (.new hq3) (.tup (.of upd_same) (.cons (.int _) (.cons (.int _) .nil)))⟩
      · rw [List.filter_eq_self.mpr (fun _ _ => rfl)] at hzs
        walk_at "go"
        refine tupL (.of hq2) fun q3 hq3 => ?_
        walk_at "go"
        refine ⟨szr rfl, fun q4 hq4 => ?_⟩
        walk_at "go"
        have e7 : Ex g.T H2 (upd (upd H5 q3 (.tup zs)) q4 (.tup [.ref q, .ref q3])) := (E.trans (e5.trans e6)).trans ((Ex.new hq3).trans (.new hq4))
        have dd := e7.at d1
        have hyl : ys.length ≤ 119 := by
          rw [d2.len, List.length_map, List.length_take]
          have : (turnRows n L t).length = (keysOf n L t 1).length := by unfold turnRows; rw [List.length_map]
          omega
        refine appendL dd (by omega) ?_
        have nt : NoTup (upd (upd H5 q3 (.tup zs)) q4 (.tup [.ref q, .ref q3])) d := noTup_of dd
        have nd0 : New H d := .of hd
        refine ⟨(e2.trans e7).mut nd0 dd trivial, by rw [upd_ne (Ne.symm hne)]; exact e7.at hk2, (e7.tps hky2).up nt, ⟨_, upd_same, ?_⟩, hne, _, _, _, _, _, _, rfl⟩
        have hrow : (turnRows n L t)[i]? = some (k, (turnL L k).map fun l => (l, 0)) := by
          unfold turnRows
          rw [List.getElem?_map, hkm]; rfl
        rw [List.take_succ, hrow, Option.toList_some, List.map_append]
        refine ((e7.tps d2).up nt).app (.one (Tp.up ?_ nt))
        have e8 : Ex g.T (upd HX q (.tup [.int k.1, kx (k.2.1.map fun n : Nat => (n : Int)), .int k.2.2])) (upd (upd H5 q3 (.tup zs)) q4 (.tup [.ref q, .ref q3])) := e6.trans ((Ex.new hq3).trans (.new hq4))
        refine .tup (.of upd_same) (.cons (.tup (e8.st (.of upd_same)) (kxs_tp (ko k))) (.cons (.tup (.of (by rw [upd_ne (fun z => by rw [z, upd_same] at hq4; cases hq4)]; exact upd_same)) ?_) .nil))
        rw [List.map_map]
        exact (hzs.up (noTup_none hq3)).up (noTup_none hq4)
  · obtain ⟨e2, hk2, hky2, ⟨ys, d1, d2⟩, hne, x4, x5, x6, x7, x8, x9, rfl⟩ := p
    have hrl : (turnRows n L t).length = kys.length := by unfold turnRows; rw [List.length_map, hkyl]
    rw [← hrl, List.take_length] at d2
    walk_at "go"
    refine ⟨rfl, ?_⟩
    walk_at "go"
    refine tupL (.of d1) fun q hq => ?_
    walk_at "go"
    intro x dx2 hx2 hdx hne2
    have e3 : Ex g.T H (upd H2 q (.tup ys)) := e2.trans (.new hq)
    have e4 : Ex g.T (upd H2 q (.tup ys)) (upd (upd (upd H2 q (.tup ys)) dx2 (.own x)) x (.ins g.bc dx2 [])) := (Ex.new hdx).trans (.new (by rw [upd_ne (Ne.symm hne2)]; exact hx2))
    refine ⟨x, gr, _, n, t, 1, L, turnRows n L t, rfl, ⟨dx2, upd_same⟩, (e3.trans e4).net hnet, e4.tp (.tup (.of upd_same) (d2.up (noTup_none hq))), ⟨ht, by decide, by decide⟩, turn_ok nok, fun H7 b7 hb7 => ⟨rfl, ?_⟩⟩
    exact kk x H7 (e3.trans (ExB.made hx2 hdx hne2 b7)) hb7
end Sp
end
section
set_option Elab.async false
set_option linter.all false
set_option maxRecDepth 100000
set_option maxHeartbeats 4000000
set_option autoImplicit false
local macro_rules | `(tactic| walk_at "go") => `(tactic| repeat first
  | (with_reducible first
     | refine Sp.st_var rfl ?_ | refine Sp.st_c ?_ | refine Sp.st_op ?_ | refine Sp.st_seq ?_ | refine Sp.st_asg ?_ | refine Sp.st_name ?_
     | refine Sp.st_ret ?_ | refine Sp.st_drop ?_ | refine Sp.st_next ?_ | refine Sp.st_if ?_ | refine Sp.st_nx ?_ | refine Sp.st_rt ?_
     | refine Sp.st_cons ?_ | refine Sp.st_nil ?_ | refine Sp.st_cb ?_ | refine Sp.st_call ?_ | refine Sp.st_test ?_ | refine Sp.st_B ?_
     | refine Sp.st_not ?_ | refine Sp.st_and ?_ | refine Sp.st_or ?_ | refine Sp.st_andV ?_ | refine Sp.st_orV ?_ | refine Sp.st_notV ?_
     | refine Sp.st_tif ?_ | refine Sp.st_tup ?_ | refine Sp.st_lst ?_ | refine Sp.st_blx ?_ | refine Sp.st_I0 ?_ | refine Sp.st_U ?_
     | refine Sp.st_eqI ?_ | refine Sp.st_neI ?_ | refine Sp.st_chain ?_ | refine Sp.isiI ?_ | refine Sp.isiB ?_ | refine Sp.isiS ?_
     | refine Sp.st_T rfl ?_ | refine Sp.st_F rfl ?_ | refine Sp.st_lc ?_ | refine Sp.st_iT ?_ | refine Sp.st_iL ?_ | refine Sp.st_iR1 ?_
     | refine Sp.st_iR2 ?_ | refine Sp.st_iET ?_ | refine Sp.st_iZA ?_ | refine Sp.st_iZLT ?_ | refine Sp.st_for ?_ | refine Sp.st_fld ?_
     | refine Sp.st_sfld ?_ | refine Sp.st_prop ?_ | refine Sp.st_meth ?_ | refine Sp.st_make ?_ | refine Sp.st_isN ?_ | refine Sp.st_yes ?_
     | refine Sp.isNI ?_ | refine Sp.notNI ?_ | refine Sp.int1I ?_ | refine Sp.int1B ?_ | refine Sp.min2I ?_ | refine Sp.max2I ?_
     | refine Sp.st_dputN ?_ | refine Sp.st_dgetN ?_ | refine Sp.st_revL ?_ | refine Sp.st_din ?_ | refine Sp.st_dnin ?_ | refine Sp.st_dget ?_ | refine Sp.st_dput ?_ | refine Sp.st_dc ?_ | refine Sp.st_dcN ?_
     | refine Sp.st_sortLam ?_ | refine Sp.st_lc2 ?_ | refine Sp.st_un ?_ | refine Sp.st_lenSet ?_ | refine Sp.st_bm ?_ | refine Sp.st_lenO ?_ | refine Sp.st_sl ?_ | refine Sp.st_part ?_ | refine Sp.st_nopart ?_ | refine Sp.st_intx ?_)
  | ((with_reducible refine Sp.st_wp ?_ ?_); (focus rfl)))
namespace Sp
open PySem PySem.Spec L2

/-! ### walks -/
def nextF (B : Bk) (k : Ky) (out : List Nat) : Option Ky := ((B.F k).find? fun p => decide (p.1 ∉ out)).map fun p => (netFar B.L p.1 k.1, some p.1, p.2)
def eKo : Option Ky → D
  | none => .none
  | some k => eK k
inductive Fate where
  | home
  | lost
  | round
  deriving DecidableEq
def Fate.str : Fate → Str
  | .home => "home"
  | .lost => "lost"
  | .round => "round"
/-- the walk: the stops so far, the last of them -/
def walkG (B : Bk) (out : List Nat) : Nat → List Ky → Ky → List Ky × Fate
  | 0, found, _ => (found, .lost)
  | f + 1, found, last => if last.1 = B.t then (found, .home) else match nextF B last out with
    | none => (found, .lost)
    | some k => if k ∈ found then (found ++ [k], .round) else walkG B out f (found ++ [k]) k
def walkF (B : Bk) (start : Nat) (out : List Nat) : List Ky × Fate := walkG B out 200 [(start, none, 0)] (start, none, 0)
theorem nd1 {α : Type} (a : α) : [a].Nodup := by simp
/-- keys that a walk may come to -/
structure KBd (n : Nat) (k : Ky) : Prop where
  node : k.1 < n
  came : ∀ c, k.2.1 = some c → c < 8
  mark : k.2.2 < 2
def codeK (k : Ky) : Nat := (k.1 * 9 + (match k.2.1 with | none => 0 | some c => c + 1)) * 2 + k.2.2
theorem codeK_lt {n : Nat} {k : Ky} (hn : n ≤ 7) (h : KBd n k) : codeK k < 126 := by
  obtain ⟨node, came, mark⟩ := k
  have h1 : node < n := h.node
  have h3 : mark < 2 := h.mark
  cases came with
  | none => simp only [codeK]; omega
  | some c =>
    have h2 : c < 8 := h.came c rfl
    simp only [codeK]; omega
theorem codeK_inj {n : Nat} {a b : Ky} (ha : KBd n a) (hb : KBd n b) (e : codeK a = codeK b) : a = b := by
  obtain ⟨a1, a2, a3⟩ := a
  obtain ⟨b1, b2, b3⟩ := b
  have h3 : a3 < 2 := ha.mark
  have h3' : b3 < 2 := hb.mark
  cases a2 with
  | none =>
    cases b2 with
    | none =>
      simp only [codeK] at e
      have : a1 = b1 := by omega
      have : a3 = b3 := by omega
      subst_vars; rfl
    | some c =>
      have h2 : c < 8 := hb.came c rfl
      simp only [codeK] at e
      omega
  | some d =>
    have h2 : d < 8 := ha.came d rfl
    cases b2 with
    | none =>
      simp only [codeK] at e
      omega
    | some c =>
      have h2 : c < 8 := hb.came c rfl
      simp only [codeK] at e
      have : a1 = b1 := by omega
      have : d = c := by omega
      have : a3 = b3 := by omega
      subst_vars; rfl
theorem kbd_len {n : Nat} {l : List Ky} (hn : n ≤ 7) (hb : ∀ k ∈ l, KBd n k) (nd : l.Nodup) : l.length ≤ 126 := by
  have h1 : (l.map codeK).Nodup := by
    induction l with
    | nil => exact List.nodup_nil
    | cons x l ih =>
      rw [List.nodup_cons] at nd
      rw [List.map_cons, List.nodup_cons]
      refine ⟨fun hm => ?_, ih (fun k hk => hb k (List.mem_cons_of_mem _ hk)) nd.2⟩
      obtain ⟨y, hy, e⟩ := List.mem_map.mp hm
      rw [codeK_inj (hb y (List.mem_cons_of_mem _ hy)) (hb x List.mem_cons_self) e] at hy
      exact nd.1 hy
  have h2 := nodup_len (b := List.range 126) h1 fun x hx => by
    obtain ⟨y, hy, rfl⟩ := List.mem_map.mp hx
    exact List.mem_range.mpr (codeK_lt hn (hb y hy))
  rw [List.length_map, List.length_range] at h2
  exact h2
theorem far_lt {n : Nat} {L : List (Nat × Nat)} {i node : Nat} (ok : NetOk n L) (hi : i < L.length) : netFar L i node < n := by
  unfold netFar
  rw [List.getElem?_eq_getElem hi]
  have := ok.link L[i] (List.getElem_mem hi)
  dsimp only
  split <;> omega
theorem next_bd {B : Bk} (ok : BkOk B) {k k' : Ky} {out : List Nat} (h : nextF B k out = some k') : KBd B.n k' := by
  unfold nextF at h
  obtain ⟨p, hp, rfl⟩ := Option.map_eq_some_iff.mp h
  have hm := List.mem_of_find?_eq_some hp
  have hne : B.F k ≠ [] := fun e => by rw [e] at hm; cases hm
  have hr := (ok.row k hne).link p hm
  have hl := netAt_lt hr.1
  have := ok.net.few
  have := ok.w2
  refine ⟨far_lt ok.net hl, fun c e => ?_, by show p.2 < 2; omega⟩
  cases e
  omega
-- next_stop: slots book 0, stop 1, outage 2, link 3, mark 4; cells []
abbrev s_next_stop : Stmt := top 23
abbrev N_next_stop : List Str := ["book", "stop", "outage", "link", "mark"]
theorem sc_next_stop : FnScope N_next_stop ["book", "stop", "outage"] (defScope s_next_stop) := ⟨rfl, rfl, rfl, by decide +kernel, rfl, by decide +kernel, by decide +kernel⟩
def sp_next_stop (g : Gx) : Sp := fun vs H Q _ => ∃ a s o B k, ∃ out : List Nat, vs = [.ref a, s, o] ∧ BookAt g H a B ∧ Tp g.K H s (eK k) ∧ Tp g.K H o (ot out) ∧ ∀ r H', Ex g.T H H' → Tp g.K H' r (eKo (nextF B k out)) → Q r H'
theorem ok_next_stop (g : Gx) (T : Blt g.mg) (Z : Fct g) (C_row_at : CalM g.P g.w g.K g.mg g.base 1 g.bc "row_at" ["self", "key"] (sp_Book_row_at g)) (C_far : CalM g.P g.w g.K g.mg g.base 1 g.nc "far" ["self", "link", "node"] (sp_Net_far g)) (C_net : CalP g.P g.w g.K g.mg g.base 1 g.bc "net" (sp_Book_net g))  {f : Addr} {fd : FuncData} (F : Fun g.K "next_stop" "next_stop" s_next_stop f fd) : FnOk g.P g.w g.K g.mg g.base CX0 3 f fd ["book", "stop", "outage"] (sp_next_stop g) := by
  refine F.ok sc_next_stop (fun vs H Q E h => ?_) (fun cdv A outer s H vs Q E hr h => ?_)
  · first | (obtain ⟨rfl, _⟩ := h; rfl) | (obtain ⟨_, rfl, _⟩ := h; rfl) | (obtain ⟨_, _, rfl, _⟩ := h; rfl) | (obtain ⟨_, _, _, rfl, _⟩ := h; rfl) | (obtain ⟨_, _, _, _, rfl, _⟩ := h; rfl) | (obtain ⟨_, _, _, _, _, rfl, _⟩ := h; rfl) | (obtain ⟨_, _, _, _, _, _, rfl, _⟩ := h; rfl) | (obtain ⟨_, _, _, _, _, _, _, rfl, _⟩ := h; rfl) | (obtain ⟨_, _, _, _, _, _, _, _, rfl, _⟩ := h; rfl) | (obtain ⟨_, _, _, _, _, _, _, _, _, rfl, _⟩ := h; rfl) | (obtain ⟨_, _, _, _, _, _, _, _, _, _, rfl, _⟩ := h; rfl) | (obtain ⟨_, _, _, _, _, _, _, _, _, _, _, rfl, _⟩ := h; rfl) | (obtain ⟨_, _, _, _, _, _, _, _, _, _, _, _, rfl, _⟩ := h; rfl) | (obtain ⟨_, _, _, _, _, _, _, _, _, _, _, _, _, rfl, _⟩ := h; rfl)
  have hu := room_un hr
  obtain ⟨a, s, o, B, k, out, rfl, hB, hs, ho, kk⟩ := h
  refine ⟨_, (pss_cons (ps_for PassesOwn.never rfl (iTW g (pe_mF C_row_at (hr.mono (by decide)) (pv 0) (pa_cons (pv 1) pa_nil))) (gTW g (n := 2) rfl (pgs_cons (pg_name (i := 3) sc_next_stop.nd rfl (Or.inl rfl)) (pgs_cons (pg_name (i := 4) sc_next_stop.nd rfl (Or.inl rfl)) pgs_nil))) (pss_one (ps_if (pt_cmpR (ninTW g hu) (pv 3) (pv 2) rfl) (pss_one (ps_ret (pe_tup (pa_cons (pe_mF C_far (hr.mono (by decide)) (pe_pF C_net (hr.mono (by decide)) (pv 0) rfl) (pa_cons (pv 3) (pa_cons (pe_ix (ixW g) (pv 1) pe_int (fun _ _ => rfl)) pa_nil))) (pa_cons (pv 3) (pa_cons (pv 4) pa_nil)))))) pss_nil)))
      (pss_one (ps_ret pe_non))), ?_⟩
  have hBook := hB
  obtain ⟨⟨dx, gr, d, l, kvs, h1, h2, h3, h4⟩, ok⟩ := hB
  walk_at "go"
  refine ⟨a, _, _, rfl, h1, rfl, ?_⟩
  walk_at "go"
  refine ⟨a, s, B, k, rfl, hBook, hs, fun r H1 e1 hr => ?_⟩
  walk_at "go"
  obtain ⟨b, xs, rfl, hb, hx⟩ := tp_tup hr
  refine ⟨b, rfl, ⟨_, hb⟩, ?_⟩
  obtain ⟨sc, rfl, hsc⟩ := tp_eK hs
  refine forT (K := g.K) (xs := xs) (fun i σ H2 => Ex g.T H1 H2 ∧ (∀ p ∈ (B.F k).take i, ¬ p.1 ∉ out) ∧ ∃ x3 x4, σ = [some (.ref a), some (.ref sc), some o, x3, x4]) ⟨.refl _, by simp, _, _, rfl⟩ (fun i σ H2 p => p.1.st hb) (fun i x σ H2 hi p => ?_) (fun σ H2 p => ?_)
  · obtain ⟨e2, hall, x3, x4, rfl⟩ := p
    obtain ⟨z, hz, hxz⟩ := hx.src hi
    have hzm := List.mem_of_getElem? hz
    have hne : B.F k ≠ [] := fun e => by rw [e] at hzm; cases hzm
    have hrow := (ok.row k hne).link z hzm
    obtain ⟨c, cs, rfl, hc, hcs⟩ := tp_tup (e2.tp hxz)
    have hcc := tpInts (l := [(z.1 : Int), (z.2 : Int)]) hcs
    subst hcc
    have e12 := e1.trans e2
    refine st_g2 hc ?_
    walk_at "go"
    refine ⟨_, _, .int _, (e12.tp ho).dp, rfl, shp1 (ot_pur _) (ot_depth _) (by decide), ?_⟩
    refine st_blx ?_
    by_cases hm : z.1 ∈ out
    · have h0 := any_in (f := eN) (a := z.1) rfl hm
      refine st_F (by rw [h0]; rfl) ?_
      walk_at "go"
      refine ⟨e2, fun p hp => ?_, _, _, rfl⟩
      rw [List.take_succ, hz, Option.toList_some] at hp
      rcases List.mem_append.mp hp with hp | hp
      · exact hall p hp
      · rw [List.mem_singleton.mp hp]
        exact fun h => h hm
    · have h0 := any_nin (f := eN) eN_pur eN_inj hm
      refine st_T (by rw [h0]; rfl) ?_
      walk_at "go"
      refine ⟨a, _, _, rfl, e12.at h1, a, B, rfl, e12.book hBook, fun gr2 hg2 => ?_⟩
      walk_at "go"
      obtain ⟨dx2, p2, ys2, q1, _⟩ := hg2.ex
      refine ⟨gr2, _, _, rfl, q1, rfl, ?_⟩
      walk_at "go"
      refine st_ixT (e12.st hsc) rfl ?_
      walk_at "go"
      refine ⟨gr2, B.n, z.1, k.1, B.L, rfl, hg2, netAt_lt hrow.1, ?_⟩
      walk_at "go"
      refine ⟨szr rfl, fun q hq => ?_⟩
      walk_at "go"
      have hf : (B.F k).find? (fun p => decide (p.1 ∉ out)) = some z := by
        rw [List.find?_eq_some_iff_getElem]
        obtain ⟨hl, he⟩ := List.getElem?_eq_some_iff.mp hz
        refine ⟨decide_eq_true hm, i, hl, he, fun j hj => ?_⟩
        have := hall ((B.F k)[j]) (List.mem_take_iff_getElem.mpr ⟨j, by omega, rfl⟩)
        simp [Decidable.not_not.mp this]
      refine kk _ _ (e12.trans (.new hq)) ?_
      unfold nextF
      rw [hf]
      exact .tup (.of upd_same) (kxs_tp (ko (netFar B.L z.1 k.1, some z.1, z.2)))
  · obtain ⟨e2, hall, x3, x4, rfl⟩ := p
    walk_at "go"
    refine kk _ _ (e1.trans e2) ?_
    have hlen : xs.length = (B.F k).length := by rw [hx.len, List.length_map]
    rw [hlen, List.take_length] at hall
    have hf : (B.F k).find? (fun p => decide (p.1 ∉ out)) = none := by
      rw [List.find?_eq_none]
      intro p hp
      have := hall p hp
      simpa using Decidable.not_not.mp this
    unfold nextF
    rw [hf]
    exact .non
-- walked: slots book 0, start 1, outage 2, found 3, stop 4; cells []
abbrev s_walked : Stmt := top 24
abbrev N_walked : List Str := ["book", "start", "outage", "found", "stop"]
theorem sc_walked : FnScope N_walked ["book", "start", "outage"] (defScope s_walked) := ⟨rfl, rfl, rfl, by decide +kernel, rfl, by decide +kernel, by decide +kernel⟩
def eW (r : List Ky × Fate) : D := .tuple [.tuple (r.1.map eK), .str r.2.str]
def sp_walked (g : Gx) : Sp := fun vs H Q _ => ∃ a o B, ∃ start : Nat, ∃ out : List Nat, vs = [.ref a, .int start, o] ∧ BookAt g H a B ∧ start < B.n ∧ Tp g.K H o (ot out) ∧ ∀ r H', Ex g.T H H' → Tp g.K H' r (eW (walkF B start out)) → Q r H'
theorem ok_walked (g : Gx) (T : Blt g.mg) (Z : Fct g) (C_target : CalP g.P g.w g.K g.mg g.base 1 g.bc "target" (sp_Book_target g)) (C_next_stop : Cal g.P g.w g.K g.mg g.base 3 "next_stop" ["book", "stop", "outage"] (sp_next_stop g))  {f : Addr} {fd : FuncData} (F : Fun g.K "walked" "walked" s_walked f fd) : FnOk g.P g.w g.K g.mg g.base CX0 4 f fd ["book", "start", "outage"] (sp_walked g) := by
  refine F.ok sc_walked (fun vs H Q E h => ?_) (fun cdv A outer s H vs Q E hr h => ?_)
  · first | (obtain ⟨rfl, _⟩ := h; rfl) | (obtain ⟨_, rfl, _⟩ := h; rfl) | (obtain ⟨_, _, rfl, _⟩ := h; rfl) | (obtain ⟨_, _, _, rfl, _⟩ := h; rfl) | (obtain ⟨_, _, _, _, rfl, _⟩ := h; rfl) | (obtain ⟨_, _, _, _, _, rfl, _⟩ := h; rfl) | (obtain ⟨_, _, _, _, _, _, rfl, _⟩ := h; rfl) | (obtain ⟨_, _, _, _, _, _, _, rfl, _⟩ := h; rfl) | (obtain ⟨_, _, _, _, _, _, _, _, rfl, _⟩ := h; rfl) | (obtain ⟨_, _, _, _, _, _, _, _, _, rfl, _⟩ := h; rfl) | (obtain ⟨_, _, _, _, _, _, _, _, _, _, rfl, _⟩ := h; rfl) | (obtain ⟨_, _, _, _, _, _, _, _, _, _, _, rfl, _⟩ := h; rfl) | (obtain ⟨_, _, _, _, _, _, _, _, _, _, _, _, rfl, _⟩ := h; rfl) | (obtain ⟨_, _, _, _, _, _, _, _, _, _, _, _, _, rfl, _⟩ := h; rfl)
  have hu := room_un hr
  obtain ⟨a, o, B, start, out, rfl, hB, hst, ho, kk⟩ := h
  refine ⟨_, (pss_cons (ps_set (i := 3) sc_walked.nd rfl (Or.inl rfl) (pe_lst (pa_cons (pe_tup (pa_cons (pv 1) (pa_cons pe_non (pa_cons pe_int pa_nil)))) pa_nil)))
      (pss_cons (ps_while PassesOwn.never (pt_cmpR op_ne (pe_ix (ixW g) (pe_ix (ixW g) (pv 3) (pe_un un_neg pe_int) (fun _ _ => rfl)) pe_int (fun _ _ => rfl)) (pe_pF C_target (hr.mono (by decide)) (pv 0) rfl) (nomark _)) (pss_cons (ps_set (i := 4) sc_walked.nd rfl (Or.inl rfl) (pe_cF C_next_stop (hr.mono (by decide)) rfl (pa_cons (pv 0) (pa_cons (pe_ix (ixW g) (pv 3) (pe_un un_neg pe_int) (fun _ _ => rfl)) (pa_cons (pv 2) pa_nil)))))
      (pss_cons (ps_if (pt_cmpR isNW (pv 4) pe_non (nomark _)) (pss_one (ps_ret (pe_tup (pa_cons (pe_callTy (tupOfW g) (by rfl) T.b_tuple boot_t_tuple (pa_cons (pv 3) pa_nil)) (pa_cons pe_str pa_nil))))) pss_nil)
      (pss_cons (ps_expr (bmW g PySem.F.plainAttrs_list PySem.F.slot_list_append PySem.F.type_list_append mt_append (pv 3) (pa_cons (pv 4) pa_nil)))
      (pss_one (ps_if (pt_cmpR (inDW g hu) (pv 4) (pe_slice (slLW g) (pv 3) po_none (po_some (pe_un un_neg pe_int))) rfl) (pss_one (ps_ret (pe_tup (pa_cons (pe_callTy (tupOfW g) (by rfl) T.b_tuple boot_t_tuple (pa_cons (pv 3) pa_nil)) (pa_cons pe_str pa_nil))))) pss_nil))))))
      (pss_one (ps_ret (pe_tup (pa_cons (pe_callTy (tupOfW g) (by rfl) T.b_tuple boot_t_tuple (pa_cons (pv 3) pa_nil)) (pa_cons pe_str pa_nil))))))), ?_⟩
  have hBook := hB
  obtain ⟨⟨dx, gr, d0, l, kvs, h1, h2, h3, h4⟩, ok⟩ := hB
  have nh := ok.net.hi
  walk_at "go"
  refine ⟨szr rfl, fun q hq => ?_⟩
  walk_at "go"
  refine ⟨szr rfl, fun d hd => ?_⟩
  walk_at "go"
  have e0 : Ex g.T H (upd (upd H q (.tup [.int start, .non, .int 0])) d (.lst [.ref q])) := (Ex.new hq).trans (.new hd)
  have hdH : H d = none := by
    by_cases z : d = q
    · rw [z]; exact hq
    · rw [upd_ne z] at hd; exact hd
  refine ⟨fun m σ H1 => Ex g.T H H1 ∧ ∃ fd last ys x4, σ = [some (.ref a), some (.int start), some o, some (.ref d), x4] ∧ H1 d = some (.lst ys) ∧ TpAll g.K H1 ys ((fd ++ [last]).map eK) ∧ (fd ++ [last]).Nodup ∧ (∀ k ∈ fd ++ [last], KBd B.n k) ∧ 128 ≤ m + (fd ++ [last]).length ∧ walkG B out m (fd ++ [last]) last = walkF B start out,
    ⟨200, e0, [], (start, none, 0), [.ref q], none, rfl, upd_same, .cons (.tup (.of (by rw [upd_ne (fun z => by rw [z, upd_same] at hd; cases hd)]; exact upd_same)) (kxs_tp (ko (start, none, 0)))) .nil, nd1 _, fun k hk => ?_, by simp only [List.nil_append, List.length_singleton]; decide, rfl⟩, ?_⟩
  · rw [List.nil_append, List.mem_singleton] at hk
    subst hk
    exact ⟨hst, fun c z => (nomatch z), Nat.succ_pos 1⟩
  rintro m σ H1 ⟨e1, fd, last, ys, x4, rfl, hd1, hy, hnd, hbd, hm, hw⟩
  have hlen := kbd_len nh hbd hnd
  obtain ⟨m, rfl⟩ : ∃ m', m = m' + 1 := ⟨m - 1, by omega⟩
  have hyl : ys.length = (fd ++ [last]).length := by rw [hy.len, List.length_map]
  rw [List.length_append, List.length_singleton] at hyl hlen hm
  obtain ⟨y, hyl2, hky⟩ := hy.get (i := fd.length) (d := eK last) (by rw [List.getElem?_map, List.getElem?_append_right (Nat.le_refl _), Nat.sub_self]; rfl)
  have hylast : atI ys (-1) = some y := by
    have : ys = ys.take fd.length ++ [y] := by
      obtain ⟨h5, h6⟩ := List.getElem?_eq_some_iff.mp hyl2
      rw [← h6, ← List.take_succ_eq_append_getElem h5, List.take_of_length_le (by omega)]
    rw [this]
    exact atI_last _ _
  obtain ⟨lc, rfl, hlc⟩ := tp_eK hky
  walk_at "go"
  refine st_ixL (.of hd1) hylast ?_
  refine st_ixT hlc rfl ?_
  walk_at "go"
  refine ⟨a, _, _, rfl, e1.at h1, a, B, rfl, e1.book hBook, ?_⟩
  walk_at "go"
  rw [walkG] at hw
  by_cases hhome : last.1 = B.t
  · rw [if_pos hhome] at hw
    refine st_F (by rw [decide_eq_true (by omega)]; rfl) ?_
    walk_at "go"
    refine tupL (.of hd1) fun q2 hq2 => ?_
    walk_at "go"
    refine ⟨szr rfl, fun q3 hq3 => ?_⟩
    walk_at "go"
    refine kk _ _ (e1.trans ((Ex.new hq2).trans (.new hq3))) ?_
    rw [← hw]
    exact .tup (.of upd_same) (.cons (.tup (.of (by rw [upd_ne (fun z => by rw [z, upd_same] at hq3; cases hq3)]; exact upd_same)) ((hy.up (noTup_none hq2)).up (noTup_none hq3))) (.cons (.str _) .nil))
  · rw [if_neg hhome] at hw
    refine st_T (by rw [decide_eq_false (by omega)]; rfl) ?_
    refine ⟨fun σ' H' => ∃ m', m' < m + 1 ∧ Ex g.T H H' ∧ ∃ fd last ys x4, σ' = [some (.ref a), some (.int start), some o, some (.ref d), x4] ∧ H' d = some (.lst ys) ∧ TpAll g.K H' ys ((fd ++ [last]).map eK) ∧ (fd ++ [last]).Nodup ∧ (∀ k ∈ fd ++ [last], KBd B.n k) ∧ 128 ≤ m' + (fd ++ [last]).length ∧ walkG B out m' (fd ++ [last]) last = walkF B start out, fun σ' H' h => h, ?_⟩
    walk_at "go"
    refine st_ixL (.of hd1) hylast ?_
    walk_at "go"
    refine ⟨a, _, o, B, last, out, rfl, e1.book hBook, hky, e1.tp ho, fun r H2 e2 hr => ?_⟩
    walk_at "go"
    have hd2 := e2.at hd1
    cases hnx : nextF B last out with
    | none =>
      rw [hnx] at hw hr
      have hrn := tp_non hr
      subst hrn
      refine st_T rfl ?_
      walk_at "go"
      refine tupL (.of hd2) fun q2 hq2 => ?_
      walk_at "go"
      refine ⟨szr rfl, fun q3 hq3 => ?_⟩
      walk_at "go"
      refine kk _ _ ((e1.trans e2).trans ((Ex.new hq2).trans (.new hq3))) ?_
      rw [← hw]
      exact .tup (.of upd_same) (.cons (.tup (.of (by rw [upd_ne (fun z => by rw [z, upd_same] at hq3; cases hq3)]; exact upd_same)) (((e2.tps hy).up (noTup_none hq2)).up (noTup_none hq3))) (.cons (.str _) .nil))
    | some k =>
      rw [hnx] at hw hr
      dsimp only at hw
      obtain ⟨kc, rfl, hkc⟩ := tp_eK hr
      refine st_F rfl ?_
      walk_at "go"
      refine ⟨tyL (.of hd2), ?_⟩
      walk_at "go"
      refine appendL hd2 (by omega) ?_
      have nt : NoTup H2 d := noTup_of hd2
      have e3 : Ex g.T H (upd H2 d (.lst (ys ++ [.ref kc]))) := (e1.trans e2).mut (.of hdH) hd2 trivial
      have hy3 : TpAll g.K (upd H2 d (.lst (ys ++ [.ref kc]))) (ys ++ [.ref kc]) (((fd ++ [last]) ++ [k]).map eK) := by
        rw [List.map_append]
        exact ((e2.tps hy).up nt).app (.one (Tp.up hr nt))
      have hd3 : (upd H2 d (.lst (ys ++ [.ref kc]))) d = some (.lst (ys ++ [.ref kc])) := upd_same
      have hk3 : Tp g.K (upd H2 d (.lst (ys ++ [.ref kc]))) (.ref kc) (eK k) := Tp.up hr nt
      generalize upd H2 d (.lst (ys ++ [.ref kc])) = H3 at e3 hy3 hd3 hk3
      walk_at "go"
      refine ⟨d, _, rfl, .of hd3, fun p hp => ?_⟩
      have e4 : Ex g.T H3 (upd H3 p (.lst (cutV (ys ++ [.ref kc]) none (some (-1))))) := .new hp
      have hcut : cutV (ys ++ [.ref kc]) none (some (-1)) = ys := by
        rw [cut_butlast, List.length_append, List.length_singleton, Nat.add_sub_cancel, List.take_left]
      rw [hcut] at e4
      rw [hcut]
      have hyd : TpAll g.K (upd H3 p (.lst ys)) ys ((fd ++ [last]).map eK) := by
        have h8 := (e4.tps hy3).take ys.length
        rw [List.take_left, ← List.map_take] at h8
        rw [show (fd ++ [last] ++ [k]).take ys.length = fd ++ [last] by rw [hyl, ← List.length_singleton (a := last), ← List.length_append, List.take_left]] at h8
        exact h8
      refine ⟨_, _, (e4.tp hk3).dp, .lst (.of upd_same) hyd.dps, shp1 (eK_pur _) (eK_depth _) (by decide), shp_list (f := eK) 1 eK_pur eK_depth (by decide), ?_⟩
      refine st_blx ?_
      by_cases hin : k ∈ fd ++ [last]
      · rw [if_pos hin] at hw
        have h0 := any_in (f := eK) (eK_pur k) hin
        refine st_T h0 ?_
        walk_at "go"
        refine tupL (.of (e4.at hd3)) fun q2 hq2 => ?_
        walk_at "go"
        refine ⟨szr rfl, fun q3 hq3 => ?_⟩
        walk_at "go"
        refine kk _ _ ((e3.trans e4).trans ((Ex.new hq2).trans (.new hq3))) ?_
        rw [← hw]
        exact .tup (.of upd_same) (.cons (.tup (.of (by rw [upd_ne (fun z => by rw [z, upd_same] at hq3; cases hq3)]; exact upd_same)) (((e4.tps hy3).up (noTup_none hq2)).up (noTup_none hq3))) (.cons (.str _) .nil))
      · rw [if_neg hin] at hw
        have h0 := any_nin (f := eK) eK_pur eK_inj hin
        refine st_F h0 ?_
        walk_at "go"
        refine ⟨m, by omega, e3.trans e4, fd ++ [last], k, ys ++ [.ref kc], _, rfl, e4.at hd3, e4.tps hy3, ?_, fun k2 hk2 => ?_, ?_, hw⟩
        · rw [List.nodup_append]
          exact ⟨hnd, nd1 _, fun x hx y hy2 e => hin (by rw [← List.mem_singleton.mp hy2, ← e]; exact hx)⟩
        · rcases List.mem_append.mp hk2 with h | h
          · exact hbd k2 h
          · rw [List.mem_singleton.mp h]
            exact next_bd ok hnx
        · simp only [List.length_append, List.length_singleton]
          omega
-- walk: slots book 0, start 1, outage 2; cells []
abbrev s_walk : Stmt := top 25
abbrev N_walk : List Str := ["book", "start", "outage"]
theorem sc_walk : FnScope N_walk ["book", "start", "outage"] (defScope s_walk) := ⟨rfl, rfl, rfl, by decide +kernel, rfl, by decide +kernel, by decide +kernel⟩
def sp_walk (g : Gx) : Sp := fun vs H Q _ => ∃ a o B, ∃ start : Nat, ∃ out : List Nat, vs = [.ref a, .int start, o] ∧ BookAt g H a B ∧ start < B.n ∧ Tp g.K H o (ot out) ∧ ∀ r H', Ex g.T H H' → Tp g.K H' r (.tuple ((walkF B start out).1.map eK)) → Q r H'
theorem tp_eW {K : Fg} {H : Hp} {v : V} {x : List Ky × Fate} (h : Tp K H v (eW x)) : ∃ a s, v = .ref a ∧ SqT K H a [s, .str x.2.str] ∧ Tp K H s (.tuple (x.1.map eK)) := by
  obtain ⟨a, xs, rfl, h1, h2⟩ := tp_tup h
  cases h2 with
  | cons h2 h3 =>
    cases h3 with
    | cons h3 h4 =>
      cases h4
      have h5 := tp_str h3
      subst h5
      exact ⟨a, _, rfl, h1, h2⟩
theorem ok_walk (g : Gx) (T : Blt g.mg) (Z : Fct g) (C_walked : Cal g.P g.w g.K g.mg g.base 4 "walked" ["book", "start", "outage"] (sp_walked g))  {f : Addr} {fd : FuncData} (F : Fun g.K "walk" "walk" s_walk f fd) : FnOk g.P g.w g.K g.mg g.base CX0 5 f fd ["book", "start", "outage"] (sp_walk g) := by
  refine F.ok sc_walk (fun vs H Q E h => ?_) (fun cdv A outer s H vs Q E hr h => ?_)
  · first | (obtain ⟨rfl, _⟩ := h; rfl) | (obtain ⟨_, rfl, _⟩ := h; rfl) | (obtain ⟨_, _, rfl, _⟩ := h; rfl) | (obtain ⟨_, _, _, rfl, _⟩ := h; rfl) | (obtain ⟨_, _, _, _, rfl, _⟩ := h; rfl) | (obtain ⟨_, _, _, _, _, rfl, _⟩ := h; rfl) | (obtain ⟨_, _, _, _, _, _, rfl, _⟩ := h; rfl) | (obtain ⟨_, _, _, _, _, _, _, rfl, _⟩ := h; rfl) | (obtain ⟨_, _, _, _, _, _, _, _, rfl, _⟩ := h; rfl) | (obtain ⟨_, _, _, _, _, _, _, _, _, rfl, _⟩ := h; rfl) | (obtain ⟨_, _, _, _, _, _, _, _, _, _, rfl, _⟩ := h; rfl) | (obtain ⟨_, _, _, _, _, _, _, _, _, _, _, rfl, _⟩ := h; rfl) | (obtain ⟨_, _, _, _, _, _, _, _, _, _, _, _, rfl, _⟩ := h; rfl) | (obtain ⟨_, _, _, _, _, _, _, _, _, _, _, _, _, rfl, _⟩ := h; rfl)
  have hu := room_un hr
  obtain ⟨a, o, B, start, out, rfl, hB, hst, ho, kk⟩ := h
  refine ⟨_, (pss_one (ps_ret (pe_ix (ixW g) (pe_cF C_walked (hr.mono (by decide)) rfl (pa_cons (pv 0) (pa_cons (pv 1) (pa_cons (pv 2) pa_nil)))) pe_int (fun _ _ => rfl)))), ?_⟩
  walk_at "go"
  refine ⟨a, o, B, start, out, rfl, hB, hst, ho, fun r H1 e1 hr => ?_⟩
  walk_at "go"
  obtain ⟨b, s, rfl, hb, hs⟩ := tp_eW hr
  refine st_ixT hb rfl ?_
  exact kk _ _ e1 hs
-- fate: slots book 0, start 1, outage 2; cells []
abbrev s_fate : Stmt := top 26
abbrev N_fate : List Str := ["book", "start", "outage"]
theorem sc_fate : FnScope N_fate ["book", "start", "outage"] (defScope s_fate) := ⟨rfl, rfl, rfl, by decide +kernel, rfl, by decide +kernel, by decide +kernel⟩
def sp_fate (g : Gx) : Sp := fun vs H Q _ => ∃ a o B, ∃ start : Nat, ∃ out : List Nat, vs = [.ref a, .int start, o] ∧ BookAt g H a B ∧ start < B.n ∧ Tp g.K H o (ot out) ∧ ∀ H', Ex g.T H H' → Q (.str (walkF B start out).2.str) H'
theorem ok_fate (g : Gx) (T : Blt g.mg) (Z : Fct g) (C_walked : Cal g.P g.w g.K g.mg g.base 4 "walked" ["book", "start", "outage"] (sp_walked g))  {f : Addr} {fd : FuncData} (F : Fun g.K "fate" "fate" s_fate f fd) : FnOk g.P g.w g.K g.mg g.base CX0 5 f fd ["book", "start", "outage"] (sp_fate g) := by
  refine F.ok sc_fate (fun vs H Q E h => ?_) (fun cdv A outer s H vs Q E hr h => ?_)
  · first | (obtain ⟨rfl, _⟩ := h; rfl) | (obtain ⟨_, rfl, _⟩ := h; rfl) | (obtain ⟨_, _, rfl, _⟩ := h; rfl) | (obtain ⟨_, _, _, rfl, _⟩ := h; rfl) | (obtain ⟨_, _, _, _, rfl, _⟩ := h; rfl) | (obtain ⟨_, _, _, _, _, rfl, _⟩ := h; rfl) | (obtain ⟨_, _, _, _, _, _, rfl, _⟩ := h; rfl) | (obtain ⟨_, _, _, _, _, _, _, rfl, _⟩ := h; rfl) | (obtain ⟨_, _, _, _, _, _, _, _, rfl, _⟩ := h; rfl) | (obtain ⟨_, _, _, _, _, _, _, _, _, rfl, _⟩ := h; rfl) | (obtain ⟨_, _, _, _, _, _, _, _, _, _, rfl, _⟩ := h; rfl) | (obtain ⟨_, _, _, _, _, _, _, _, _, _, _, rfl, _⟩ := h; rfl) | (obtain ⟨_, _, _, _, _, _, _, _, _, _, _, _, rfl, _⟩ := h; rfl) | (obtain ⟨_, _, _, _, _, _, _, _, _, _, _, _, _, rfl, _⟩ := h; rfl)
  have hu := room_un hr
  obtain ⟨a, o, B, start, out, rfl, hB, hst, ho, kk⟩ := h
  refine ⟨_, (pss_one (ps_ret (pe_ix (ixW g) (pe_cF C_walked (hr.mono (by decide)) rfl (pa_cons (pv 0) (pa_cons (pv 1) (pa_cons (pv 2) pa_nil)))) pe_int (fun _ _ => rfl)))), ?_⟩
  walk_at "go"
  refine ⟨a, o, B, start, out, rfl, hB, hst, ho, fun r H1 e1 hr => ?_⟩
  walk_at "go"
  obtain ⟨b, s, rfl, hb, hs⟩ := tp_eW hr
  refine st_ixT hb rfl ?_
  exact kk _ e1
end Sp
end
section
set_option Elab.async false
set_option linter.all false
set_option maxRecDepth 100000
set_option maxHeartbeats 4000000
set_option autoImplicit false
local macro_rules | `(tactic| walk_at "go") => `(tactic| repeat first
  | (with_reducible first
     | refine Sp.st_var rfl ?_ | refine Sp.st_c ?_ | refine Sp.st_op ?_ | refine Sp.st_seq ?_ | refine Sp.st_asg ?_ | refine Sp.st_name ?_
     | refine Sp.st_ret ?_ | refine Sp.st_drop ?_ | refine Sp.st_next ?_ | refine Sp.st_if ?_ | refine Sp.st_nx ?_ | refine Sp.st_rt ?_
     | refine Sp.st_cons ?_ | refine Sp.st_nil ?_ | refine Sp.st_cb ?_ | refine Sp.st_call ?_ | refine Sp.st_test ?_ | refine Sp.st_B ?_
     | refine Sp.st_not ?_ | refine Sp.st_and ?_ | refine Sp.st_or ?_ | refine Sp.st_andV ?_ | refine Sp.st_orV ?_ | refine Sp.st_notV ?_
     | refine Sp.st_tif ?_ | refine Sp.st_tup ?_ | refine Sp.st_lst ?_ | refine Sp.st_blx ?_ | refine Sp.st_I0 ?_ | refine Sp.st_U ?_
     | refine Sp.st_eqI ?_ | refine Sp.st_neI ?_ | refine Sp.st_chain ?_ | refine Sp.isiI ?_ | refine Sp.isiB ?_ | refine Sp.isiS ?_
     | refine Sp.st_T rfl ?_ | refine Sp.st_F rfl ?_ | refine Sp.st_lc ?_ | refine Sp.st_iT ?_ | refine Sp.st_iL ?_ | refine Sp.st_iR1 ?_
     | refine Sp.st_iR2 ?_ | refine Sp.st_iET ?_ | refine Sp.st_iZA ?_ | refine Sp.st_iZLT ?_ | refine Sp.st_for ?_ | refine Sp.st_fld ?_
     | refine Sp.st_sfld ?_ | refine Sp.st_prop ?_ | refine Sp.st_meth ?_ | refine Sp.st_make ?_ | refine Sp.st_isN ?_ | refine Sp.st_yes ?_
     | refine Sp.isNI ?_ | refine Sp.notNI ?_ | refine Sp.int1I ?_ | refine Sp.int1B ?_ | refine Sp.min2I ?_ | refine Sp.max2I ?_
     | refine Sp.st_dputN ?_ | refine Sp.st_dgetN ?_ | refine Sp.st_revL ?_ | refine Sp.st_din ?_ | refine Sp.st_dnin ?_ | refine Sp.st_dget ?_ | refine Sp.st_dput ?_ | refine Sp.st_dc ?_ | refine Sp.st_dcN ?_
     | refine Sp.st_sortLam ?_ | refine Sp.st_lc2 ?_ | refine Sp.st_un ?_ | refine Sp.st_lenSet ?_ | refine Sp.st_bm ?_ | refine Sp.st_lenO ?_ | refine Sp.st_sl ?_ | refine Sp.st_part ?_ | refine Sp.st_nopart ?_ | refine Sp.st_intx ?_)
  | ((with_reducible refine Sp.st_wp ?_ ?_); (focus rfl)))
namespace Sp
open PySem PySem.Spec L2

def besideF (L : List (Nat × Nat)) (out : List Nat) (node : Nat) : List Nat := srt (((netAt L node).filter fun l => decide (l ∉ out)).map fun l => netFar L l node)
def stepO (p : List Nat × List Nat) (o : Nat) : List Nat × List Nat := if o ∈ p.1 then p else (p.1 ++ [o], p.2 ++ [o])
def stepE (L : List (Nat × Nat)) (out : List Nat) (p : List Nat × List Nat) (node : Nat) : List Nat × List Nat := (besideF L out node).foldl stepO p
def spreadG (L : List (Nat × Nat)) (out : List Nat) : Nat → List Nat → List Nat → List Nat
  | 0, found, _ => found
  | f + 1, found, edge => if edge = [] then found else spreadG L out f (edge.foldl (stepE L out) (found, [])).1 (edge.foldl (stepE L out) (found, [])).2
def spreadF (L : List (Nat × Nat)) (out : List Nat) (goal : Nat) : List Nat := spreadG L out 20 [goal] [goal]
theorem srt_mem {l : List Nat} {x : Nat} : x ∈ srt l ↔ x ∈ l := (List.mergeSort_perm _ _).mem_iff
theorem beside_lt {n : Nat} {L : List (Nat × Nat)} {out : List Nat} {node x : Nat} (ok : NetOk n L) (h : x ∈ besideF L out node) : x < n := by
  unfold besideF at h
  rw [srt_mem] at h
  obtain ⟨l, hl, rfl⟩ := List.mem_map.mp h
  exact far_lt ok (netAt_lt (List.mem_filter.mp hl).1)
/-- what has been found: numbers below n, each once; the new ones among them -/
structure Fnd (n : Nat) (p : List Nat × List Nat) : Prop where
  nd : p.1.Nodup
  lt : ∀ x ∈ p.1, x < n
  sub : ∀ x ∈ p.2, x ∈ p.1
theorem Fnd.len {n : Nat} {p : List Nat × List Nat} (h : Fnd n p) : p.1.length ≤ n := by
  have := nodup_len (b := List.range n) h.nd fun x hx => List.mem_range.mpr (h.lt x hx)
  rw [List.length_range] at this
  exact this
theorem Fnd.step {n : Nat} {p : List Nat × List Nat} (h : Fnd n p) {o : Nat} (ho : o < n) : Fnd n (stepO p o) := by
  unfold stepO
  split
  · exact h
  · rename_i hn
    refine ⟨?_, fun x hx => ?_, fun x hx => ?_⟩
    · rw [List.nodup_append]
      exact ⟨h.nd, nd1 _, fun x hx y hy e => hn (by rw [← List.mem_singleton.mp hy, ← e]; exact hx)⟩
    · rcases List.mem_append.mp hx with hx | hx
      · exact h.lt x hx
      · rw [List.mem_singleton.mp hx]; exact ho
    · rcases List.mem_append.mp hx with hx | hx
      · exact List.mem_append_left _ (h.sub x hx)
      · exact List.mem_append_right _ hx
theorem Fnd.fold {n : Nat} : ∀ {os : List Nat} {p : List Nat × List Nat}, Fnd n p → (∀ o ∈ os, o < n) → Fnd n (os.foldl stepO p)
  | [], _, h, _ => h
  | o :: os, p, h, ho => Fnd.fold (os := os) (p := stepO p o) (h.step (ho o List.mem_cons_self)) fun x hx => ho x (List.mem_cons_of_mem _ hx)
theorem stepO_grow (p : List Nat × List Nat) (o : Nat) : (∀ x ∈ p.1, x ∈ (stepO p o).1) ∧ (stepO p o).1.length + p.2.length = p.1.length + (stepO p o).2.length := by
  unfold stepO
  split
  · exact ⟨fun _ h => h, rfl⟩
  · refine ⟨fun x hx => List.mem_append_left _ hx, ?_⟩
    simp only [List.length_append, List.length_singleton]
    omega
theorem foldO_grow : ∀ (os : List Nat) (p : List Nat × List Nat), (∀ x ∈ p.1, x ∈ (os.foldl stepO p).1) ∧ (os.foldl stepO p).1.length + p.2.length = p.1.length + (os.foldl stepO p).2.length
  | [], p => ⟨fun _ h => h, rfl⟩
  | o :: os, p => by
    obtain ⟨h1, h2⟩ := stepO_grow p o
    obtain ⟨h3, h4⟩ := foldO_grow os (stepO p o)
    exact ⟨fun x hx => h3 x (h1 x hx), by rw [List.foldl_cons]; omega⟩
theorem foldE_grow (L : List (Nat × Nat)) (out : List Nat) : ∀ (os : List Nat) (p : List Nat × List Nat), (∀ x ∈ p.1, x ∈ (os.foldl (stepE L out) p).1) ∧ (os.foldl (stepE L out) p).1.length + p.2.length = p.1.length + (os.foldl (stepE L out) p).2.length
  | [], p => ⟨fun _ h => h, rfl⟩
  | o :: os, p => by
    obtain ⟨h1, h2⟩ := foldO_grow (besideF L out o) p
    obtain ⟨h3, h4⟩ := foldE_grow L out os (stepE L out p o)
    exact ⟨fun x hx => h3 x (h1 x hx), by rw [List.foldl_cons]; unfold stepE at *; omega⟩
theorem Fnd.foldE {n : Nat} {L : List (Nat × Nat)} {out : List Nat} (ok : NetOk n L) : ∀ {os : List Nat} {p : List Nat × List Nat}, Fnd n p → Fnd n (os.foldl (stepE L out) p)
  | [], _, h => h
  | o :: os, p, h => Fnd.foldE (os := os) (p := stepE L out p o) ok (Fnd.fold (os := besideF L out o) (p := p) h fun x hx => beside_lt ok hx)
/-- the dict of what has been found -/
def Dk (H : Hp) (d : Addr) (found : List Nat) : Prop := ∃ kvs : List (Key × V), H d = some (.dK kvs) ∧ kvs.length ≤ found.length ∧ (∀ x ∈ found, ∃ v : Int, valV kvs (.inl (x : Int)) = some (.int v)) ∧ ∀ x : Nat, x ∉ found → valV kvs (.inl (x : Int)) = none
-- is_outage: slots net 0, value 1; cells []
abbrev s_is_outage : Stmt := top 28
abbrev N_is_outage : List Str := ["net", "value"]
theorem sc_is_outage : FnScope N_is_outage ["net", "value"] (defScope s_is_outage) := ⟨rfl, rfl, rfl, by decide +kernel, rfl, by decide +kernel, by decide +kernel⟩
def sp_is_outage (g : Gx) : Sp := fun vs H Q _ => ∃ a v, ∃ n : Nat, ∃ L : List (Nat × Nat), ∃ o : List Nat, vs = [.ref a, v] ∧ NetAt g H a n L ∧ Tp g.K H v (ot o) ∧ (o.Pairwise (· < ·) ∧ ∀ x ∈ o, x < L.length) ∧ o.length ≤ 8 ∧ ∀ H', Ex g.T H H' → Q (.bl true) H'
theorem ok_is_outage (g : Gx) (T : Blt g.mg) (Z : Fct g) (C_ascends : Cal g.P g.w g.K g.mg g.base 3 "ascends" ["value", "bound"] (sp_ascends g)) (C___len__ : CalM g.P g.w g.K g.mg g.base 1 g.nc "__len__" ["self"] (sp_Net___len__ g))  {f : Addr} {fd : FuncData} (F : Fun g.K "is_outage" "is_outage" s_is_outage f fd) : FnOk g.P g.w g.K g.mg g.base CX0 4 f fd ["net", "value"] (sp_is_outage g) := by
  refine F.ok sc_is_outage (fun vs H Q E h => ?_) (fun cdv A outer s H vs Q E hr h => ?_)
  · first | (obtain ⟨rfl, _⟩ := h; rfl) | (obtain ⟨_, rfl, _⟩ := h; rfl) | (obtain ⟨_, _, rfl, _⟩ := h; rfl) | (obtain ⟨_, _, _, rfl, _⟩ := h; rfl) | (obtain ⟨_, _, _, _, rfl, _⟩ := h; rfl) | (obtain ⟨_, _, _, _, _, rfl, _⟩ := h; rfl) | (obtain ⟨_, _, _, _, _, _, rfl, _⟩ := h; rfl) | (obtain ⟨_, _, _, _, _, _, _, rfl, _⟩ := h; rfl) | (obtain ⟨_, _, _, _, _, _, _, _, rfl, _⟩ := h; rfl) | (obtain ⟨_, _, _, _, _, _, _, _, _, rfl, _⟩ := h; rfl) | (obtain ⟨_, _, _, _, _, _, _, _, _, _, rfl, _⟩ := h; rfl) | (obtain ⟨_, _, _, _, _, _, _, _, _, _, _, rfl, _⟩ := h; rfl) | (obtain ⟨_, _, _, _, _, _, _, _, _, _, _, _, rfl, _⟩ := h; rfl) | (obtain ⟨_, _, _, _, _, _, _, _, _, _, _, _, _, rfl, _⟩ := h; rfl)
  have hu := room_un hr
  obtain ⟨a, v, n, L, o, rfl, hn, hv, ⟨h1, h2⟩, hz, kk⟩ := h
  refine ⟨_, (pss_one (ps_ret (pe_cF C_ascends (hr.mono (by decide)) rfl (pa_cons (pv 1) (pa_cons (pe_lenO C___len__ (hr.mono (by decide)) rfl T.b_len (pv 0)) pa_nil))))), ?_⟩
  have hnet := hn
  obtain ⟨⟨dx, p, xs, q1, q2, q3⟩, nok⟩ := hn
  have nf := nok.few
  walk_at "go"
  refine ⟨a, _, _, rfl, q1, a, n, L, rfl, hnet, L.length, rfl, by omega, by omega, ?_⟩
  walk_at "go"
  exact ⟨v, L.length, o, rfl, hv, ⟨h1, fun x hx => by have := h2 x hx; omega⟩, by omega, kk⟩
-- beside: slots net 0, outage 1, node 2, link 3; cells ['net', 'node', 'outage']
abbrev s_beside : Stmt := top 29
abbrev N_beside : List Str := ["net", "outage", "node", "link"]
theorem sc_beside : FnScope N_beside ["net", "outage", "node"] (defScope s_beside) := ⟨rfl, rfl, rfl, by decide +kernel, rfl, by decide +kernel, by decide +kernel⟩
def sp_beside (g : Gx) : Sp := fun vs H Q _ => ∃ a v, ∃ n node : Nat, ∃ L : List (Nat × Nat), ∃ out : List Nat, vs = [.ref a, v, .int node] ∧ NetAt g H a n L ∧ Tp g.K H v (ot out) ∧ ∀ p H' ys, New H p → Ex g.T H H' → H' p = some (.lst ys) → TpAll g.K H' ys ((besideF L out node).map eN) → Q (.ref p) H'
theorem ok_beside (g : Gx) (T : Blt g.mg) (Z : Fct g) (C_at : CalM g.P g.w g.K g.mg g.base 1 g.nc "at" ["self", "node"] (sp_Net_at g)) (C_far : CalM g.P g.w g.K g.mg g.base 1 g.nc "far" ["self", "link", "node"] (sp_Net_far g))  {f : Addr} {fd : FuncData} (F : Fun g.K "beside" "beside" s_beside f fd) : FnOk g.P g.w g.K g.mg g.base CX0 2 f fd ["net", "outage", "node"] (sp_beside g) := by
  refine F.ok sc_beside (fun vs H Q E h => ?_) (fun cdv A outer s H vs Q E hr h => ?_)
  · first | (obtain ⟨rfl, _⟩ := h; rfl) | (obtain ⟨_, rfl, _⟩ := h; rfl) | (obtain ⟨_, _, rfl, _⟩ := h; rfl) | (obtain ⟨_, _, _, rfl, _⟩ := h; rfl) | (obtain ⟨_, _, _, _, rfl, _⟩ := h; rfl) | (obtain ⟨_, _, _, _, _, rfl, _⟩ := h; rfl) | (obtain ⟨_, _, _, _, _, _, rfl, _⟩ := h; rfl) | (obtain ⟨_, _, _, _, _, _, _, rfl, _⟩ := h; rfl) | (obtain ⟨_, _, _, _, _, _, _, _, rfl, _⟩ := h; rfl) | (obtain ⟨_, _, _, _, _, _, _, _, _, rfl, _⟩ := h; rfl) | (obtain ⟨_, _, _, _, _, _, _, _, _, _, rfl, _⟩ := h; rfl) | (obtain ⟨_, _, _, _, _, _, _, _, _, _, _, rfl, _⟩ := h; rfl) | (obtain ⟨_, _, _, _, _, _, _, _, _, _, _, _, rfl, _⟩ := h; rfl) | (obtain ⟨_, _, _, _, _, _, _, _, _, _, _, _, _, rfl, _⟩ := h; rfl)
  have hu := room_un hr
  obtain ⟨a, v, n, node, L, out, rfl, hn, hv, kk⟩ := h
  refine ⟨_, (pss_one (ps_ret (pe_callB (sortedDW g hu) (by rfl) T.b_sorted boot_f_sorted (pa_cons (pe_lc (own := [("link", 3)]) rfl sc_beside.nd (iTW g (pe_mF C_at (hr.mono (by decide)) (pv 0) (pa_cons (pv 2) pa_nil))) (blkOk_by rfl) (fun _ _ _ _ _ => pg_name (i := 3) sc_beside.nd rfl (Or.inl rfl)) (fun _ _ _ _ _ => pts_one (pt_cmpR (ninTW g hu) (pv 3) (pv 1) rfl)) (fun _ _ _ _ _ => (pe_mF C_far (hr.mono (by decide)) (pv 0) (pa_cons (pv 3) (pa_cons (pv 2) pa_nil))))) pa_nil)))), ?_⟩
  have hnet := hn
  obtain ⟨⟨dx, p, xs, q1, q2, q3⟩, nok⟩ := hn
  walk_at "go"
  refine ⟨a, _, _, rfl, q1, rfl, ?_⟩
  walk_at "go"
  refine ⟨a, n, node, L, rfl, hnet, fun r H1 e1 hr => ?_⟩
  walk_at "go"
  obtain ⟨b, xs2, rfl, hb, hx⟩ := tp_tup hr
  refine ⟨b, rfl, ⟨_, hb⟩, ?_⟩
  refine lcT (T := g.T) (l := netAt L node) (enc := eN) (fun l => decide (l ∉ out)) (fun l => eN (netFar L l node)) hb hx (by have := netAt_len (L := L) (node := node); have := nok.few; omega) (fun z x H2 hz e2 hx => ?_) fun q H2 ys nq e2 hq hy => ?_
  · intro Yes No hY hN
    cases tp_int hx
    have e12 := e1.trans e2
    walk_at "go"
    refine ⟨_, _, .int _, (e12.tp hv).dp, rfl, shp1 (ot_pur _) (ot_depth _) (by decide), ?_⟩
    refine st_blx ?_
    by_cases hm : z ∈ out
    · have h0 := any_in (f := eN) (a := z) rfl hm
      refine st_F (by rw [h0]; rfl) ?_
      exact hN (decide_eq_false fun z => z hm) _ (.refl _)
    · have h0 := any_nin (f := eN) eN_pur eN_inj hm
      refine st_T (by rw [h0]; rfl) ?_
      walk_at "go"
      refine ⟨a, _, _, rfl, e12.at q1, rfl, ?_⟩
      walk_at "go"
      refine ⟨a, n, z, node, L, rfl, e12.net hnet, netAt_lt hz, ?_⟩
      exact hY (decide_eq_true hm) _ _ (.refl _) (.int _)
  · walk_at "go"
    have hy2 : TpAll g.K H2 ys ((((netAt L node).filter fun l => decide (l ∉ out)).map fun l => netFar L l node).map eN) := by rw [List.map_map]; exact hy
    refine sortL (.of hq) hy2 fun p3 zs hp3 hz => ?_
    walk_at "go"
    exact kk p3 _ zs ((e1.trans e2).free0 hp3) ((e1.trans e2).trans (.new hp3)) upd_same hz
-- spread: slots net 0, outage 1, goal 2, found 3, edge 4, more 5, node 6, other 7; cells []
abbrev s_spread : Stmt := top 30
abbrev N_spread : List Str := ["net", "outage", "goal", "found", "edge", "more", "node", "other"]
theorem sc_spread : FnScope N_spread ["net", "outage", "goal"] (defScope s_spread) := ⟨rfl, rfl, rfl, by decide +kernel, rfl, by decide +kernel, by decide +kernel⟩
def sp_spread (g : Gx) : Sp := fun vs H Q _ => ∃ a v, ∃ n goal : Nat, ∃ L : List (Nat × Nat), ∃ out : List Nat, vs = [.ref a, v, .int goal] ∧ NetAt g H a n L ∧ Tp g.K H v (ot out) ∧ goal < n ∧ ∀ d H', Ex g.T H H' → Dk H' d (spreadF L out goal) → Q (.ref d) H'
theorem ok_spread (g : Gx) (T : Blt g.mg) (Z : Fct g) (C_beside : Cal g.P g.w g.K g.mg g.base 2 "beside" ["net", "outage", "node"] (sp_beside g))  {f : Addr} {fd : FuncData} (F : Fun g.K "spread" "spread" s_spread f fd) : FnOk g.P g.w g.K g.mg g.base CX0 3 f fd ["net", "outage", "goal"] (sp_spread g) := by
  refine F.ok sc_spread (fun vs H Q E h => ?_) (fun cdv A outer s H vs Q E hr h => ?_)
  · first | (obtain ⟨rfl, _⟩ := h; rfl) | (obtain ⟨_, rfl, _⟩ := h; rfl) | (obtain ⟨_, _, rfl, _⟩ := h; rfl) | (obtain ⟨_, _, _, rfl, _⟩ := h; rfl) | (obtain ⟨_, _, _, _, rfl, _⟩ := h; rfl) | (obtain ⟨_, _, _, _, _, rfl, _⟩ := h; rfl) | (obtain ⟨_, _, _, _, _, _, rfl, _⟩ := h; rfl) | (obtain ⟨_, _, _, _, _, _, _, rfl, _⟩ := h; rfl) | (obtain ⟨_, _, _, _, _, _, _, _, rfl, _⟩ := h; rfl) | (obtain ⟨_, _, _, _, _, _, _, _, _, rfl, _⟩ := h; rfl) | (obtain ⟨_, _, _, _, _, _, _, _, _, _, rfl, _⟩ := h; rfl) | (obtain ⟨_, _, _, _, _, _, _, _, _, _, _, rfl, _⟩ := h; rfl) | (obtain ⟨_, _, _, _, _, _, _, _, _, _, _, _, rfl, _⟩ := h; rfl) | (obtain ⟨_, _, _, _, _, _, _, _, _, _, _, _, _, rfl, _⟩ := h; rfl)
  have hu := room_un hr
  obtain ⟨a, v, n, goal, L, out, rfl, hn, hv, hgoal, kk⟩ := h
  refine ⟨_, (pss_cons (ps_set (i := 3) sc_spread.nd rfl (Or.inl rfl) (pe_disp (pps_cons (pv 2) pe_int pps_nil) rfl rfl (by simp) (by decide)))
      (pss_cons (ps_set (i := 4) sc_spread.nd rfl (Or.inl rfl) (pe_lst (pa_cons (pv 2) pa_nil)))
      (pss_cons (ps_while PassesOwn.never (pt_cmpR (neDW g hu) (pv 4) (pe_lst pa_nil) (nomark _)) (pss_cons (ps_set (i := 5) sc_spread.nd rfl (Or.inl rfl) (pe_lst pa_nil))
      (pss_cons (ps_for PassesOwn.never rfl (iLW g (pv 4)) (pg_name (i := 6) sc_spread.nd rfl (Or.inl rfl)) (pss_one (ps_for PassesOwn.never rfl (iLW g (pe_cF C_beside (hr.mono (by decide)) rfl (pa_cons (pv 0) (pa_cons (pv 1) (pa_cons (pv 6) pa_nil))))) (pg_name (i := 7) sc_spread.nd rfl (Or.inl rfl)) (pss_one (ps_if (pt_cmp (dninW hu (pv 7) (pv 3)) rfl) (pss_cons (dputW hu (pv 3) (pv 7) (pe_op op_add (dgetW hu (pv 3) (pv 6) (fun _ _ => rfl)) pe_int) rfl)
      (pss_one (ps_expr (bmW g PySem.F.plainAttrs_list PySem.F.slot_list_append PySem.F.type_list_append mt_append (pv 5) (pa_cons (pv 7) pa_nil))))) pss_nil)))))
      (pss_one (ps_set (i := 4) sc_spread.nd rfl (Or.inl rfl) (pv 5))))))
      (pss_one (ps_ret (pv 3)))))), ?_⟩
  have nok := hn.ok
  have nh := nok.hi
  walk_at "go"
  intro d hd
  show tVar 2 _ _ _
  refine st_var rfl ?_
  refine st_c ?_
  refine ⟨upd_same, [(.inl (goal : Int), .int 0)], rfl, Nat.le_of_ble_eq_true rfl, ?_⟩
  rw [upd_upd]
  have e0 : Ex g.T H (upd H d (.dK (mergeK [] [(.inl (goal : Int), .int 0)]))) := .new hd
  have dk0 : Dk (upd H d (.dK (mergeK [] [(.inl (goal : Int), .int 0)]))) d [goal] := by
    refine ⟨[(.inl (goal : Int), .int 0)], upd_same, Nat.le_refl _, fun x hx => ?_, fun x hx => ?_⟩
    · rw [List.mem_singleton.mp hx]
      exact ⟨0, valV_pos rfl⟩
    · exact valV_neg (fun z => hx (by have := Sum.inl.inj z; rw [List.mem_singleton]; omega))
  generalize upd H d (.dK (mergeK [] [(.inl (goal : Int), .int 0)])) = H0 at e0 dk0
  walk_at "go"
  refine ⟨szr rfl, fun q hq => ?_⟩
  walk_at "go"
  have hdH : New H d := .of hd
  have dk1 : Dk (upd H0 q (.lst [.int goal])) d [goal] := by
    obtain ⟨kvs, k1, k2⟩ := dk0
    exact ⟨kvs, (Ex.new (T := g.T) hq).at k1, k2⟩
  refine ⟨fun m σ H1 => Ex g.T H H1 ∧ ∃ found edge e x5 x6 x7, σ = [some (.ref a), some v, some (.int goal), some (.ref d), some (.ref e), x5, x6, x7] ∧ H1 e = some (.lst ((edge.map fun n : Nat => (n : Int)).map V.int)) ∧ Dk H1 d found ∧ Fnd n (found, edge) ∧ 1 ≤ m ∧ (edge ≠ [] → 9 ≤ m + found.length) ∧ spreadG L out m found edge = spreadF L out goal,
    ⟨20, e0.trans (.new hq), [goal], [goal], q, none, none, none, rfl, upd_same, dk1, ⟨nd1 _, fun x hx => by rw [List.mem_singleton.mp hx]; exact hgoal, fun x hx => hx⟩, by decide, fun _ => Nat.le_of_ble_eq_true rfl, rfl⟩, ?_⟩
  rintro m σ H1 ⟨e1, found, edge, e, x5, x6, x7, rfl, he, dk, fnd, hm1, hm2, hsp⟩
  obtain ⟨m, rfl⟩ : ∃ m', m = m' + 1 := ⟨m - 1, by omega⟩
  rw [spreadG] at hsp
  have flen : found.length ≤ n := fnd.len
  walk_at "go"
  refine ⟨Nat.zero_le _, fun q2 hq2 => ?_⟩
  have e2 : Ex g.T H1 (upd H1 q2 (.lst [])) := .new hq2
  have hpd : ∀ l : List Nat, DpAll g.K (upd H1 q2 (.lst [])) ((l.map fun n : Nat => (n : Int)).map V.int) (l.map eN) := fun l => by
    have := dpInts (K := g.K) (H := upd H1 q2 (.lst [])) (l.map fun n : Nat => (n : Int))
    rw [List.map_map] at this ⊢
    rw [List.map_map] at this
    exact this
  refine ⟨.list (edge.map eN), .list [], .lst (.of (e2.at he)) (hpd edge), .lst (.of upd_same) .nil, shp_list (f := eN) 0 eN_pur (fun _ => Nat.le_refl _) (by decide), rfl, ?_⟩
  by_cases hedge : edge = []
  · rw [if_pos hedge] at hsp
    subst hedge
    refine ⟨_, rfl, ?_⟩
    refine st_F rfl ?_
    walk_at "go"
    refine kk d _ (e1.trans e2) ?_
    rw [← hsp]
    obtain ⟨kvs, k1, k2⟩ := dk
    exact ⟨kvs, e2.at k1, k2⟩
  · rw [if_neg hedge] at hsp
    refine ⟨_, rfl, ?_⟩
    have hq : PyData.eqv (.list (edge.map eN)) (.list []) = false := by
      cases edge with
      | nil => exact absurd rfl hedge
      | cons x l =>
        rw [PyData.eqv, List.map_cons, PyData.eqvAll]
    refine st_T (by rw [hq]; rfl) ?_
    refine ⟨fun σ' H' => ∃ m', m' < m + 1 ∧ Ex g.T H H' ∧ ∃ found edge e x5 x6 x7, σ' = [some (.ref a), some v, some (.int goal), some (.ref d), some (.ref e), x5, x6, x7] ∧ H' e = some (.lst ((edge.map fun n : Nat => (n : Int)).map V.int)) ∧ Dk H' d found ∧ Fnd n (found, edge) ∧ 1 ≤ m' ∧ (edge ≠ [] → 9 ≤ m' + found.length) ∧ spreadG L out m' found edge = spreadF L out goal, fun σ' H' h => h, ?_⟩
    walk_at "go"
    refine ⟨Nat.zero_le _, fun mo hmo => ?_⟩
    walk_at "go"
    have e3 : Ex g.T H1 (upd (upd H1 q2 (.lst [])) mo (.lst [])) := e2.trans (.new hmo)
    have hem : e ≠ mo := fun z => by
      have := e2.at he
      rw [z, hmo] at this
      cases this
    have hmoH : New H mo := (e1.trans e2).free0 hmo
    refine ⟨e, rfl, ⟨_, .of (e3.at he)⟩, ?_⟩
    refine forL (K := g.K) (xs := (edge.map fun n : Nat => (n : Int)).map V.int) (fun i σ H2 => Ex g.T H H2 ∧ H2 e = some (.lst ((edge.map fun n : Nat => (n : Int)).map V.int)) ∧ H2 mo = some (.lst ((((edge.take i).foldl (stepE L out) (found, [])).2.map fun n : Nat => (n : Int)).map V.int)) ∧ Dk H2 d ((edge.take i).foldl (stepE L out) (found, [])).1 ∧ ∃ x6 x7, σ = [some (.ref a), some v, some (.int goal), some (.ref d), some (.ref e), some (.ref mo), x6, x7])
      ⟨e1.trans e3, e3.at he, upd_same, ?_, _, _, rfl⟩ (fun i σ H2 p => .of p.2.1) (fun i x σ H2 hi p => ?_) (fun σ H2 p => ?_)
    · obtain ⟨kvs, k1, k2⟩ := dk
      exact ⟨kvs, e3.at k1, k2⟩
    · obtain ⟨e4, he4, hmo4, dk4, x6, x7, rfl⟩ := p
      rw [List.map_map, List.getElem?_map, Option.map_eq_some_iff] at hi
      obtain ⟨node, hnode, rfl⟩ := hi
      have hnm : node ∈ found := fnd.sub node (List.mem_of_getElem? hnode)
      have htk : edge.take (i + 1) = edge.take i ++ [node] := by rw [List.take_succ, hnode]; rfl
      have hfo : (edge.take (i + 1)).foldl (stepE L out) (found, []) = (besideF L out node).foldl stepO ((edge.take i).foldl (stepE L out) (found, [])) := by
        rw [htk, List.foldl_append]; rfl
      have hfn := Fnd.foldE (L := L) (out := out) nok (os := edge.take i) (p := (found, [])) ⟨fnd.nd, fnd.lt, fun x hx => nomatch hx⟩
      have hgrow := (foldE_grow L out (edge.take i) (found, [])).1 node hnm
      have hgeq0 : ((edge.take i).foldl (stepE L out) (found, [])).1.length + 0 = found.length + ((edge.take i).foldl (stepE L out) (found, [])).2.length := (foldE_grow L out (edge.take i) (found, [])).2
      generalize hp0 : (edge.take i).foldl (stepE L out) (found, []) = p0 at *
      show gName 6 (.int (node : Int)) _ _ _
      walk_at "go"
      refine ⟨a, v, n, node, L, out, rfl, e4.net hn, e4.tp hv, fun bp H3 ys nbp e5 hbp hys => ?_⟩
      walk_at "go"
      have hyi := tpInts (l := (besideF L out node).map fun n : Nat => (n : Int)) (by rw [List.map_map]; exact hys)
      subst hyi
      refine ⟨bp, rfl, ⟨_, .of hbp⟩, ?_⟩
      have hbm : bp ≠ mo := fun z => by
        obtain ⟨ps, q⟩ := nbp _ (by rw [z]; exact hmo4)
        cases q
      refine forL (K := g.K) (xs := ((besideF L out node).map fun n : Nat => (n : Int)).map V.int) (fun j σ H4 => Ex g.T H H4 ∧ H4 e = some (.lst ((edge.map fun n : Nat => (n : Int)).map V.int)) ∧ H4 bp = some (.lst (((besideF L out node).map fun n : Nat => (n : Int)).map V.int)) ∧ H4 mo = some (.lst (((((besideF L out node).take j).foldl stepO p0).2.map fun n : Nat => (n : Int)).map V.int)) ∧ Dk H4 d (((besideF L out node).take j).foldl stepO p0).1 ∧ ∃ x7, σ = [some (.ref a), some v, some (.int goal), some (.ref d), some (.ref e), some (.ref mo), some (.int node), x7])
        ⟨e4.trans e5, e5.at he4, hbp, e5.at hmo4, ?_, _, rfl⟩ (fun j σ H4 p => .of p.2.2.1) (fun j x σ H4 hj p => ?_) (fun σ H4 p => ?_)
      · obtain ⟨kvs, k1, k2⟩ := dk4
        exact ⟨kvs, e5.at k1, k2⟩
      · obtain ⟨e6, he6, hbp6, hmo6, dk6, x7, rfl⟩ := p
        rw [List.map_map, List.getElem?_map, Option.map_eq_some_iff] at hj
        obtain ⟨oth, hoth, rfl⟩ := hj
        have holt := beside_lt nok (List.mem_of_getElem? hoth)
        have htj : ((besideF L out node).take (j + 1)).foldl stepO p0 = stepO (((besideF L out node).take j).foldl stepO p0) oth := by
          rw [List.take_succ, hoth, Option.toList_some, List.foldl_append]; rfl
        have hfj := Fnd.fold (os := (besideF L out node).take j) (p := p0) hfn fun x hx => beside_lt nok (List.mem_of_mem_take hx)
        have hgj := (foldO_grow ((besideF L out node).take j) p0).1 node hgrow
        have hgeq1 := (foldO_grow ((besideF L out node).take j) p0).2
        rw [htj]
        generalize ((besideF L out node).take j).foldl stepO p0 = p1 at *
        have hl1 := hfj.len
        obtain ⟨kvs, k1, k2, k3, k4⟩ := dk6
        show gName 7 (.int (oth : Int)) _ _ _
        walk_at "go"
        refine ⟨d, _, rfl, DGet.k (k := .inl (oth : Int)) k1, ?_⟩
        refine st_blx ?_
        by_cases hin : oth ∈ p1.1
        · obtain ⟨vv, hvv⟩ := k3 oth hin
          refine st_F (by rw [hvv]; rfl) ?_
          walk_at "go"
          unfold stepO
          rw [if_pos hin]
          exact ⟨e6, he6, hbp6, hmo6, ⟨kvs, k1, k2, k3, k4⟩, _, rfl⟩
        · refine st_T (by rw [k4 oth hin]; rfl) ?_
          walk_at "go"
          obtain ⟨vn, hvn⟩ := k3 node hgj
          refine ⟨d, .int vn, rfl, by have := DGet.k (k := .inl (node : Int)) k1; rw [hvn] at this; exact this, ?_⟩
          walk_at "go"
          refine ⟨d, _, rfl, DPut.k (k := .inl (oth : Int)) k1 (sz_lt (by omega)), ?_⟩
          walk_at "go"
          have hmd : mo ≠ d := fun z => by rw [z, k1] at hmo6; cases hmo6
          have hmo7 : (upd H4 d (.dK (putK kvs (.inl (oth : Int)) (.int (vn + 1))))) mo = some (.lst ((p1.2.map fun n : Nat => (n : Int)).map V.int)) := by rw [upd_ne hmd]; exact hmo6
          have e7 : Ex g.T H (upd H4 d (.dK (putK kvs (.inl (oth : Int)) (.int (vn + 1))))) := e6.mut hdH k1 trivial
          refine ⟨tyL (.of hmo7), ?_⟩
          walk_at "go"
          have hml : p1.2.length ≤ 100 := by omega
          refine appendL hmo7 (by rw [List.length_map, List.length_map]; omega) ?_
          have hed : e ≠ d := fun z => by rw [z, k1] at he6; cases he6
          have hbd : bp ≠ d := fun z => by rw [z, k1] at hbp6; cases hbp6
          unfold stepO
          rw [if_neg hin]
          refine ⟨e7.mut hmoH hmo7 trivial, by rw [upd_ne hem, upd_ne hed]; exact he6, by rw [upd_ne hbm, upd_ne hbd]; exact hbp6, by rw [upd_same, List.map_append, List.map_append]; rfl, ⟨_, by rw [upd_ne (Ne.symm hmd)]; exact upd_same, ?_, fun x hx => ?_, fun x hx => ?_⟩, _, rfl⟩
          · have := length_putK kvs (.inl (oth : Int)) (.int (vn + 1))
            rw [List.length_append, List.length_singleton]
            omega
          · rw [valV_put]
            by_cases hxo : x = oth
            · subst hxo
              exact ⟨vn + 1, if_pos rfl⟩
            · rcases List.mem_append.mp hx with hx | hx
              · obtain ⟨vx, hvx⟩ := k3 x hx
                exact ⟨vx, by rw [if_neg (fun z => hxo (by have := Sum.inl.inj z; omega))]; exact hvx⟩
              · exact absurd (List.mem_singleton.mp hx) hxo
          · rw [List.mem_append, not_or, List.mem_singleton] at hx
            rw [valV_put, if_neg (fun z => hx.2 (by have := Sum.inl.inj z; omega))]
            exact k4 x hx.1
      · obtain ⟨e6, he6, hbp6, hmo6, dk6, x7, rfl⟩ := p
        have hl : (((besideF L out node).map fun n : Nat => (n : Int)).map V.int).length = (besideF L out node).length := by simp
        rw [hl, List.take_length] at hmo6 dk6
        walk_at "go"
        rw [hfo]
        exact ⟨e6, he6, hmo6, dk6, _, _, rfl⟩
    · obtain ⟨e4, he4, hmo4, dk4, x6, x7, rfl⟩ := p
      have hl : ((edge.map fun n : Nat => (n : Int)).map V.int).length = edge.length := by simp
      rw [hl, List.take_length] at hmo4 dk4
      have hf := Fnd.foldE (L := L) (out := out) nok (os := edge) (p := (found, [])) ⟨fnd.nd, fnd.lt, fun x hx => nomatch hx⟩
      have hg : (edge.foldl (stepE L out) (found, [])).1.length + 0 = found.length + (edge.foldl (stepE L out) (found, [])).2.length := (foldE_grow L out edge (found, [])).2
      have hl2 : (edge.foldl (stepE L out) (found, [])).1.length ≤ n := hf.len
      walk_at "go"
      refine ⟨m, by omega, e4, _, _, mo, _, _, _, rfl, hmo4, dk4, hf, ?_, fun hne => ?_, hsp⟩
      · have := hm2 hedge
        omega
      · have := hm2 hedge
        have := List.length_pos_iff.mpr hne
        omega
end Sp
end
section
set_option Elab.async false
set_option linter.all false
set_option maxRecDepth 100000
set_option maxHeartbeats 4000000
set_option autoImplicit false
local macro_rules | `(tactic| walk_at "go") => `(tactic| repeat first
  | (with_reducible first
     | refine Sp.st_var rfl ?_ | refine Sp.st_c ?_ | refine Sp.st_op ?_ | refine Sp.st_seq ?_ | refine Sp.st_asg ?_ | refine Sp.st_name ?_
     | refine Sp.st_ret ?_ | refine Sp.st_drop ?_ | refine Sp.st_next ?_ | refine Sp.st_if ?_ | refine Sp.st_nx ?_ | refine Sp.st_rt ?_
     | refine Sp.st_cons ?_ | refine Sp.st_nil ?_ | refine Sp.st_cb ?_ | refine Sp.st_call ?_ | refine Sp.st_test ?_ | refine Sp.st_B ?_
     | refine Sp.st_not ?_ | refine Sp.st_and ?_ | refine Sp.st_or ?_ | refine Sp.st_andV ?_ | refine Sp.st_orV ?_ | refine Sp.st_notV ?_
     | refine Sp.st_tif ?_ | refine Sp.st_tup ?_ | refine Sp.st_lst ?_ | refine Sp.st_blx ?_ | refine Sp.st_I0 ?_ | refine Sp.st_U ?_
     | refine Sp.st_eqI ?_ | refine Sp.st_neI ?_ | refine Sp.st_chain ?_ | refine Sp.isiI ?_ | refine Sp.isiB ?_ | refine Sp.isiS ?_
     | refine Sp.st_T rfl ?_ | refine Sp.st_F rfl ?_ | refine Sp.st_lc ?_ | refine Sp.st_iT ?_ | refine Sp.st_iL ?_ | refine Sp.st_iR1 ?_
     | refine Sp.st_iR2 ?_ | refine Sp.st_iET ?_ | refine Sp.st_iZA ?_ | refine Sp.st_iZLT ?_ | refine Sp.st_for ?_ | refine Sp.st_fld ?_
     | refine Sp.st_sfld ?_ | refine Sp.st_prop ?_ | refine Sp.st_meth ?_ | refine Sp.st_make ?_ | refine Sp.st_isN ?_ | refine Sp.st_yes ?_
     | refine Sp.isNI ?_ | refine Sp.notNI ?_ | refine Sp.int1I ?_ | refine Sp.int1B ?_ | refine Sp.min2I ?_ | refine Sp.max2I ?_
     | refine Sp.st_dputN ?_ | refine Sp.st_dgetN ?_ | refine Sp.st_revL ?_ | refine Sp.st_din ?_ | refine Sp.st_dnin ?_ | refine Sp.st_dget ?_ | refine Sp.st_dput ?_ | refine Sp.st_dc ?_ | refine Sp.st_dcN ?_
     | refine Sp.st_sortLam ?_ | refine Sp.st_lc2 ?_ | refine Sp.st_un ?_ | refine Sp.st_lenSet ?_ | refine Sp.st_bm ?_ | refine Sp.st_lenO ?_ | refine Sp.st_sl ?_ | refine Sp.st_part ?_ | refine Sp.st_nopart ?_ | refine Sp.st_intx ?_)
  | ((with_reducible refine Sp.st_wp ?_ ?_); (focus rfl)))
namespace Sp
open PySem PySem.Spec L2

abbrev Cs : Type := Nat × List Nat
abbrev eC (c : Cs) : D := .tuple [.int c.1, ot c.2]
def eCo : Option Cs → D
  | none => .none
  | some c => eC c
theorem tp_eC {K : Fg} {H : Hp} {v : V} {c : Cs} (h : Tp K H v (eC c)) : ∃ a o, v = .ref a ∧ SqT K H a [.int c.1, o] ∧ Tp K H o (ot c.2) := by
  obtain ⟨a, xs, rfl, h1, h2⟩ := tp_tup h
  cases h2 with
  | cons h2 h3 =>
    cases h3 with
    | cons h3 h4 =>
      cases h4
      have h5 := tp_int h2
      subst h5
      exact ⟨a, _, rfl, h1, h3⟩
def casesF (n m : Nat) : List Cs := (allO m).flatMap fun o => (List.range n).map fun s => (s, o)
def homeF (B : Bk) (s : Nat) (o : List Nat) : Bool := decide ((walkF B s o).2 = .home)
def missedF (B : Bk) (s : Nat) (o : List Nat) : Bool := !homeF B s o && decide (B.t ∈ spreadF B.L o s)
def missF (B : Bk) (number : Nat) : Option Cs := (casesF B.n B.L.length).find? fun c => decide (c.2.length ≤ number) && missedF B c.1 c.2
theorem allO_len (m : Nat) : (allO m).length = 2 ^ m := by
  unfold allO allM
  rw [List.length_mergeSort, List.length_map, List.length_range]
theorem casesF_lt {n m : Nat} {c : Cs} (h : c ∈ casesF n m) : c.1 < n := by
  unfold casesF at h
  obtain ⟨o, _, h⟩ := List.mem_flatMap.mp h
  obtain ⟨s, hs, rfl⟩ := List.mem_map.mp h
  exact List.mem_range.mp hs
-- every_outage: slots net 0; cells []
abbrev s_every_outage : Stmt := top 32
abbrev N_every_outage : List Str := ["net"]
theorem sc_every_outage : FnScope N_every_outage ["net"] (defScope s_every_outage) := ⟨rfl, rfl, rfl, by decide +kernel, rfl, by decide +kernel, by decide +kernel⟩
def sp_every_outage (g : Gx) : Sp := fun vs H Q _ => ∃ a, ∃ n : Nat, ∃ L : List (Nat × Nat), vs = [.ref a] ∧ NetAt g H a n L ∧ LamX.Tabs g.T H ∧ ∀ r H', Ex g.T H H' → Tp g.K H' r (.tuple ((allO L.length).map ot)) → Q r H'
theorem ok_every_outage (g : Gx) (T : Blt g.mg) (Z : Fct g) (C_members : CalM g.P g.w g.K g.mg g.base 4 g.oc "members" ["self"] (sp_Outages_members g)) (C_full : CalC g.P g.w g.K g.mg g.base 7 g.oc "full" (sp_Outages_full g)) (C___len__ : CalM g.P g.w g.K g.mg g.base 1 g.nc "__len__" ["self"] (sp_Net___len__ g)) (m_Outages : g.mg "Outages" = some (.ref g.oc)) {f : Addr} {fd : FuncData} (F : Fun g.K "every_outage" "every_outage" s_every_outage f fd) : FnOk g.P g.w g.K g.mg g.base CX0 8 f fd ["net"] (sp_every_outage g) := by
  refine F.ok sc_every_outage (fun vs H Q E h => ?_) (fun cdv A outer s H vs Q E hr h => ?_)
  · first | (obtain ⟨rfl, _⟩ := h; rfl) | (obtain ⟨_, rfl, _⟩ := h; rfl) | (obtain ⟨_, _, rfl, _⟩ := h; rfl) | (obtain ⟨_, _, _, rfl, _⟩ := h; rfl) | (obtain ⟨_, _, _, _, rfl, _⟩ := h; rfl) | (obtain ⟨_, _, _, _, _, rfl, _⟩ := h; rfl) | (obtain ⟨_, _, _, _, _, _, rfl, _⟩ := h; rfl) | (obtain ⟨_, _, _, _, _, _, _, rfl, _⟩ := h; rfl) | (obtain ⟨_, _, _, _, _, _, _, _, rfl, _⟩ := h; rfl) | (obtain ⟨_, _, _, _, _, _, _, _, _, rfl, _⟩ := h; rfl) | (obtain ⟨_, _, _, _, _, _, _, _, _, _, rfl, _⟩ := h; rfl) | (obtain ⟨_, _, _, _, _, _, _, _, _, _, _, rfl, _⟩ := h; rfl) | (obtain ⟨_, _, _, _, _, _, _, _, _, _, _, _, rfl, _⟩ := h; rfl) | (obtain ⟨_, _, _, _, _, _, _, _, _, _, _, _, _, rfl, _⟩ := h; rfl)
  have hu := room_un hr
  obtain ⟨a, n, L, rfl, hn, ht, kk⟩ := h
  refine ⟨_, (pss_one (ps_ret (pe_mF0 C_members (hr.mono (by decide)) (pe_clF C_full (hr.mono (by decide)) (pe_glob (v := .ref g.oc) rfl m_Outages rfl) (pa_cons (pe_lenO C___len__ (hr.mono (by decide)) rfl T.b_len (pv 0)) pa_nil))))), ?_⟩
  have hnet := hn
  obtain ⟨⟨dx, p, xs, q1, q2, q3⟩, nok⟩ := hn
  have nf := nok.few
  walk_at "go"
  refine ⟨rfl, ?_⟩
  walk_at "go"
  refine ⟨a, _, _, rfl, q1, a, n, L, rfl, hnet, L.length, rfl, by omega, by omega, ?_⟩
  walk_at "go"
  refine ⟨L.length, rfl, nf, fun o H1 e1 ho => ?_⟩
  obtain ⟨dx2, p2, z1, z2⟩ := ho.ex
  refine ⟨o, _, _, rfl, z1, rfl, ?_⟩
  walk_at "go"
  exact ⟨o, L.length, rfl, ho, e1.tab ht, fun r H2 e2 hr => kk r H2 (e1.trans e2) hr⟩
-- each_case: slots net 0, outage 1, start 2; cells ['net']
abbrev s_each_case : Stmt := top 33
abbrev N_each_case : List Str := ["net", "outage", "start"]
theorem sc_each_case : FnScope N_each_case ["net"] (defScope s_each_case) := ⟨rfl, rfl, rfl, by decide +kernel, rfl, by decide +kernel, by decide +kernel⟩
def sp_each_case (g : Gx) : Sp := fun vs H Q _ => ∃ a, ∃ n : Nat, ∃ L : List (Nat × Nat), vs = [.ref a] ∧ NetAt g H a n L ∧ LamX.Tabs g.T H ∧ ∀ p H' ys, Ex g.T H H' → H' p = some (.lst ys) → TpAll g.K H' ys ((casesF n L.length).map eC) → Q (.ref p) H'
theorem ok_each_case (g : Gx) (T : Blt g.mg) (Z : Fct g) (C_every_outage : Cal g.P g.w g.K g.mg g.base 8 "every_outage" ["net"] (sp_every_outage g)) (C_nodes : CalP g.P g.w g.K g.mg g.base 1 g.nc "nodes" (sp_Net_nodes g))  {f : Addr} {fd : FuncData} (F : Fun g.K "each_case" "each_case" s_each_case f fd) : FnOk g.P g.w g.K g.mg g.base CX0 9 f fd ["net"] (sp_each_case g) := by
  refine F.ok sc_each_case (fun vs H Q E h => ?_) (fun cdv A outer s H vs Q E hr h => ?_)
  · first | (obtain ⟨rfl, _⟩ := h; rfl) | (obtain ⟨_, rfl, _⟩ := h; rfl) | (obtain ⟨_, _, rfl, _⟩ := h; rfl) | (obtain ⟨_, _, _, rfl, _⟩ := h; rfl) | (obtain ⟨_, _, _, _, rfl, _⟩ := h; rfl) | (obtain ⟨_, _, _, _, _, rfl, _⟩ := h; rfl) | (obtain ⟨_, _, _, _, _, _, rfl, _⟩ := h; rfl) | (obtain ⟨_, _, _, _, _, _, _, rfl, _⟩ := h; rfl) | (obtain ⟨_, _, _, _, _, _, _, _, rfl, _⟩ := h; rfl) | (obtain ⟨_, _, _, _, _, _, _, _, _, rfl, _⟩ := h; rfl) | (obtain ⟨_, _, _, _, _, _, _, _, _, _, rfl, _⟩ := h; rfl) | (obtain ⟨_, _, _, _, _, _, _, _, _, _, _, rfl, _⟩ := h; rfl) | (obtain ⟨_, _, _, _, _, _, _, _, _, _, _, _, rfl, _⟩ := h; rfl) | (obtain ⟨_, _, _, _, _, _, _, _, _, _, _, _, _, rfl, _⟩ := h; rfl)
  have hu := room_un hr
  obtain ⟨a, n, L, rfl, hn, ht, kk⟩ := h
  refine ⟨_, (pss_one (ps_ret (pe_lc2 (own := [("outage", 1), ("start", 2)]) (vs1 := [2]) rfl sc_each_case.nd (iTW g (pe_cF C_every_outage (hr.mono (by decide)) rfl (pa_cons (pv 0) pa_nil))) (blkOk_by rfl) (by decide) (fun _ _ _ _ _ => pg_name (i := 1) sc_each_case.nd rfl (Or.inl rfl)) (fun _ _ _ _ _ => pts_nil) (fun _ _ _ _ _ => (pi_range1 (by rfl) T.b_range (pa_cons (pe_pF C_nodes (hr.mono (by decide)) (pv 0) rfl) pa_nil))) (fun _ _ _ _ _ => pg_name (i := 2) sc_each_case.nd rfl (Or.inl rfl)) (fun _ _ _ _ _ => pts_nil) (fun _ _ _ _ _ => (pe_tup (pa_cons (pv 2) (pa_cons (pv 1) pa_nil))))))), ?_⟩
  have hnet := hn
  obtain ⟨⟨dx, p, xs, q1, q2, q3⟩, nok⟩ := hn
  have nf := nok.few
  have nh := nok.hi
  walk_at "go"
  refine ⟨a, n, L, rfl, hnet, ht, fun r H1 e1 hr => ?_⟩
  walk_at "go"
  obtain ⟨b, xs2, rfl, hb, hx⟩ := tp_tup hr
  refine ⟨b, rfl, ⟨_, hb⟩, ?_⟩
  have hal : (allO L.length).length ≤ 256 := by rw [allO_len]; exact pow_le256 nf
  refine lc2T (T := g.T) (l := allO L.length) (enc := ot) (fun o => (List.range n).map fun s => eC (s, o)) hb hx (fun j z y H7 D hz e7 hy pr Nx hN => ?_) fun l H7 ys nl e7 hl hys => ?_
  · have hjl : j < (allO L.length).length := (List.getElem?_eq_some_iff.mp hz).1
    walk_at "go"
    refine ⟨a, _, _, rfl, (e1.trans e7).at q1, a, n, L, rfl, (e1.trans e7).net hnet, ?_⟩
    walk_at "go"
    refine ⟨n, rfl, by omega, by omega, ?_⟩
    rw [Int.toNat_natCast]
    refine lcIR (T := g.T) (K := g.K) (fun s => eC (s, z)) pr ?_ (fun s H8 hs e8 => ?_) hN
    · have h5 := flat_len (l := (allO L.length).take j) (f := fun o => (List.range n).map fun s => eC (s, o)) (k := 7) fun x _ => by rw [List.length_map, List.length_range]; exact nh
      rw [List.length_take] at h5
      omega
    · intro Yes No hY hN2
      rw [Int.zero_add]
      walk_at "go"
      exact ⟨szr rfl, fun q3 hq3 => hY rfl _ _ (.new hq3) (.tup (.of upd_same) (.cons (.int _) (.cons (Tp.up (e8.tp hy) (noTup_none hq3)) .nil)))⟩
  · walk_at "go"
    refine kk l H7 ys (e1.trans e7) hl ?_
    unfold casesF
    rw [List.map_flatMap]
    simp only [List.map_map]
    exact hys
-- is_home: slots book 0, start 1, outage 2; cells []
abbrev s_is_home : Stmt := top 34
abbrev N_is_home : List Str := ["book", "start", "outage"]
theorem sc_is_home : FnScope N_is_home ["book", "start", "outage"] (defScope s_is_home) := ⟨rfl, rfl, rfl, by decide +kernel, rfl, by decide +kernel, by decide +kernel⟩
def sp_is_home (g : Gx) : Sp := fun vs H Q _ => ∃ a o B, ∃ start : Nat, ∃ out : List Nat, vs = [.ref a, .int start, o] ∧ BookAt g H a B ∧ start < B.n ∧ Tp g.K H o (ot out) ∧ ∀ H', Ex g.T H H' → Q (.bl (homeF B start out)) H'
theorem fate_home (f : Fate) : decide (V.str f.str = V.str "home") = decide (f = .home) := by
  cases f <;> decide +kernel
theorem ok_is_home (g : Gx) (T : Blt g.mg) (Z : Fct g) (C_fate : Cal g.P g.w g.K g.mg g.base 5 "fate" ["book", "start", "outage"] (sp_fate g))  {f : Addr} {fd : FuncData} (F : Fun g.K "is_home" "is_home" s_is_home f fd) : FnOk g.P g.w g.K g.mg g.base CX0 6 f fd ["book", "start", "outage"] (sp_is_home g) := by
  refine F.ok sc_is_home (fun vs H Q E h => ?_) (fun cdv A outer s H vs Q E hr h => ?_)
  · first | (obtain ⟨rfl, _⟩ := h; rfl) | (obtain ⟨_, rfl, _⟩ := h; rfl) | (obtain ⟨_, _, rfl, _⟩ := h; rfl) | (obtain ⟨_, _, _, rfl, _⟩ := h; rfl) | (obtain ⟨_, _, _, _, rfl, _⟩ := h; rfl) | (obtain ⟨_, _, _, _, _, rfl, _⟩ := h; rfl) | (obtain ⟨_, _, _, _, _, _, rfl, _⟩ := h; rfl) | (obtain ⟨_, _, _, _, _, _, _, rfl, _⟩ := h; rfl) | (obtain ⟨_, _, _, _, _, _, _, _, rfl, _⟩ := h; rfl) | (obtain ⟨_, _, _, _, _, _, _, _, _, rfl, _⟩ := h; rfl) | (obtain ⟨_, _, _, _, _, _, _, _, _, _, rfl, _⟩ := h; rfl) | (obtain ⟨_, _, _, _, _, _, _, _, _, _, _, rfl, _⟩ := h; rfl) | (obtain ⟨_, _, _, _, _, _, _, _, _, _, _, _, rfl, _⟩ := h; rfl) | (obtain ⟨_, _, _, _, _, _, _, _, _, _, _, _, _, rfl, _⟩ := h; rfl)
  have hu := room_un hr
  obtain ⟨a, o, B, start, out, rfl, hB, hst, ho, kk⟩ := h
  refine ⟨_, (pss_one (ps_ret (pe_cmpR op_eq (pe_cF C_fate (hr.mono (by decide)) rfl (pa_cons (pv 0) (pa_cons (pv 1) (pa_cons (pv 2) pa_nil)))) pe_str (nomark _)))), ?_⟩
  walk_at "go"
  refine ⟨a, o, B, start, out, rfl, hB, hst, ho, fun H1 e1 => ?_⟩
  walk_at "go"
  refine ⟨rfl, ?_⟩
  rw [fate_home]
  exact kk _ e1
-- is_missed: slots book 0, start 1, outage 2; cells []
abbrev s_is_missed : Stmt := top 35
abbrev N_is_missed : List Str := ["book", "start", "outage"]
theorem sc_is_missed : FnScope N_is_missed ["book", "start", "outage"] (defScope s_is_missed) := ⟨rfl, rfl, rfl, by decide +kernel, rfl, by decide +kernel, by decide +kernel⟩
def sp_is_missed (g : Gx) : Sp := fun vs H Q _ => ∃ a o B, ∃ start : Nat, ∃ out : List Nat, vs = [.ref a, .int start, o] ∧ BookAt g H a B ∧ start < B.n ∧ Tp g.K H o (ot out) ∧ ∀ H', Ex g.T H H' → Q (.bl (missedF B start out)) H'
theorem ok_is_missed (g : Gx) (T : Blt g.mg) (Z : Fct g) (C_is_home : Cal g.P g.w g.K g.mg g.base 6 "is_home" ["book", "start", "outage"] (sp_is_home g)) (C_target : CalP g.P g.w g.K g.mg g.base 1 g.bc "target" (sp_Book_target g)) (C_spread : Cal g.P g.w g.K g.mg g.base 3 "spread" ["net", "outage", "goal"] (sp_spread g)) (C_net : CalP g.P g.w g.K g.mg g.base 1 g.bc "net" (sp_Book_net g))  {f : Addr} {fd : FuncData} (F : Fun g.K "is_missed" "is_missed" s_is_missed f fd) : FnOk g.P g.w g.K g.mg g.base CX0 7 f fd ["book", "start", "outage"] (sp_is_missed g) := by
  refine F.ok sc_is_missed (fun vs H Q E h => ?_) (fun cdv A outer s H vs Q E hr h => ?_)
  · first | (obtain ⟨rfl, _⟩ := h; rfl) | (obtain ⟨_, rfl, _⟩ := h; rfl) | (obtain ⟨_, _, rfl, _⟩ := h; rfl) | (obtain ⟨_, _, _, rfl, _⟩ := h; rfl) | (obtain ⟨_, _, _, _, rfl, _⟩ := h; rfl) | (obtain ⟨_, _, _, _, _, rfl, _⟩ := h; rfl) | (obtain ⟨_, _, _, _, _, _, rfl, _⟩ := h; rfl) | (obtain ⟨_, _, _, _, _, _, _, rfl, _⟩ := h; rfl) | (obtain ⟨_, _, _, _, _, _, _, _, rfl, _⟩ := h; rfl) | (obtain ⟨_, _, _, _, _, _, _, _, _, rfl, _⟩ := h; rfl) | (obtain ⟨_, _, _, _, _, _, _, _, _, _, rfl, _⟩ := h; rfl) | (obtain ⟨_, _, _, _, _, _, _, _, _, _, _, rfl, _⟩ := h; rfl) | (obtain ⟨_, _, _, _, _, _, _, _, _, _, _, _, rfl, _⟩ := h; rfl) | (obtain ⟨_, _, _, _, _, _, _, _, _, _, _, _, _, rfl, _⟩ := h; rfl)
  have hu := room_un hr
  obtain ⟨a, o, B, start, out, rfl, hB, hst, ho, kk⟩ := h
  refine ⟨_, (pss_one (ps_ret (pe_and (pe_not (pe_cF C_is_home (hr.mono (by decide)) rfl (pa_cons (pv 0) (pa_cons (pv 1) (pa_cons (pv 2) pa_nil))))) (pe_one (pe_cmp (dinW hu (pe_pF C_target (hr.mono (by decide)) (pv 0) rfl) (pe_cF C_spread (hr.mono (by decide)) rfl (pa_cons (pe_pF C_net (hr.mono (by decide)) (pv 0) rfl) (pa_cons (pv 2) (pa_cons (pv 1) pa_nil))))) rfl))))), ?_⟩
  have hBook := hB
  obtain ⟨⟨dx, gr, d0, l, kvs, h1, h2, h3, h4⟩, ok⟩ := hB
  walk_at "go"
  refine ⟨a, o, B, start, out, rfl, hBook, hst, ho, fun H1 e1 => ?_⟩
  refine st_blx ?_
  cases hh : homeF B start out with
  | true =>
    refine st_blx ?_
    refine st_F rfl ?_
    walk_at "go"
    have : missedF B start out = false := by unfold missedF; rw [hh]; rfl
    rw [← this]
    exact kk _ e1
  | false =>
    refine st_blx ?_
    refine st_T rfl ?_
    walk_at "go"
    refine ⟨a, _, _, rfl, e1.at h1, a, B, rfl, e1.book hBook, ?_⟩
    walk_at "go"
    refine ⟨a, _, _, rfl, e1.at h1, a, B, rfl, e1.book hBook, fun gr2 hg2 => ?_⟩
    walk_at "go"
    refine ⟨gr2, o, B.n, start, B.L, out, rfl, hg2, e1.tp ho, hst, fun d H2 e2 hd => ?_⟩
    obtain ⟨kvs2, k1, k2, k3, k4⟩ := hd
    refine ⟨d, _, rfl, DGet.k (k := .inl (B.t : Int)) k1, ?_⟩
    have hm : (valV kvs2 (.inl (B.t : Int))).isSome = missedF B start out := by
      unfold missedF
      rw [hh, Bool.not_false, Bool.true_and]
      by_cases hin : B.t ∈ spreadF B.L out start
      · obtain ⟨vv, hv⟩ := k3 B.t hin
        rw [hv, decide_eq_true hin]; rfl
      · rw [k4 B.t hin, decide_eq_false hin]; rfl
    rw [hm]
    exact kk _ (e1.trans e2)
-- first_miss_within: slots book 0, number 1, start 2, outage 3; cells []
abbrev s_first_miss_within : Stmt := top 36
abbrev N_first_miss_within : List Str := ["book", "number", "start", "outage"]
theorem sc_first_miss_within : FnScope N_first_miss_within ["book", "number"] (defScope s_first_miss_within) := ⟨rfl, rfl, rfl, by decide +kernel, rfl, by decide +kernel, by decide +kernel⟩
def sp_first_miss_within (g : Gx) : Sp := fun vs H Q _ => ∃ a B, ∃ number : Nat, vs = [.ref a, .int number] ∧ BookAt g H a B ∧ LamX.Tabs g.T H ∧ ∀ r H', Ex g.T H H' → Tp g.K H' r (eCo (missF B number)) → Q r H'
theorem ok_first_miss_within (g : Gx) (T : Blt g.mg) (Z : Fct g) (C_each_case : Cal g.P g.w g.K g.mg g.base 9 "each_case" ["net"] (sp_each_case g)) (C_net : CalP g.P g.w g.K g.mg g.base 1 g.bc "net" (sp_Book_net g)) (C_is_missed : Cal g.P g.w g.K g.mg g.base 7 "is_missed" ["book", "start", "outage"] (sp_is_missed g))  {f : Addr} {fd : FuncData} (F : Fun g.K "first_miss_within" "first_miss_within" s_first_miss_within f fd) : FnOk g.P g.w g.K g.mg g.base CX0 10 f fd ["book", "number"] (sp_first_miss_within g) := by
  refine F.ok sc_first_miss_within (fun vs H Q E h => ?_) (fun cdv A outer s H vs Q E hr h => ?_)
  · first | (obtain ⟨rfl, _⟩ := h; rfl) | (obtain ⟨_, rfl, _⟩ := h; rfl) | (obtain ⟨_, _, rfl, _⟩ := h; rfl) | (obtain ⟨_, _, _, rfl, _⟩ := h; rfl) | (obtain ⟨_, _, _, _, rfl, _⟩ := h; rfl) | (obtain ⟨_, _, _, _, _, rfl, _⟩ := h; rfl) | (obtain ⟨_, _, _, _, _, _, rfl, _⟩ := h; rfl) | (obtain ⟨_, _, _, _, _, _, _, rfl, _⟩ := h; rfl) | (obtain ⟨_, _, _, _, _, _, _, _, rfl, _⟩ := h; rfl) | (obtain ⟨_, _, _, _, _, _, _, _, _, rfl, _⟩ := h; rfl) | (obtain ⟨_, _, _, _, _, _, _, _, _, _, rfl, _⟩ := h; rfl) | (obtain ⟨_, _, _, _, _, _, _, _, _, _, _, rfl, _⟩ := h; rfl) | (obtain ⟨_, _, _, _, _, _, _, _, _, _, _, _, rfl, _⟩ := h; rfl) | (obtain ⟨_, _, _, _, _, _, _, _, _, _, _, _, _, rfl, _⟩ := h; rfl)
  have hu := room_un hr
  obtain ⟨a, B, number, rfl, hB, ht, kk⟩ := h
  refine ⟨_, (pss_cons (ps_for PassesOwn.never rfl (iLW g (pe_cF C_each_case (hr.mono (by decide)) rfl (pa_cons (pe_pF C_net (hr.mono (by decide)) (pv 0) rfl) pa_nil))) (gTW g (n := 2) rfl (pgs_cons (pg_name (i := 2) sc_first_miss_within.nd rfl (Or.inl rfl)) (pgs_cons (pg_name (i := 3) sc_first_miss_within.nd rfl (Or.inl rfl)) pgs_nil))) (pss_one (ps_if (PW.pt (pw_and (pt_cmpR op_le (pe_callB (lenW g) (by rfl) T.b_len boot_f_len (pa_cons (pv 3) pa_nil)) (pv 1) (nomark _)) (pw_and1 (pt_val (pe_cF C_is_missed (hr.mono (by decide)) rfl (pa_cons (pv 0) (pa_cons (pv 2) (pa_cons (pv 3) pa_nil)))))))) (pss_one (ps_ret (pe_tup (pa_cons (pv 2) (pa_cons (pv 3) pa_nil))))) pss_nil)))
      (pss_one (ps_ret pe_non))), ?_⟩
  have hBook := hB
  obtain ⟨⟨dx, gr, d0, l, kvs, h1, h2, h3, h4⟩, ok⟩ := hB
  walk_at "go"
  refine ⟨a, _, _, rfl, h1, a, B, rfl, hBook, fun gr2 hg2 => ?_⟩
  walk_at "go"
  refine ⟨gr2, B.n, B.L, rfl, hg2, ht, fun p H1 ys e1 hp hy => ?_⟩
  walk_at "go"
  refine ⟨p, rfl, ⟨_, .of hp⟩, ?_⟩
  refine forL (K := g.K) (xs := ys) (fun i σ H2 => Ex g.T H1 H2 ∧ (∀ c ∈ (casesF B.n B.L.length).take i, (decide (c.2.length ≤ number) && missedF B c.1 c.2) = false) ∧ ∃ x2 x3, σ = [some (.ref a), some (.int number), x2, x3]) ⟨.refl _, by simp, _, _, rfl⟩ (fun i σ H2 p => .of (p.1.at hp)) (fun i x σ H2 hi p2 => ?_) (fun σ H2 p2 => ?_)
  · obtain ⟨e2, hall, x2, x3, rfl⟩ := p2
    obtain ⟨c, hc, hxc⟩ := hy.src hi
    have hcm := List.mem_of_getElem? hc
    have hclt := casesF_lt hcm
    obtain ⟨ca, o, rfl, hca, ho⟩ := tp_eC (e2.tp hxc)
    have e12 := e1.trans e2
    obtain ⟨oa, os, rfl, hoa, hos⟩ := tp_tup ho
    refine st_g2 hca ?_
    walk_at "go"
    refine lenT hoa ?_
    walk_at "go"
    have hol : os.length = c.2.length := by rw [hos.len, List.length_map]
    rw [hol]
    have next : (decide (c.2.length ≤ number) && missedF B c.1 c.2) = false → ∀ c' ∈ (casesF B.n B.L.length).take (i + 1), (decide (c'.2.length ≤ number) && missedF B c'.1 c'.2) = false := fun h0 c' hc' => by
      rw [List.take_succ, hc, Option.toList_some] at hc'
      rcases List.mem_append.mp hc' with hc' | hc'
      · exact hall c' hc'
      · rw [List.mem_singleton.mp hc']
        exact h0
    have fin : (decide (c.2.length ≤ number) && missedF B c.1 c.2) = true → missF B number = some c := fun h0 => by
      unfold missF
      rw [List.find?_eq_some_iff_getElem]
      obtain ⟨hl, he⟩ := List.getElem?_eq_some_iff.mp hc
      refine ⟨h0, i, hl, he, fun j hj => ?_⟩
      have := hall ((casesF B.n B.L.length)[j]) (List.mem_take_iff_getElem.mpr ⟨j, by omega, rfl⟩)
      rw [this]; rfl
    by_cases hle : c.2.length ≤ number
    · refine st_T (decide_eq_true (by omega)) ?_
      walk_at "go"
      refine ⟨a, _, B, c.1, c.2, rfl, e12.book hBook, hclt, ho, fun H3 e3 => ?_⟩
      refine st_blx ?_
      cases hm : missedF B c.1 c.2 with
      | true =>
        walk_at "go"
        refine ⟨szr rfl, fun q hq => ?_⟩
        walk_at "go"
        refine kk _ _ (e12.trans (e3.trans (.new hq))) ?_
        rw [fin (by rw [decide_eq_true hle, hm]; rfl)]
        exact .tup (.of upd_same) (.cons (.int _) (.cons (Tp.up (e3.tp ho) (noTup_none hq)) .nil))
      | false =>
        walk_at "go"
        exact ⟨e2.trans e3, next (by rw [hm, Bool.and_false]), _, _, rfl⟩
    · refine st_F (decide_eq_false (by omega)) ?_
      walk_at "go"
      exact ⟨e2, next (by rw [decide_eq_false hle]; rfl), _, _, rfl⟩
  · obtain ⟨e2, hall, x2, x3, rfl⟩ := p2
    walk_at "go"
    refine kk _ _ (e1.trans e2) ?_
    have hl : ys.length = (casesF B.n B.L.length).length := by rw [hy.len, List.length_map]
    rw [hl, List.take_length] at hall
    have : missF B number = none := by
      unfold missF
      rw [List.find?_eq_none]
      intro c hc
      rw [hall c hc]
      decide
    rw [this]
    exact .non
-- first_miss: slots book 0; cells []
abbrev s_first_miss : Stmt := top 37
abbrev N_first_miss : List Str := ["book"]
theorem sc_first_miss : FnScope N_first_miss ["book"] (defScope s_first_miss) := ⟨rfl, rfl, rfl, by decide +kernel, rfl, by decide +kernel, by decide +kernel⟩
def sp_first_miss (g : Gx) : Sp := fun vs H Q _ => ∃ a B, vs = [.ref a] ∧ BookAt g H a B ∧ LamX.Tabs g.T H ∧ ∀ r H', Ex g.T H H' → Tp g.K H' r (eCo (missF B B.L.length)) → Q r H'
theorem ok_first_miss (g : Gx) (T : Blt g.mg) (Z : Fct g) (C_first_miss_within : Cal g.P g.w g.K g.mg g.base 10 "first_miss_within" ["book", "number"] (sp_first_miss_within g)) (C___len__ : CalM g.P g.w g.K g.mg g.base 1 g.nc "__len__" ["self"] (sp_Net___len__ g)) (C_net : CalP g.P g.w g.K g.mg g.base 1 g.bc "net" (sp_Book_net g))  {f : Addr} {fd : FuncData} (F : Fun g.K "first_miss" "first_miss" s_first_miss f fd) : FnOk g.P g.w g.K g.mg g.base CX0 11 f fd ["book"] (sp_first_miss g) := by
  refine F.ok sc_first_miss (fun vs H Q E h => ?_) (fun cdv A outer s H vs Q E hr h => ?_)
  · first | (obtain ⟨rfl, _⟩ := h; rfl) | (obtain ⟨_, rfl, _⟩ := h; rfl) | (obtain ⟨_, _, rfl, _⟩ := h; rfl) | (obtain ⟨_, _, _, rfl, _⟩ := h; rfl) | (obtain ⟨_, _, _, _, rfl, _⟩ := h; rfl) | (obtain ⟨_, _, _, _, _, rfl, _⟩ := h; rfl) | (obtain ⟨_, _, _, _, _, _, rfl, _⟩ := h; rfl) | (obtain ⟨_, _, _, _, _, _, _, rfl, _⟩ := h; rfl) | (obtain ⟨_, _, _, _, _, _, _, _, rfl, _⟩ := h; rfl) | (obtain ⟨_, _, _, _, _, _, _, _, _, rfl, _⟩ := h; rfl) | (obtain ⟨_, _, _, _, _, _, _, _, _, _, rfl, _⟩ := h; rfl) | (obtain ⟨_, _, _, _, _, _, _, _, _, _, _, rfl, _⟩ := h; rfl) | (obtain ⟨_, _, _, _, _, _, _, _, _, _, _, _, rfl, _⟩ := h; rfl) | (obtain ⟨_, _, _, _, _, _, _, _, _, _, _, _, _, rfl, _⟩ := h; rfl)
  have hu := room_un hr
  obtain ⟨a, B, rfl, hB, ht, kk⟩ := h
  refine ⟨_, (pss_one (ps_ret (pe_cF C_first_miss_within (hr.mono (by decide)) rfl (pa_cons (pv 0) (pa_cons (pe_lenO C___len__ (hr.mono (by decide)) rfl T.b_len (pe_pF C_net (hr.mono (by decide)) (pv 0) rfl)) pa_nil))))), ?_⟩
  have hBook := hB
  obtain ⟨⟨dx, gr, d0, l, kvs, h1, h2, h3, h4⟩, ok⟩ := hB
  have nf := ok.net.few
  walk_at "go"
  refine ⟨a, _, _, rfl, h1, a, B, rfl, hBook, fun gr2 hg2 => ?_⟩
  obtain ⟨dx2, p2, ys2, q1, _⟩ := hg2.ex
  refine ⟨gr2, _, _, rfl, q1, gr2, B.n, B.L, rfl, hg2, B.L.length, rfl, by omega, by omega, ?_⟩
  walk_at "go"
  exact ⟨a, B, B.L.length, rfl, hBook, ht, kk⟩
/-- what the strength is -/
def strF (B : Bk) : Int := match missF B B.L.length with
  | none => B.L.length
  | some c => (c.2.length : Int) - 1
-- strength: slots book 0, miss 1; cells []
abbrev s_strength : Stmt := top 38
abbrev N_strength : List Str := ["book", "miss"]
theorem sc_strength : FnScope N_strength ["book"] (defScope s_strength) := ⟨rfl, rfl, rfl, by decide +kernel, rfl, by decide +kernel, by decide +kernel⟩
def sp_strength (g : Gx) : Sp := fun vs H Q _ => ∃ a B, vs = [.ref a] ∧ BookAt g H a B ∧ LamX.Tabs g.T H ∧ ∀ H', Ex g.T H H' → Q (.int (strF B)) H'
theorem ok_strength (g : Gx) (T : Blt g.mg) (Z : Fct g) (C_first_miss : Cal g.P g.w g.K g.mg g.base 11 "first_miss" ["book"] (sp_first_miss g)) (C___len__ : CalM g.P g.w g.K g.mg g.base 1 g.nc "__len__" ["self"] (sp_Net___len__ g)) (C_net : CalP g.P g.w g.K g.mg g.base 1 g.bc "net" (sp_Book_net g))  {f : Addr} {fd : FuncData} (F : Fun g.K "strength" "strength" s_strength f fd) : FnOk g.P g.w g.K g.mg g.base CX0 12 f fd ["book"] (sp_strength g) := by
  refine F.ok sc_strength (fun vs H Q E h => ?_) (fun cdv A outer s H vs Q E hr h => ?_)
  · first | (obtain ⟨rfl, _⟩ := h; rfl) | (obtain ⟨_, rfl, _⟩ := h; rfl) | (obtain ⟨_, _, rfl, _⟩ := h; rfl) | (obtain ⟨_, _, _, rfl, _⟩ := h; rfl) | (obtain ⟨_, _, _, _, rfl, _⟩ := h; rfl) | (obtain ⟨_, _, _, _, _, rfl, _⟩ := h; rfl) | (obtain ⟨_, _, _, _, _, _, rfl, _⟩ := h; rfl) | (obtain ⟨_, _, _, _, _, _, _, rfl, _⟩ := h; rfl) | (obtain ⟨_, _, _, _, _, _, _, _, rfl, _⟩ := h; rfl) | (obtain ⟨_, _, _, _, _, _, _, _, _, rfl, _⟩ := h; rfl) | (obtain ⟨_, _, _, _, _, _, _, _, _, _, rfl, _⟩ := h; rfl) | (obtain ⟨_, _, _, _, _, _, _, _, _, _, _, rfl, _⟩ := h; rfl) | (obtain ⟨_, _, _, _, _, _, _, _, _, _, _, _, rfl, _⟩ := h; rfl) | (obtain ⟨_, _, _, _, _, _, _, _, _, _, _, _, _, rfl, _⟩ := h; rfl)
  have hu := room_un hr
  obtain ⟨a, B, rfl, hB, ht, kk⟩ := h
  refine ⟨_, (pss_cons (ps_set (i := 1) sc_strength.nd rfl (Or.inl rfl) (pe_cF C_first_miss (hr.mono (by decide)) rfl (pa_cons (pv 0) pa_nil)))
      (pss_one (ps_ret (pe_ifExp (pt_cmpR isNW (pv 1) pe_non (nomark _)) (pe_lenO C___len__ (hr.mono (by decide)) rfl T.b_len (pe_pF C_net (hr.mono (by decide)) (pv 0) rfl)) (pe_op op_sub (pe_callB (lenW g) (by rfl) T.b_len boot_f_len (pa_cons (pe_ix (ixW g) (pv 1) pe_int (fun _ _ => rfl)) pa_nil)) pe_int))))), ?_⟩
  have hBook := hB
  obtain ⟨⟨dx, gr, d0, l, kvs, h1, h2, h3, h4⟩, ok⟩ := hB
  have nf := ok.net.few
  walk_at "go"
  refine ⟨a, B, rfl, hBook, ht, fun r H1 e1 hr => ?_⟩
  walk_at "go"
  cases hm : missF B B.L.length with
  | none =>
    rw [hm] at hr
    have h0 := tp_non hr
    subst h0
    refine st_T rfl ?_
    walk_at "go"
    refine ⟨a, _, _, rfl, e1.at h1, a, B, rfl, e1.book hBook, fun gr2 hg2 => ?_⟩
    obtain ⟨dx2, p2, ys2, q1, _⟩ := hg2.ex
    refine ⟨gr2, _, _, rfl, q1, gr2, B.n, B.L, rfl, hg2, B.L.length, rfl, by omega, by omega, ?_⟩
    have : strF B = B.L.length := by unfold strF; rw [hm]
    rw [← this]
    exact kk _ e1
  | some c =>
    rw [hm] at hr
    obtain ⟨ca, o, rfl, hca, ho⟩ := tp_eC hr
    refine st_F rfl ?_
    walk_at "go"
    refine st_ixT hca rfl ?_
    obtain ⟨oa, os, rfl, hoa, hos⟩ := tp_tup ho
    walk_at "go"
    refine lenT hoa ?_
    walk_at "go"
    have hol : os.length = c.2.length := by rw [hos.len, List.length_map]
    have : strF B = (os.length : Int) - 1 := by unfold strF; rw [hm, hol]
    rw [← this]
    exact kk _ e1
end Sp
end
section
set_option Elab.async false
set_option linter.all false
set_option maxRecDepth 100000
set_option maxHeartbeats 4000000
set_option autoImplicit false
local macro_rules | `(tactic| walk_at "go") => `(tactic| repeat first
  | (with_reducible first
     | refine Sp.st_var rfl ?_ | refine Sp.st_c ?_ | refine Sp.st_op ?_ | refine Sp.st_seq ?_ | refine Sp.st_asg ?_ | refine Sp.st_name ?_
     | refine Sp.st_ret ?_ | refine Sp.st_drop ?_ | refine Sp.st_next ?_ | refine Sp.st_if ?_ | refine Sp.st_nx ?_ | refine Sp.st_rt ?_
     | refine Sp.st_cons ?_ | refine Sp.st_nil ?_ | refine Sp.st_cb ?_ | refine Sp.st_call ?_ | refine Sp.st_test ?_ | refine Sp.st_B ?_
     | refine Sp.st_not ?_ | refine Sp.st_and ?_ | refine Sp.st_or ?_ | refine Sp.st_andV ?_ | refine Sp.st_orV ?_ | refine Sp.st_notV ?_
     | refine Sp.st_tif ?_ | refine Sp.st_tup ?_ | refine Sp.st_lst ?_ | refine Sp.st_blx ?_ | refine Sp.st_I0 ?_ | refine Sp.st_U ?_
     | refine Sp.st_eqI ?_ | refine Sp.st_neI ?_ | refine Sp.st_chain ?_ | refine Sp.isiI ?_ | refine Sp.isiB ?_ | refine Sp.isiS ?_
     | refine Sp.st_T rfl ?_ | refine Sp.st_F rfl ?_ | refine Sp.st_lc ?_ | refine Sp.st_iT ?_ | refine Sp.st_iL ?_ | refine Sp.st_iR1 ?_
     | refine Sp.st_iR2 ?_ | refine Sp.st_iET ?_ | refine Sp.st_iZA ?_ | refine Sp.st_iZLT ?_ | refine Sp.st_for ?_ | refine Sp.st_fld ?_
     | refine Sp.st_sfld ?_ | refine Sp.st_prop ?_ | refine Sp.st_meth ?_ | refine Sp.st_make ?_ | refine Sp.st_isN ?_ | refine Sp.st_yes ?_
     | refine Sp.isNI ?_ | refine Sp.notNI ?_ | refine Sp.int1I ?_ | refine Sp.int1B ?_ | refine Sp.min2I ?_ | refine Sp.max2I ?_
     | refine Sp.st_dputN ?_ | refine Sp.st_dgetN ?_ | refine Sp.st_revL ?_ | refine Sp.st_din ?_ | refine Sp.st_dnin ?_ | refine Sp.st_dget ?_ | refine Sp.st_dput ?_ | refine Sp.st_dc ?_ | refine Sp.st_dcN ?_
     | refine Sp.st_sortLam ?_ | refine Sp.st_lc2 ?_ | refine Sp.st_un ?_ | refine Sp.st_lenSet ?_ | refine Sp.st_bm ?_ | refine Sp.st_lenO ?_ | refine Sp.st_sl ?_ | refine Sp.st_part ?_ | refine Sp.st_nopart ?_ | refine Sp.st_intx ?_)
  | ((with_reducible refine Sp.st_wp ?_ ?_); (focus rfl)))
namespace Sp
open PySem PySem.Spec L2

/-! ### mends -/
structure OfOk (n : Nat) (L : List (Nat × Nat)) (t w : Nat) (ofs : List (Ky × Row)) : Prop where
  key : ∀ x ∈ ofs, KeyOk n L t w x.1
  row : ∀ x ∈ ofs, RowOk L x.1.1 w x.2
  few : ofs.length ≤ 6
def dflt : Ky × Row := ((0, none, 0), [])
def keyAt (ofs : List (Ky × Row)) (i : Nat) : Ky := (ofs.getD i dflt).1
def pick (ofs : List (Ky × Row)) (ch : List Nat) : List (Ky × Row) := ch.map fun i => ofs.getD i dflt
structure ChOk (ofs : List (Ky × Row)) (ch : List Nat) : Prop where
  lt : ∀ i ∈ ch, i < ofs.length
  nd : (ch.map (keyAt ofs)).Nodup
  few : ch.length ≤ 6
theorem pick_keys (ofs : List (Ky × Row)) (ch : List Nat) : (pick ofs ch).map (·.1) = ch.map (keyAt ofs) := by
  unfold pick
  rw [List.map_map]
  rfl
theorem getD_mem {ofs : List (Ky × Row)} {i : Nat} (h : i < ofs.length) : ofs.getD i dflt ∈ ofs := by
  rw [List.getD_eq_getElem?_getD, List.getElem?_eq_getElem h]
  exact List.getElem_mem h
theorem pick_ok {n : Nat} {L : List (Nat × Nat)} {t w : Nat} {ofs : List (Ky × Row)} {ch : List Nat} (ok : OfOk n L t w ofs) (c : ChOk ofs ch) : RowsOk n L t w (pick ofs ch) := by
  have hm : ∀ x ∈ pick ofs ch, x ∈ ofs := fun x hx => by
    unfold pick at hx
    obtain ⟨i, hi, rfl⟩ := List.mem_map.mp hx
    exact getD_mem (c.lt i hi)
  refine ⟨fun x hx => ok.key x (hm x hx), fun x hx => ok.row x (hm x hx), by rw [pick_keys]; exact c.nd, ?_⟩
  unfold pick
  rw [List.length_map]
  have := c.few
  omega
def changedF (B : Bk) (ofs : List (Ky × Row)) (ch : List Nat) : Bk := putRows B (pick ofs ch)
-- changed: slots book 0, offers 1, choice 2, index 3; cells ['offers']
abbrev s_changed : Stmt := top 40
abbrev N_changed : List Str := ["book", "offers", "choice", "index"]
theorem sc_changed : FnScope N_changed ["book", "offers", "choice"] (defScope s_changed) := ⟨rfl, rfl, rfl, by decide +kernel, rfl, by decide +kernel, by decide +kernel⟩
def sp_changed (g : Gx) : Sp := fun vs H Q _ => ∃ a v c B, ∃ ofs : List (Ky × Row), ∃ ch : List Nat, vs = [.ref a, v, c] ∧ BookAt g H a B ∧ Tp g.K H v (.tuple (ofs.map eO)) ∧ OfOk B.n B.L B.t B.w ofs ∧ Tp g.K H c (ot ch) ∧ ChOk ofs ch ∧ ∀ b H', Ex g.T H H' → BookAt g H' b (changedF B ofs ch) → Q (.ref b) H'
theorem ok_changed (g : Gx) (T : Blt g.mg) (Z : Fct g) (C_with_rows : CalM g.P g.w g.K g.mg g.base 7 g.bc "with_rows" ["self", "rows"] (sp_Book_with_rows g))  {f : Addr} {fd : FuncData} (F : Fun g.K "changed" "changed" s_changed f fd) : FnOk g.P g.w g.K g.mg g.base CX0 8 f fd ["book", "offers", "choice"] (sp_changed g) := by
  refine F.ok sc_changed (fun vs H Q E h => ?_) (fun cdv A outer s H vs Q E hr h => ?_)
  · first | (obtain ⟨rfl, _⟩ := h; rfl) | (obtain ⟨_, rfl, _⟩ := h; rfl) | (obtain ⟨_, _, rfl, _⟩ := h; rfl) | (obtain ⟨_, _, _, rfl, _⟩ := h; rfl) | (obtain ⟨_, _, _, _, rfl, _⟩ := h; rfl) | (obtain ⟨_, _, _, _, _, rfl, _⟩ := h; rfl) | (obtain ⟨_, _, _, _, _, _, rfl, _⟩ := h; rfl) | (obtain ⟨_, _, _, _, _, _, _, rfl, _⟩ := h; rfl) | (obtain ⟨_, _, _, _, _, _, _, _, rfl, _⟩ := h; rfl) | (obtain ⟨_, _, _, _, _, _, _, _, _, rfl, _⟩ := h; rfl) | (obtain ⟨_, _, _, _, _, _, _, _, _, _, rfl, _⟩ := h; rfl) | (obtain ⟨_, _, _, _, _, _, _, _, _, _, _, rfl, _⟩ := h; rfl) | (obtain ⟨_, _, _, _, _, _, _, _, _, _, _, _, rfl, _⟩ := h; rfl) | (obtain ⟨_, _, _, _, _, _, _, _, _, _, _, _, _, rfl, _⟩ := h; rfl)
  have hu := room_un hr
  obtain ⟨a, v, c, B, ofs, ch, rfl, hB, hv, ok, hc, cok, kk⟩ := h
  refine ⟨_, (pss_one (ps_ret (pe_mF C_with_rows (hr.mono (by decide)) (pv 0) (pa_cons (pe_callTy (tupOfW g) (by rfl) T.b_tuple boot_t_tuple (pa_cons (pe_lc (own := [("index", 3)]) rfl sc_changed.nd (iTW g (pv 2)) (blkOk_by rfl) (fun _ _ _ _ _ => pg_name (i := 3) sc_changed.nd rfl (Or.inl rfl)) (fun _ _ _ _ _ => pts_nil) (fun _ _ _ _ _ => (pe_ix (ixW g) (pv 1) (pv 3) (fun _ _ => rfl)))) pa_nil)) pa_nil)))), ?_⟩
  have hBook := hB
  obtain ⟨⟨dx, gr, d0, l, kvs, h1, h2, h3, h4⟩, bok⟩ := hB
  obtain ⟨va, vx, rfl, hva, hvx⟩ := tp_tup hv
  obtain ⟨ca, cx, rfl, hca, hcx⟩ := tp_tup hc
  have cf := cok.few
  walk_at "go"
  refine ⟨a, _, _, rfl, h1, rfl, ?_⟩
  walk_at "go"
  refine ⟨ca, rfl, ⟨_, hca⟩, ?_⟩
  refine lcT (T := g.T) (l := ch) (enc := eN) (fun _ => true) (fun i => eO (ofs.getD i dflt)) hca hcx (by omega) (fun z x H1 hz e1 hx => ?_) fun p H1 ys np e1 hp hy => ?_
  · intro Yes No hY hN
    cases tp_int hx
    walk_at "go"
    have hzl := cok.lt z hz
    obtain ⟨y, hy1, hy2⟩ := hvx.get (i := z) (d := eO (ofs.getD z dflt)) (by rw [List.getElem?_map, List.getD_eq_getElem?_getD, List.getElem?_eq_getElem hzl]; rfl)
    refine st_ixT (e1.st hva) (atI_nat hy1) ?_
    exact hY rfl _ _ (.refl _) (e1.tp hy2)
  · rw [List.filter_eq_self.mpr (fun _ _ => rfl)] at hy
    walk_at "go"
    refine tupL (.of hp) fun q hq => ?_
    walk_at "go"
    have e2 := e1.trans (.new (o := .tup ys) hq)
    refine ⟨a, _, B, pick ofs ch, rfl, e2.book hBook, .tup (.of upd_same) ?_, pick_ok ok cok, ?_, fun b H' e3 hb => kk b H' (e2.trans e3) hb⟩
    · unfold pick
      rw [List.map_map]
      exact hy.up (noTup_none hq)
    · unfold pick
      rw [List.length_map]
      omega
def lastC (ch : List Nat) : Nat := ch.getLastD 0
def laterF (ofs : List (Ky × Row)) (ch : List Nat) : List Nat := (List.range ofs.length).filter fun i => decide (ch = []) || decide (lastC ch < i)
def nextsF (ofs : List (Ky × Row)) (ch : List Nat) : List (List Nat) := ((laterF ofs ch).filter fun i => !decide (keyAt ofs i ∈ ch.map (keyAt ofs))).map fun i => ch ++ [i]
def choicesF (ofs : List (Ky × Row)) : Nat → List (List Nat)
  | 0 => [[]]
  | s + 1 => (choicesF ofs s).flatMap (nextsF ofs)
theorem nexts_len {ofs : List (Ky × Row)} {ch : List Nat} (h : ofs.length ≤ 6) : (nextsF ofs ch).length ≤ 6 := by
  unfold nextsF laterF
  rw [List.length_map]
  refine Nat.le_trans (List.length_filter_le _ _) (Nat.le_trans (List.length_filter_le _ _) ?_)
  rw [List.length_range]
  exact h
theorem choices_len {ofs : List (Ky × Row)} (h : ofs.length ≤ 6) : ∀ s, (choicesF ofs s).length ≤ 6 ^ s
  | 0 => Nat.le_refl _
  | s + 1 => by
    have h1 := choices_len h s
    have h2 := flat_len (l := choicesF ofs s) (f := nextsF ofs) (k := 6) fun x _ => nexts_len h
    have h3 : (choicesF ofs s).length * 6 ≤ 6 ^ s * 6 := Nat.mul_le_mul_right 6 h1
    rw [Nat.pow_succ]
    exact Nat.le_trans h2 h3
/-- what each choice of so many offers is -/
theorem choices_ok {ofs : List (Ky × Row)} : ∀ {s : Nat} {ch : List Nat}, ch ∈ choicesF ofs s → (∀ i ∈ ch, i < ofs.length) ∧ (ch.map (keyAt ofs)).Nodup ∧ ch.length = s
  | 0, ch, h => by
    rw [choicesF, List.mem_singleton] at h
    subst h
    exact ⟨fun i hi => (nomatch hi), List.nodup_nil, rfl⟩
  | s + 1, ch, h => by
    rw [choicesF] at h
    obtain ⟨c0, hc0, h⟩ := List.mem_flatMap.mp h
    obtain ⟨h1, h2, h3⟩ := choices_ok hc0
    unfold nextsF at h
    obtain ⟨i, hi, rfl⟩ := List.mem_map.mp h
    obtain ⟨hi1, hi2⟩ := List.mem_filter.mp hi
    unfold laterF at hi1
    have hil := List.mem_range.mp (List.mem_filter.mp hi1).1
    refine ⟨fun j hj => ?_, ?_, by rw [List.length_append, h3]; rfl⟩
    · rcases List.mem_append.mp hj with hj | hj
      · exact h1 j hj
      · rw [List.mem_singleton.mp hj]; exact hil
    · rw [List.map_append, List.nodup_append]
      refine ⟨h2, nd1 _, fun x hx y hy e => ?_⟩
      rw [List.map_cons, List.map_nil, List.mem_singleton] at hy
      subst hy
      subst e
      simp only [Bool.not_eq_true', decide_eq_false_iff_not] at hi2
      exact hi2 hx
theorem choices_chok {ofs : List (Ky × Row)} {s : Nat} {ch : List Nat} (hs : s ≤ 3) (h : ch ∈ choicesF ofs s) : ChOk ofs ch := by
  obtain ⟨h1, h2, h3⟩ := choices_ok h
  exact ⟨h1, h2, by omega⟩
theorem ot_last {K : Fg} {H : Hp} {xs : List V} {ch : List Nat} (h : TpAll K H xs (ch.map fun n : Nat => PyData.int n)) (hne : ch ≠ []) : atI xs (-1) = some (.int (lastC ch)) := by
  have hxs := tpInts (l := ch.map fun n : Nat => (n : Int)) (by rw [List.map_map]; exact h)
  subst hxs
  have e : ch = ch.dropLast ++ [ch.getLast hne] := (List.dropLast_concat_getLast hne).symm
  have el : lastC ch = ch.getLast hne := by
    unfold lastC
    rw [List.getLastD_eq_getLast?, List.getLast?_eq_some_getLast hne]
    rfl
  rw [el]
  have e2 : (ch.map fun n : Nat => (n : Int)).map V.int = ((ch.dropLast.map fun n : Nat => (n : Int)).map V.int) ++ [.int (ch.getLast hne)] := by
    conv => lhs; rw [e]
    rw [List.map_append, List.map_append]
    rfl
  rw [e2]
  exact atI_last _ _
-- choices: slots offers 0, size 1, found 2, turn 3, longer 4, choice 5, keys 6, later 7, index 8; cells ['choice', 'keys', 'offers']
abbrev s_choices : Stmt := top 41
abbrev N_choices : List Str := ["offers", "size", "found", "turn", "longer", "choice", "keys", "later", "index"]
theorem sc_choices : FnScope N_choices ["offers", "size"] (defScope s_choices) := ⟨rfl, rfl, rfl, by decide +kernel, rfl, by decide +kernel, by decide +kernel⟩
def sp_choices (g : Gx) : Sp := fun vs H Q _ => ∃ v, ∃ s : Nat, ∃ ofs : List (Ky × Row), vs = [v, .int s] ∧ Tp g.K H v (.tuple (ofs.map eO)) ∧ ofs.length ≤ 6 ∧ s ≤ 3 ∧ ∀ p H' ys, Ex g.T H H' → H' p = some (.lst ys) → TpAll g.K H' ys ((choicesF ofs s).map ot) → Q (.ref p) H'
theorem ok_choices (g : Gx) (T : Blt g.mg) (Z : Fct g)   {f : Addr} {fd : FuncData} (F : Fun g.K "choices" "choices" s_choices f fd) : FnOk g.P g.w g.K g.mg g.base CX0 1 f fd ["offers", "size"] (sp_choices g) := by
  refine F.ok sc_choices (fun vs H Q E h => ?_) (fun cdv A outer s H vs Q E hr h => ?_)
  · first | (obtain ⟨rfl, _⟩ := h; rfl) | (obtain ⟨_, rfl, _⟩ := h; rfl) | (obtain ⟨_, _, rfl, _⟩ := h; rfl) | (obtain ⟨_, _, _, rfl, _⟩ := h; rfl) | (obtain ⟨_, _, _, _, rfl, _⟩ := h; rfl) | (obtain ⟨_, _, _, _, _, rfl, _⟩ := h; rfl) | (obtain ⟨_, _, _, _, _, _, rfl, _⟩ := h; rfl) | (obtain ⟨_, _, _, _, _, _, _, rfl, _⟩ := h; rfl) | (obtain ⟨_, _, _, _, _, _, _, _, rfl, _⟩ := h; rfl) | (obtain ⟨_, _, _, _, _, _, _, _, _, rfl, _⟩ := h; rfl) | (obtain ⟨_, _, _, _, _, _, _, _, _, _, rfl, _⟩ := h; rfl) | (obtain ⟨_, _, _, _, _, _, _, _, _, _, _, rfl, _⟩ := h; rfl) | (obtain ⟨_, _, _, _, _, _, _, _, _, _, _, _, rfl, _⟩ := h; rfl) | (obtain ⟨_, _, _, _, _, _, _, _, _, _, _, _, _, rfl, _⟩ := h; rfl)
  have hu := room_un hr
  obtain ⟨v, s, ofs, rfl, hv, hof, hs3, kk⟩ := h
  refine ⟨_, (pss_cons (ps_set (i := 2) sc_choices.nd rfl (Or.inl rfl) (pe_lst (pa_cons (pe_tup pa_nil) pa_nil)))
      (pss_cons (ps_for PassesOwn.never rfl (pi_range1 (by rfl) T.b_range (pa_cons (pv 1) pa_nil)) (pg_name (i := 3) sc_choices.nd rfl (Or.inl rfl)) (pss_cons (ps_set (i := 4) sc_choices.nd rfl (Or.inl rfl) (pe_lst pa_nil))
      (pss_cons (ps_for PassesOwn.never rfl (iLW g (pv 2)) (pg_name (i := 5) sc_choices.nd rfl (Or.inr rfl)) (pss_cons (ps_set (i := 6) sc_choices.nd rfl (Or.inr rfl) (pe_lc (own := [("index", 8)]) rfl sc_choices.nd (iTW g (pv 5)) (blkOk_by rfl) (fun _ _ _ _ _ => pg_name (i := 8) sc_choices.nd rfl (Or.inl rfl)) (fun _ _ _ _ _ => pts_nil) (fun _ _ _ _ _ => (pe_ix (ixW g) (pe_ix (ixW g) (pv 0) (pv 8) (fun _ _ => rfl)) pe_int (fun _ _ => rfl)))))
      (pss_cons (ps_setLc (i := 7) (own := [("index", 8)]) rfl sc_choices.nd rfl rfl (sw_true rfl rfl rfl (by decide +kernel)) (pi_range1 (by rfl) T.b_range (pa_cons (pe_callB (lenW g) (by rfl) T.b_len boot_f_len (pa_cons (pv 0) pa_nil)) pa_nil)) (blkOk_by rfl) (fun _ _ _ _ _ => pg_name (i := 8) sc_choices.nd rfl (Or.inl rfl)) (fun _ _ _ _ _ => pts_one (PW.pt (pw_or (pt_cmpR (eqDW g hu) (pv 5) (pe_tup pa_nil) (nomark _)) (pw_or1 (pt_cmpR op_gt (pv 8) (pe_ix (ixW g) (pv 5) (pe_un un_neg pe_int) (fun _ _ => rfl)) (nomark _)))))) (fun _ _ _ _ _ => (pv 8)))
      (pss_one (ps_expr (bmW g PySem.F.plainAttrs_list PySem.F.slot_list_extend PySem.F.type_list_extend mt_extend (pv 4) (pa_cons (pe_lc (own := [("index", 8)]) rfl sc_choices.nd (iLW g (pv 7)) (blkOk_by rfl) (fun _ _ _ _ _ => pg_name (i := 8) sc_choices.nd rfl (Or.inl rfl)) (fun _ _ _ _ _ => pts_one (pt_cmpR (ninDW g hu) (pe_ix (ixW g) (pe_ix (ixW g) (pv 0) (pv 8) (fun _ _ => rfl)) pe_int (fun _ _ => rfl)) (pv 6) rfl)) (fun _ _ _ _ _ => (pe_op (catAW g) (pv 5) (pe_tup (pa_cons (pv 8) pa_nil))))) pa_nil)))))))
      (pss_one (ps_set (i := 2) sc_choices.nd rfl (Or.inl rfl) (pv 4))))))
      (pss_one (ps_ret (pv 2))))), ?_⟩
  obtain ⟨va, vx, rfl, hva, hvx⟩ := tp_tup hv
  have hvl : vx.length = ofs.length := by rw [hvx.len, List.length_map]
  walk_at "go"
  refine ⟨Nat.zero_le _, fun q hq => ?_⟩
  walk_at "go"
  refine ⟨szr rfl, fun f0 hf0 => ?_⟩
  walk_at "go"
  refine ⟨s, rfl, by omega, by omega, ?_⟩
  rw [Int.toNat_natCast]
  have e0 : Ex g.T H (upd (upd H q (.tup [])) f0 (.lst [.ref q])) := (Ex.new hq).trans (.new hf0)
  refine forR (fun i σ H1 => Ex g.T H H1 ∧ ∃ fa ys x3 x4 x5 x6 x7 x8, σ = [some (.ref va), some (.int s), some (.ref fa), x3, x4, x5, x6, x7, x8] ∧ H1 fa = some (.lst ys) ∧ TpAll g.K H1 ys ((choicesF ofs i).map ot))
    ⟨e0, f0, [.ref q], _, _, _, _, _, _, rfl, upd_same, .cons (.tup (.of (by rw [upd_ne (fun z => by rw [z, upd_same] at hf0; cases hf0)]; exact upd_same)) .nil) .nil⟩ (fun i σ H1 hi p => ?_) (fun σ H1 p => ?_)
  · obtain ⟨e1, fa, ys, x3, x4, x5, x6, x7, x8, rfl, hfa, hys⟩ := p
    rw [Int.zero_add]
    walk_at "go"
    refine ⟨Nat.zero_le _, fun lo hlo => ?_⟩
    have e2 : Ex g.T H1 (upd H1 lo (.lst [])) := .new hlo
    walk_at "go"
    refine ⟨fa, rfl, ⟨_, .of (e2.at hfa)⟩, ?_⟩
    have hlen := choices_len hof i
    have hlen2 : 6 ^ i ≤ 36 := Nat.pow_le_pow_right (by decide) (show i ≤ 2 by omega)
    refine forL (K := g.K) (xs := ys) (fun j σ H2 => Ex g.T H H2 ∧ H2 fa = some (.lst ys) ∧ TpAll g.K H2 ys ((choicesF ofs i).map ot) ∧ (∃ zs, H2 lo = some (.lst zs) ∧ TpAll g.K H2 zs ((((choicesF ofs i).take j).flatMap (nextsF ofs)).map ot)) ∧ ∃ x5 x6 x7 x8, σ = [some (.ref va), some (.int s), some (.ref fa), some (.int i), some (.ref lo), x5, x6, x7, x8])
      ⟨e1.trans e2, e2.at hfa, e2.tps hys, ⟨[], upd_same, by rw [List.take_zero]; exact .nil⟩, _, _, _, _, rfl⟩ (fun j σ H2 p => .of p.2.1) (fun j x σ H2 hj p => ?_) (fun σ H2 p => ?_)
    · obtain ⟨e3, hfa3, hys3, ⟨zs, hlo3, hzs⟩, x5, x6, x7, x8, rfl⟩ := p
      obtain ⟨ch, hch, hxc⟩ := hys3.src hj
      have hchm := List.mem_of_getElem? hch
      obtain ⟨c1, c2, c3⟩ := choices_ok hchm
      have hjl : j < (choicesF ofs i).length := (List.getElem?_eq_some_iff.mp hch).1
      obtain ⟨ca, cx, rfl, hca, hcx⟩ := tp_tup hxc
      walk_at "go"
      refine ⟨ca, rfl, ⟨_, hca⟩, ?_⟩
      refine lcT (T := g.T) (l := ch) (enc := eN) (fun _ => true) (fun i => eK (keyAt ofs i)) hca hcx (by omega) (fun z x H3 hz e4 hx => ?_) fun kp H3 ks nk e4 hkp hks => ?_
      · intro Yes No hY hN
        cases tp_int hx
        walk_at "go"
        have hzl := c1 z hz
        obtain ⟨y, hy1, hy2⟩ := hvx.get (i := z) (d := eO (ofs.getD z dflt)) (by rw [List.getElem?_map, List.getD_eq_getElem?_getD, List.getElem?_eq_getElem hzl]; rfl)
        refine st_ixT ((e3.trans e4).st hva) (atI_nat hy1) ?_
        obtain ⟨oa, ok2, or2, rfl, hoa, hok, hor⟩ := tp_eO ((e3.trans e4).tp hy2)
        refine st_ixT hoa rfl ?_
        exact hY rfl _ _ (.refl _) hok
      rw [List.filter_eq_self.mpr (fun _ _ => rfl)] at hks
      walk_at "go"
      refine lenT ((e3.trans e4).st hva) ?_
      walk_at "go"
      refine ⟨vx.length, rfl, by omega, by omega, ?_⟩
      rw [Int.toNat_natCast, hvl]
      refine lcR (T := g.T) (K := g.K) (lo := 0) (n := ofs.length) (fun i => decide (ch = []) || decide (lastC ch < i)) eN (by omega) (fun z H4 hz e5 => ?_) fun lp H4 ls nl e5 hlp hls => ?_
      · intro Yes No hY hN
        rw [Int.zero_add]
        walk_at "go"
        refine ⟨Nat.zero_le _, fun q2 hq2 => ?_⟩
        have e6 : Ex g.T H4 (upd H4 q2 (.tup [])) := .new hq2
        have e46 := e4.trans (e5.trans e6)
        refine ⟨ot ch, ot [], (e46.tp hxc).dp, .tup (.of upd_same) .nil, shp1 (ot_pur _) (ot_depth _) (by decide), rfl, ?_⟩
        have hev := eqv_enc (f := ot) ot_pur ot_inj ch []
        rw [hev]
        refine st_blx ?_
        by_cases hce : ch = []
        · refine st_T (decide_eq_true hce) ?_
          walk_at "go"
          exact hY (by rw [decide_eq_true hce]; rfl) _ _ e6 (.int _)
        · refine st_F (decide_eq_false hce) ?_
          walk_at "go"
          refine st_ixT (e46.st hca) (ot_last hcx hce) ?_
          walk_at "go"
          by_cases hlt : lastC ch < z
          · refine st_T (decide_eq_true (by omega)) ?_
            walk_at "go"
            exact hY (by rw [decide_eq_true hlt, Bool.or_true]) _ _ e6 (.int _)
          · refine st_F (decide_eq_false (by omega)) ?_
            exact hN (by rw [decide_eq_false hlt, decide_eq_false hce]; rfl) _ e6
      walk_at "go"
      have e45 := e4.trans e5
      refine ⟨tyL (.of (e45.at hlo3)), ?_⟩
      walk_at "go"
      refine ⟨lp, rfl, ⟨_, .of hlp⟩, ?_⟩
      have hll : (laterF ofs ch).length ≤ 6 := by
        unfold laterF
        refine Nat.le_trans (List.length_filter_le _ _) ?_
        rw [List.length_range]; exact hof
      refine lcL (T := g.T) (l := laterF ofs ch) (enc := eN) (fun i => !decide (keyAt ofs i ∈ ch.map (keyAt ofs))) (fun i => ot (ch ++ [i])) (.of hlp) hls (by omega) (fun z x H5 hz e6 hx => ?_) fun np H5 ns nn e6 hnp hns => ?_
      · intro Yes No hY hN
        cases tp_int hx
        unfold laterF at hz
        have hzl := List.mem_range.mp (List.mem_filter.mp hz).1
        walk_at "go"
        have e46 := e45.trans e6
        obtain ⟨y, hy1, hy2⟩ := hvx.get (i := z) (d := eO (ofs.getD z dflt)) (by rw [List.getElem?_map, List.getD_eq_getElem?_getD, List.getElem?_eq_getElem hzl]; rfl)
        refine st_ixT ((e3.trans e46).st hva) (atI_nat hy1) ?_
        obtain ⟨oa, ok2, or2, rfl, hoa, hok, hor⟩ := tp_eO ((e3.trans e46).tp hy2)
        refine st_ixT hoa rfl ?_
        walk_at "go"
        have hkd : DpAll g.K H5 ks ((ch.map (keyAt ofs)).map eK) := by
          rw [List.map_map]
          exact TpAll.dps ((e5.trans e6).tps hks)
        refine ⟨_, _, hok.dp, .lst (.of ((e5.trans e6).at hkp)) hkd, shp1 (eK_pur _) (eK_depth _) (by decide), shp_list (f := eK) 1 eK_pur eK_depth (by decide), ?_⟩
        refine st_blx ?_
        by_cases hm : keyAt ofs z ∈ ch.map (keyAt ofs)
        · have h0 := any_in (f := eK) (eK_pur (keyAt ofs z)) hm
          refine st_F (by rw [show (ofs.getD z dflt).1 = keyAt ofs z from rfl, h0]; rfl) ?_
          exact hN (by rw [decide_eq_true hm]; rfl) _ (.refl _)
        · have h0 := any_nin (f := eK) eK_pur eK_inj hm
          refine st_T (by rw [show (ofs.getD z dflt).1 = keyAt ofs z from rfl, h0]; rfl) ?_
          walk_at "go"
          refine ⟨szr rfl, fun q3 hq3 => ?_⟩
          have e7 : Ex g.T H5 (upd H5 q3 (.tup [.int z])) := .new hq3
          refine catT ((e46.trans e7).st hca) (.of upd_same) (by rw [hcx.len, List.length_map, List.length_singleton]; omega) fun p4 H6 h6 hp4 => ?_
          have e8 : Ex g.T (upd H5 q3 (.tup [.int z])) H6 := by
            rcases h6 with rfl | ⟨h6, rfl⟩
            · exact .refl _
            · exact .new h6
          refine hY (by rw [decide_eq_false hm]; rfl) _ _ (e7.trans e8) (.tup hp4 ?_)
          rw [List.map_append]
          exact ((e46.trans (e7.trans e8)).tps hcx).app (.one (.int _))
      · walk_at "go"
        have e46 := e45.trans e6
        have hlo6 := e46.at hlo3
        have hnl : ns.length ≤ 6 := by
          have := nexts_len (ch := ch) hof
          unfold nextsF at this
          rw [List.length_map] at this
          rw [hns.len, List.length_map]
          exact this
        have hzl : zs.length ≤ 216 := by
          have h5 := flat_len (l := (choicesF ofs i).take j) (f := nextsF ofs) (k := 6) fun x _ => nexts_len hof
          rw [List.length_take] at h5
          rw [hzs.len, List.length_map]
          omega
        refine extendL hlo6 hnp (by omega) ?_
        have nt : NoTup H5 lo := noTup_of hlo6
        have hfl : fa ≠ lo := fun z => by
          have h8 := e2.at hfa
          rw [z, upd_same] at h8
          have h9 := hfa
          rw [z, hlo] at h9
          cases h9
        have nlo : New H lo := e1.free0 hlo
        refine ⟨(e3.trans e46).mut nlo hlo6 trivial, by rw [upd_ne hfl]; exact e46.at hfa3, (e46.tps hys3).up nt, ⟨_, upd_same, ?_⟩, _, _, _, _, rfl⟩
        rw [List.take_succ, hch, Option.toList_some, List.flatMap_append, List.flatMap_singleton, List.map_append]
        refine ((e46.tps hzs).up nt).app (TpAll.up ?_ nt)
        unfold nextsF
        rw [List.map_map]
        exact hns
    · obtain ⟨e3, hfa3, hys3, ⟨zs, hlo3, hzs⟩, x5, x6, x7, x8, rfl⟩ := p
      have hl : ys.length = (choicesF ofs i).length := by rw [hys.len, List.length_map]
      rw [hl, List.take_length] at hzs
      walk_at "go"
      exact ⟨e3, lo, zs, _, _, _, _, _, _, rfl, hlo3, hzs⟩
  · obtain ⟨e1, fa, ys, x3, x4, x5, x6, x7, x8, rfl, hfa, hys⟩ := p
    walk_at "go"
    exact kk fa H1 ys e1 hfa hys
def fitF (B : Bk) (ofs : List (Ky × Row)) (c : Cs) (dn : List Ky) : List (Ky × Row) := ofs.filter fun o => decide (o.1 ∈ (walkF B c.1 c.2).1) && !decide (o.1 ∈ dn)
-- fitting: slots book 0, offers 1, case 2, done 3, stops 4, offer 5; cells ['done', 'stops']
abbrev s_fitting : Stmt := top 43
abbrev N_fitting : List Str := ["book", "offers", "case", "done", "stops", "offer"]
theorem sc_fitting : FnScope N_fitting ["book", "offers", "case", "done"] (defScope s_fitting) := ⟨rfl, rfl, rfl, by decide +kernel, rfl, by decide +kernel, by decide +kernel⟩
def sp_fitting (g : Gx) : Sp := fun vs H Q _ => ∃ a v c dv B, ∃ ofs : List (Ky × Row), ∃ cs : Cs, ∃ dn : List Ky, vs = [.ref a, v, c, dv] ∧ BookAt g H a B ∧ Tp g.K H v (.tuple (ofs.map eO)) ∧ ofs.length ≤ 6 ∧ Tp g.K H c (eC cs) ∧ cs.1 < B.n ∧ Tp g.K H dv (.tuple (dn.map eK)) ∧ ∀ p H' ys, New H p → Ex g.T H H' → H' p = some (.lst ys) → TpAll g.K H' ys ((fitF B ofs cs dn).map eO) → Q (.ref p) H'
theorem ok_fitting (g : Gx) (T : Blt g.mg) (Z : Fct g) (C_walk : Cal g.P g.w g.K g.mg g.base 5 "walk" ["book", "start", "outage"] (sp_walk g))  {f : Addr} {fd : FuncData} (F : Fun g.K "fitting" "fitting" s_fitting f fd) : FnOk g.P g.w g.K g.mg g.base CX0 6 f fd ["book", "offers", "case", "done"] (sp_fitting g) := by
  refine F.ok sc_fitting (fun vs H Q E h => ?_) (fun cdv A outer s H vs Q E hr h => ?_)
  · first | (obtain ⟨rfl, _⟩ := h; rfl) | (obtain ⟨_, rfl, _⟩ := h; rfl) | (obtain ⟨_, _, rfl, _⟩ := h; rfl) | (obtain ⟨_, _, _, rfl, _⟩ := h; rfl) | (obtain ⟨_, _, _, _, rfl, _⟩ := h; rfl) | (obtain ⟨_, _, _, _, _, rfl, _⟩ := h; rfl) | (obtain ⟨_, _, _, _, _, _, rfl, _⟩ := h; rfl) | (obtain ⟨_, _, _, _, _, _, _, rfl, _⟩ := h; rfl) | (obtain ⟨_, _, _, _, _, _, _, _, rfl, _⟩ := h; rfl) | (obtain ⟨_, _, _, _, _, _, _, _, _, rfl, _⟩ := h; rfl) | (obtain ⟨_, _, _, _, _, _, _, _, _, _, rfl, _⟩ := h; rfl) | (obtain ⟨_, _, _, _, _, _, _, _, _, _, _, rfl, _⟩ := h; rfl) | (obtain ⟨_, _, _, _, _, _, _, _, _, _, _, _, rfl, _⟩ := h; rfl) | (obtain ⟨_, _, _, _, _, _, _, _, _, _, _, _, _, rfl, _⟩ := h; rfl)
  have hu := room_un hr
  obtain ⟨a, v, c, dv, B, ofs, cs, dn, rfl, hB, hv, hof, hc, hcs, hdn, kk⟩ := h
  refine ⟨_, (pss_cons (ps_set (i := 4) sc_fitting.nd rfl (Or.inr rfl) (pe_cF C_walk (hr.mono (by decide)) rfl (pa_cons (pv 0) (pa_cons (pe_ix (ixW g) (pv 2) pe_int (fun _ _ => rfl)) (pa_cons (pe_ix (ixW g) (pv 2) pe_int (fun _ _ => rfl)) pa_nil)))))
      (pss_one (ps_ret (pe_lc (own := [("offer", 5)]) rfl sc_fitting.nd (iTW g (pv 1)) (blkOk_by rfl) (fun _ _ _ _ _ => pg_name (i := 5) sc_fitting.nd rfl (Or.inl rfl)) (fun _ _ _ _ _ => pts_one (PW.pt (pw_and (pt_cmpR (inTW g hu) (pe_ix (ixW g) (pv 5) pe_int (fun _ _ => rfl)) (pv 4) rfl) (pw_and1 (pt_cmpR (ninTW g hu) (pe_ix (ixW g) (pv 5) pe_int (fun _ _ => rfl)) (pv 3) rfl))))) (fun _ _ _ _ _ => (pv 5)))))), ?_⟩
  obtain ⟨va, vx, rfl, hva, hvx⟩ := tp_tup hv
  obtain ⟨ca, o, rfl, hca, ho⟩ := tp_eC hc
  walk_at "go"
  refine st_ixT hca rfl ?_
  walk_at "go"
  refine st_ixT hca rfl ?_
  walk_at "go"
  refine ⟨a, o, B, cs.1, cs.2, rfl, hB, hcs, ho, fun r H1 e1 hr => ?_⟩
  walk_at "go"
  refine ⟨va, rfl, ⟨_, e1.st hva⟩, ?_⟩
  refine lcT (T := g.T) (l := ofs) (enc := eO) (fun o => decide (o.1 ∈ (walkF B cs.1 cs.2).1) && !decide (o.1 ∈ dn)) eO (e1.st hva) (e1.tps hvx) (by omega) (fun z x H2 hz e2 hx => ?_) fun p H2 ys np e2 hp hy => ?_
  · intro Yes No hY hN
    have hxp : Tp g.K H2 x (eO z) := hx
    obtain ⟨oa, ok2, or2, rfl, hoa, hok, hor⟩ := tp_eO hx
    walk_at "go"
    refine st_ixT hoa rfl ?_
    walk_at "go"
    refine ⟨_, _, hok.dp, (e2.tp hr).dp, shp1 (eK_pur _) (eK_depth _) (by decide), shp_tup (f := eK) 1 eK_pur eK_depth (by decide), ?_⟩
    refine st_blx ?_
    by_cases hm : z.1 ∈ (walkF B cs.1 cs.2).1
    · have h0 := any_in (f := eK) (eK_pur z.1) hm
      refine st_T h0 ?_
      walk_at "go"
      refine st_ixT hoa rfl ?_
      walk_at "go"
      refine ⟨_, _, hok.dp, ((e1.trans e2).tp hdn).dp, shp1 (eK_pur _) (eK_depth _) (by decide), shp_tup (f := eK) 1 eK_pur eK_depth (by decide), ?_⟩
      refine st_blx ?_
      by_cases hd : z.1 ∈ dn
      · have h1 := any_in (f := eK) (eK_pur z.1) hd
        refine st_F (by rw [h1]; rfl) ?_
        exact hN (by rw [decide_eq_true hd, Bool.not_true, Bool.and_false]) _ (.refl _)
      · have h1 := any_nin (f := eK) eK_pur eK_inj hd
        refine st_T (by rw [h1]; rfl) ?_
        walk_at "go"
        exact hY (by rw [decide_eq_true hm, decide_eq_false hd]; rfl) _ _ (.refl _) hxp
    · have h0 := any_nin (f := eK) eK_pur eK_inj hm
      refine st_F h0 ?_
      exact hN (by rw [decide_eq_false hm]; rfl) _ (.refl _)
  · walk_at "go"
    exact kk p H2 ys (e1.free np) (e1.trans e2) hp hy
end Sp
end
section
set_option Elab.async false
set_option linter.all false
set_option maxRecDepth 100000
set_option maxHeartbeats 4000000
set_option autoImplicit false
local macro_rules | `(tactic| walk_at "go") => `(tactic| repeat first
  | (with_reducible first
     | refine Sp.st_var rfl ?_ | refine Sp.st_c ?_ | refine Sp.st_op ?_ | refine Sp.st_seq ?_ | refine Sp.st_asg ?_ | refine Sp.st_name ?_
     | refine Sp.st_ret ?_ | refine Sp.st_drop ?_ | refine Sp.st_next ?_ | refine Sp.st_if ?_ | refine Sp.st_nx ?_ | refine Sp.st_rt ?_
     | refine Sp.st_cons ?_ | refine Sp.st_nil ?_ | refine Sp.st_cb ?_ | refine Sp.st_call ?_ | refine Sp.st_test ?_ | refine Sp.st_B ?_
     | refine Sp.st_not ?_ | refine Sp.st_and ?_ | refine Sp.st_or ?_ | refine Sp.st_andV ?_ | refine Sp.st_orV ?_ | refine Sp.st_notV ?_
     | refine Sp.st_tif ?_ | refine Sp.st_tup ?_ | refine Sp.st_lst ?_ | refine Sp.st_blx ?_ | refine Sp.st_I0 ?_ | refine Sp.st_U ?_
     | refine Sp.st_eqI ?_ | refine Sp.st_neI ?_ | refine Sp.st_chain ?_ | refine Sp.isiI ?_ | refine Sp.isiB ?_ | refine Sp.isiS ?_
     | refine Sp.st_T rfl ?_ | refine Sp.st_F rfl ?_ | refine Sp.st_lc ?_ | refine Sp.st_iT ?_ | refine Sp.st_iL ?_ | refine Sp.st_iR1 ?_
     | refine Sp.st_iR2 ?_ | refine Sp.st_iET ?_ | refine Sp.st_iZA ?_ | refine Sp.st_iZLT ?_ | refine Sp.st_for ?_ | refine Sp.st_fld ?_
     | refine Sp.st_sfld ?_ | refine Sp.st_prop ?_ | refine Sp.st_meth ?_ | refine Sp.st_make ?_ | refine Sp.st_isN ?_ | refine Sp.st_yes ?_
     | refine Sp.isNI ?_ | refine Sp.notNI ?_ | refine Sp.int1I ?_ | refine Sp.int1B ?_ | refine Sp.min2I ?_ | refine Sp.max2I ?_
     | refine Sp.st_dputN ?_ | refine Sp.st_dgetN ?_ | refine Sp.st_revL ?_ | refine Sp.st_din ?_ | refine Sp.st_dnin ?_ | refine Sp.st_dget ?_ | refine Sp.st_dput ?_ | refine Sp.st_dc ?_ | refine Sp.st_dcN ?_
     | refine Sp.st_sortLam ?_ | refine Sp.st_lc2 ?_ | refine Sp.st_un ?_ | refine Sp.st_lenSet ?_ | refine Sp.st_bm ?_ | refine Sp.st_lenO ?_ | refine Sp.st_sl ?_ | refine Sp.st_part ?_ | refine Sp.st_nopart ?_ | refine Sp.st_intx ?_)
  | ((with_reducible refine Sp.st_wp ?_ ?_); (focus rfl)))
namespace Sp
open PySem PySem.Spec L2

/-! ### trees -/
def leafD (c : Cs) (ks : List D) : D := .tuple [.str "miss", .int c.1, ot c.2, .tuple ks]
def kidsF {α : Type} (f : α → Option D) : List α → Option (List D)
  | [] => some []
  | o :: r => match f o with
    | none => none
    | some d => match kidsF f r with
      | none => none
      | some ds => some (d :: ds)
theorem kidsF_snoc {α : Type} (f : α → Option D) : ∀ (l : List α) (o : α), kidsF f (l ++ [o]) = match kidsF f l with
    | none => none
    | some ds => match f o with
      | none => none
      | some d => some (ds ++ [d])
  | [], o => by
    cases h : f o <;> simp [kidsF, h]
  | x :: l, o => by
    rw [List.cons_append, kidsF, kidsF]
    cases f x with
    | none => rfl
    | some d =>
      dsimp only
      rw [kidsF_snoc f l o]
      cases kidsF f l with
      | none => rfl
      | some ds =>
        dsimp only
        cases f o <;> rfl
theorem kidsF_none {α : Type} (f : α → Option D) : ∀ (l : List α) (o : α), o ∈ l → f o = none → kidsF f l = none
  | [], _, h, _ => nomatch h
  | x :: l, o, h, e => by
    rw [kidsF]
    cases hx : f x with
    | none => rfl
    | some d =>
      rcases List.mem_cons.mp h with rfl | h
      · rw [hx] at e; cases e
      · rw [kidsF_none f l o h e]
/-- the tree behind a book, or none -/
def treeF (ofs : List (Ky × Row)) (number : Nat) : Nat → Bk → List Ky → Option D
  | 0, B, _ => match missF B number with
    | none => none
    | some c => some (leafD c [])
  | l + 1, B, dn => match missF B number with
    | none => none
    | some c => match kidsF (fun o => treeF ofs number l (putRows B [o]) (dn ++ [o.1])) (fitF B ofs c dn) with
      | none => none
      | some ks => some (leafD c ks)
theorem missF_lt {B : Bk} {number : Nat} {c : Cs} (h : missF B number = some c) : c.1 < B.n := by
  unfold missF at h
  exact casesF_lt (List.mem_of_find?_eq_some h)
theorem one_ok {B : Bk} {ofs : List (Ky × Row)} (ok : OfOk B.n B.L B.t B.w ofs) {o : Ky × Row} (h : o ∈ ofs) : RowsOk B.n B.L B.t B.w [o] := by
  refine ⟨fun x hx => ?_, fun x hx => ?_, ?_, Nat.le_of_ble_eq_true rfl⟩
  · rw [List.mem_singleton.mp hx]; exact ok.key o h
  · rw [List.mem_singleton.mp hx]; exact ok.row o h
  · exact nd1 _
theorem fit_mem {B : Bk} {ofs : List (Ky × Row)} {c : Cs} {dn : List Ky} {o : Ky × Row} (h : o ∈ fitF B ofs c dn) : o ∈ ofs := (List.mem_filter.mp h).1
-- tree_behind: slots book 0, offers 1, number 2, done 3, left 4, case 5, trees 6, offer 7, tree 8; cells []
abbrev s_tree_behind : Stmt := top 44
abbrev N_tree_behind : List Str := ["book", "offers", "number", "done", "left", "case", "trees", "offer", "tree"]
theorem sc_tree_behind : FnScope N_tree_behind ["book", "offers", "number", "done", "left"] (defScope s_tree_behind) := ⟨rfl, rfl, rfl, by decide +kernel, rfl, by decide +kernel, by decide +kernel⟩
def sp_tree_behind (g : Gx) (m : Nat) : Sp := fun vs H Q _ => ∃ a v dv B, ∃ ofs : List (Ky × Row), ∃ number left : Nat, ∃ dn : List Ky, vs = [.ref a, v, .int number, dv, .int left] ∧ left < m ∧ BookAt g H a B ∧ Tp g.K H v (.tuple (ofs.map eO)) ∧ OfOk B.n B.L B.t B.w ofs ∧ Tp g.K H dv (.tuple (dn.map eK)) ∧ dn.length ≤ 1000 - m ∧ LamX.Tabs g.T H ∧
  ∀ r H', Ex g.T H H' → Tp g.K H' r ((treeF ofs number left B dn).getD .none) → Q r H'
theorem ok_tree_behind (g : Gx) (T : Blt g.mg) (Z : Fct g) (m : Nat) (hm1000 : m < 100) (C_first_miss_within : Cal g.P g.w g.K g.mg g.base 10 "first_miss_within" ["book", "number"] (sp_first_miss_within g)) (C_fitting : Cal g.P g.w g.K g.mg g.base 6 "fitting" ["book", "offers", "case", "done"] (sp_fitting g))
    (C_with_rows : CalM g.P g.w g.K g.mg g.base 7 g.bc "with_rows" ["self", "rows"] (sp_Book_with_rows g)) (C_tree_behind : Cal g.P g.w g.K g.mg g.base (11 + m) "tree_behind" ["book", "offers", "number", "done", "left"] (sp_tree_behind g m))
    {f : Addr} {fd : FuncData} (F : Fun g.K "tree_behind" "tree_behind" s_tree_behind f fd) : FnOk g.P g.w g.K g.mg g.base CX0 (11 + m + 1) f fd ["book", "offers", "number", "done", "left"] (sp_tree_behind g (m + 1)) := by
  refine F.ok sc_tree_behind (fun vs H Q E h => ?_) (fun cdv A outer s H vs Q E hr h => ?_)
  · obtain ⟨_, _, _, _, _, _, _, _, rfl, _⟩ := h; rfl
  have hu := room_un hr
  obtain ⟨a, v, dv, B, ofs, number, left, dn, rfl, hlm, hB, hv, ok, hdn, hdl, ht, kk⟩ := h
  refine ⟨_, (pss_cons (ps_set (i := 5) sc_tree_behind.nd rfl (Or.inl rfl) (pe_cF C_first_miss_within (hr.mono (by omega)) rfl (pa_cons (pv 0) (pa_cons (pv 2) pa_nil))))
      (pss_cons (ps_if (pt_cmpR isNW (pv 5) pe_non (nomark _)) (pss_one (ps_ret pe_non)) pss_nil)
      (pss_cons (ps_set (i := 6) sc_tree_behind.nd rfl (Or.inl rfl) (pe_lst pa_nil))
      (pss_cons (ps_for PassesOwn.never rfl (iLW g (pe_ifExp (pt_cmpR op_gt (pv 4) pe_int (nomark _)) (pe_cF C_fitting (hr.mono (by omega)) rfl (pa_cons (pv 0) (pa_cons (pv 1) (pa_cons (pv 5) (pa_cons (pv 3) pa_nil))))) (pe_lst pa_nil))) (pg_name (i := 7) sc_tree_behind.nd rfl (Or.inl rfl)) (pss_cons (ps_set (i := 8) sc_tree_behind.nd rfl (Or.inl rfl) (pe_cF C_tree_behind (hr.mono (by omega)) rfl (pa_cons (pe_mF C_with_rows (hr.mono (by omega)) (pv 0) (pa_cons (pe_tup (pa_cons (pv 7) pa_nil)) pa_nil)) (pa_cons (pv 1) (pa_cons (pv 2) (pa_cons (pe_op (catAW g) (pv 3) (pe_tup (pa_cons (pe_ix (ixW g) (pv 7) pe_int (fun _ _ => rfl)) pa_nil))) (pa_cons (pe_op op_sub (pv 4) pe_int) pa_nil)))))))
      (pss_cons (ps_if (pt_cmpR isNW (pv 8) pe_non (nomark _)) (pss_one (ps_ret pe_non)) pss_nil)
      (pss_one (ps_expr (bmW g PySem.F.plainAttrs_list PySem.F.slot_list_append PySem.F.type_list_append mt_append (pv 6) (pa_cons (pv 8) pa_nil)))))))
      (pss_one (ps_ret (pe_tup (pa_cons pe_str (pa_cons (pe_ix (ixW g) (pv 5) pe_int (fun _ _ => rfl)) (pa_cons (pe_ix (ixW g) (pv 5) pe_int (fun _ _ => rfl)) (pa_cons (pe_callTy (tupOfW g) (by rfl) T.b_tuple boot_t_tuple (pa_cons (pv 6) pa_nil)) pa_nil))))))))))), ?_⟩
  have hBook := hB
  obtain ⟨⟨dx, gr, d0, l, kvs, h1, h2, h3, h4⟩, bok⟩ := hB
  have hof := ok.few
  walk_at "go"
  refine ⟨a, B, number, rfl, hBook, ht, fun r H1 e1 hr1 => ?_⟩
  walk_at "go"
  cases hmiss : missF B number with
  | none =>
    rw [hmiss] at hr1
    have h0 := tp_non hr1
    subst h0
    refine st_T rfl ?_
    walk_at "go"
    refine kk _ _ e1 ?_
    have : treeF ofs number left B dn = none := by
      cases left <;> rw [treeF, hmiss]
    rw [this]
    exact .non
  | some c =>
    rw [hmiss] at hr1
    have hcl := missF_lt hmiss
    obtain ⟨ca, o, rfl, hca, ho⟩ := tp_eC hr1
    refine st_F rfl ?_
    walk_at "go"
    refine ⟨Nat.zero_le _, fun d hd => ?_⟩
    have e2 : Ex g.T H1 (upd H1 d (.lst [])) := .new hd
    have hdH : New H d := e1.free0 hd
    walk_at "go"
    have fin : ∀ ks H4 ys, Ex g.T H1 H4 → H4 d = some (.lst ys) → TpAll g.K H4 ys ks → treeF ofs number left B dn = some (leafD c ks) →
        ∀ (x7 x8 : Option V), tRet (tTup (tCons (tC (V.str (Str.ofString "miss"))) (tCons (tOp (rIx g.K) (tVar 5) (tC (V.int 0))) (tCons (tOp (rIx g.K) (tVar 5) (tC (V.int 1))) (tCons (tCB (rTupOf g.K) (tCons (tVar 6) tNil)) tNil))))) { nx := fun x H' => Q V.non H', rt := Q } [some (.ref a), some v, some (.int number), some dv, some (.int left), some (.ref ca), some (.ref d), x7, x8] H4 := by
      intro ks H4 ys e4 hd4 hys htr x7 x8
      walk_at "go"
      refine st_ixT (e4.st hca) rfl ?_
      walk_at "go"
      refine st_ixT (e4.st hca) rfl ?_
      walk_at "go"
      refine tupL (.of hd4) fun q hq => ?_
      walk_at "go"
      refine ⟨szr rfl, fun q2 hq2 => ?_⟩
      walk_at "go"
      refine kk _ _ ((e1.trans e4).trans ((Ex.new hq).trans (.new hq2))) ?_
      rw [htr]
      refine .tup (.of upd_same) (.cons (.str _) (.cons (.int _) (.cons ?_ (.cons (.tup (.of (by rw [upd_ne (fun z => by rw [z, upd_same] at hq2; cases hq2)]; exact upd_same)) ((hys.up (noTup_none hq)).up (noTup_none hq2))) .nil))))
      exact Tp.up (Tp.up (e4.tp ho) (noTup_none hq)) (noTup_none hq2)
    cases left with
    | zero =>
      refine st_F rfl ?_
      walk_at "go"
      refine ⟨Nat.zero_le _, fun q hq => ?_⟩
      walk_at "go"
      refine ⟨q, rfl, ⟨_, .of upd_same⟩, ?_⟩
      refine forL (K := g.K) (xs := []) (fun i σ H2 => H2 = upd (upd H1 d (.lst [])) q (.lst []) ∧ σ = [some (.ref a), some v, some (.int number), some dv, some (.int 0), some (.ref ca), some (.ref d), none, none]) ⟨rfl, rfl⟩ (fun i σ H2 p => by rw [p.1]; exact .of upd_same) (fun i x σ H2 hi p => by simp at hi) (fun σ H2 p => ?_)
      obtain ⟨rfl, rfl⟩ := p
      refine fin [] _ [] (e2.trans (.new hq)) (by rw [upd_ne (fun z => by rw [← z, upd_same] at hq; cases hq)]; exact upd_same) .nil ?_ none none
      rw [treeF, hmiss]
    | succ l =>
      refine st_T (decide_eq_true (by omega)) ?_
      walk_at "go"
      refine ⟨a, v, _, dv, B, ofs, c, dn, rfl, (e1.trans e2).book hBook, (e1.trans e2).tp hv, hof, e2.tp hr1, hcl, (e1.trans e2).tp hdn, fun dp H2 dys ndp e3 hdp hdys => ?_⟩
      walk_at "go"
      refine ⟨dp, rfl, ⟨_, .of hdp⟩, ?_⟩
      have hdd : dp ≠ d := fun z => by
        obtain ⟨ps, q⟩ := ndp _ (by rw [z]; exact upd_same)
        cases q
      refine forL (K := g.K) (xs := dys) (fun i σ H3 => Ex g.T H1 H3 ∧ H3 dp = some (.lst dys) ∧ TpAll g.K H3 dys ((fitF B ofs c dn).map eO) ∧ (∃ ys ks, H3 d = some (.lst ys) ∧ TpAll g.K H3 ys ks ∧ ys.length ≤ i ∧ kidsF (fun o => treeF ofs number l (putRows B [o]) (dn ++ [o.1])) ((fitF B ofs c dn).take i) = some ks) ∧ ∃ x7 x8, σ = [some (.ref a), some v, some (.int number), some dv, some (.int (l + 1 : Nat)), some (.ref ca), some (.ref d), x7, x8])
        ⟨e2.trans e3, hdp, hdys, ⟨[], [], e3.at upd_same, .nil, Nat.le_refl _, by rw [List.take_zero]; rfl⟩, _, _, rfl⟩ (fun i σ H3 p => .of p.2.1) (fun i x σ H3 hi p => ?_) (fun σ H3 p => ?_)
      · obtain ⟨e4, hdp4, hdys4, ⟨ys, ks, hd4, hys, hyl, hks⟩, x7, x8, rfl⟩ := p
        obtain ⟨of, hof1, hxo⟩ := hdys4.src hi
        have hofm := List.mem_of_getElem? hof1
        have hom := fit_mem hofm
        have hil : i < (fitF B ofs c dn).length := (List.getElem?_eq_some_iff.mp hof1).1
        have hfl : (fitF B ofs c dn).length ≤ 6 := Nat.le_trans (List.length_filter_le _ _) hof
        have e14 := e1.trans e4
        walk_at "go"
        refine ⟨a, _, _, rfl, e14.at h1, rfl, ?_⟩
        walk_at "go"
        refine ⟨szr rfl, fun q hq => ?_⟩
        have e5 : Ex g.T H3 (upd H3 q (.tup [x])) := .new hq
        walk_at "go"
        refine ⟨a, _, B, [of], rfl, (e14.trans e5).book hBook, .tup (.of upd_same) (.one (Tp.up hxo (noTup_none hq))), one_ok ok hom, Nat.le_of_ble_eq_true rfl, fun b H4 e6 hb => ?_⟩
        have e56 := e5.trans e6
        walk_at "go"
        obtain ⟨oa, ok2, or2, rfl, hoa, hok, hor⟩ := tp_eO (e56.tp hxo)
        refine st_ixT hoa rfl ?_
        walk_at "go"
        refine ⟨szr rfl, fun q2 hq2 => ?_⟩
        have e7 : Ex g.T H4 (upd H4 q2 (.tup [ok2])) := .new hq2
        obtain ⟨da, ds, rfl, hda, hds⟩ := tp_tup ((e14.trans (e56.trans e7)).tp hdn)
        have hdsl : ds.length = dn.length := by rw [hds.len, List.length_map]
        walk_at "go"
        refine catT hda (.of upd_same) (by rw [hdsl, List.length_singleton]; omega) fun p4 H6 h6 hp4 => ?_
        have e8 : Ex g.T (upd H4 q2 (.tup [ok2])) H6 := by
          rcases h6 with rfl | ⟨h6, rfl⟩
          · exact .refl _
          · exact .new h6
        walk_at "go"
        have e78 := e7.trans e8
        have e58 := e56.trans e78
        have e18 := e14.trans e58
        refine ⟨b, v, .ref p4, putRows B [of], ofs, number, l, dn ++ [of.1], by rw [show ((l + 1 : Nat) : Int) - 1 = (l : Int) by omega]; rfl, by omega, e78.book hb, e18.tp hv, ok, .tup hp4 ?_, by rw [List.length_append, List.length_singleton]; omega, e18.tab ht, fun r2 H7 e9 hr2 => ?_⟩
        · rw [List.map_append]
          exact (e8.tps hds).app (.one (e78.tp hok))
        walk_at "go"
        have htk : (fitF B ofs c dn).take (i + 1) = (fitF B ofs c dn).take i ++ [of] := by rw [List.take_succ, hof1]; rfl
        cases htr : treeF ofs number l (putRows B [of]) (dn ++ [of.1]) with
        | none =>
          rw [htr] at hr2
          have h0 := tp_non hr2
          subst h0
          refine st_T rfl ?_
          walk_at "go"
          refine kk _ _ (e18.trans e9) ?_
          have h9 := kidsF_none (fun o => treeF ofs number l (putRows B [o]) (dn ++ [o.1])) _ of hofm htr
          have : treeF ofs number (l + 1) B dn = none := by
            rw [treeF, hmiss]
            dsimp only
            rw [h9]
          rw [this]
          exact .non
        | some dt =>
          rw [htr] at hr2
          have hne : r2 ≠ .non := fun z => by
            rw [z] at hr2
            have hl0 : ∃ c ks, dt = leafD c ks := by
              cases l with
              | zero =>
                rw [treeF] at htr
                split at htr
                · cases htr
                · exact ⟨_, _, (Option.some.inj htr).symm⟩
              | succ l =>
                rw [treeF] at htr
                split at htr
                · cases htr
                · split at htr
                  · cases htr
                  · exact ⟨_, _, (Option.some.inj htr).symm⟩
            obtain ⟨c0, k0, rfl⟩ := hl0
            cases hr2
          refine st_F (decide_eq_false hne) ?_
          walk_at "go"
          have hd9 := (e58.trans e9).at hd4
          refine ⟨tyL (.of hd9), ?_⟩
          walk_at "go"
          refine appendL hd9 (by omega) ?_
          have nt : NoTup H7 d := noTup_of hd9
          have e49 := e4.trans (e58.trans e9)
          refine ⟨e49.mut (.of hd) hd9 trivial, by rw [upd_ne hdd]; exact (e58.trans e9).at hdp4, ((e58.trans e9).tps hdys4).up nt, ⟨_, ks ++ [dt], upd_same, (((e58.trans e9).tps hys).up nt).app (.one (Tp.up hr2 nt)), by rw [List.length_append, List.length_singleton]; omega, ?_⟩, _, _, rfl⟩
          rw [htk, kidsF_snoc, hks]
          dsimp only
          rw [htr]
      · obtain ⟨e4, hdp4, hdys4, ⟨ys, ks, hd4, hys, hyl, hks⟩, x7, x8, rfl⟩ := p
        have hl : dys.length = (fitF B ofs c dn).length := by rw [hdys.len, List.length_map]
        rw [hl, List.take_length] at hks
        refine fin ks H3 ys e4 hd4 hys ?_ x7 x8
        rw [treeF, hmiss]
        dsimp only
        rw [hks]
-- mend_tree: slots book 0, offers 1, number 2, left 3; cells []
abbrev s_mend_tree : Stmt := top 45
abbrev N_mend_tree : List Str := ["book", "offers", "number", "left"]
theorem sc_mend_tree : FnScope N_mend_tree ["book", "offers", "number", "left"] (defScope s_mend_tree) := ⟨rfl, rfl, rfl, by decide +kernel, rfl, by decide +kernel, by decide +kernel⟩
def sp_mend_tree (g : Gx) : Sp := fun vs H Q _ => ∃ a v B, ∃ ofs : List (Ky × Row), ∃ number left : Nat, vs = [.ref a, v, .int number, .int left] ∧ left ≤ 3 ∧ BookAt g H a B ∧ Tp g.K H v (.tuple (ofs.map eO)) ∧ OfOk B.n B.L B.t B.w ofs ∧ LamX.Tabs g.T H ∧
  ∀ r H', Ex g.T H H' → Tp g.K H' r ((treeF ofs number left B []).getD .none) → Q r H'
theorem ok_mend_tree (g : Gx) (T : Blt g.mg) (Z : Fct g) (C_tree_behind : Cal g.P g.w g.K g.mg g.base 15 "tree_behind" ["book", "offers", "number", "done", "left"] (sp_tree_behind g 4))
    {f : Addr} {fd : FuncData} (F : Fun g.K "mend_tree" "mend_tree" s_mend_tree f fd) : FnOk g.P g.w g.K g.mg g.base CX0 16 f fd ["book", "offers", "number", "left"] (sp_mend_tree g) := by
  refine F.ok sc_mend_tree (fun vs H Q E h => ?_) (fun cdv A outer s H vs Q E hr h => ?_)
  · obtain ⟨_, _, _, _, _, _, rfl, _⟩ := h; rfl
  obtain ⟨a, v, B, ofs, number, left, rfl, hl, hB, hv, ok, ht, kk⟩ := h
  refine ⟨_, (pss_one (ps_ret (pe_cF C_tree_behind (hr.mono (by decide)) rfl (pa_cons (pv 0) (pa_cons (pv 1) (pa_cons (pv 2) (pa_cons (pe_tup pa_nil) (pa_cons (pv 3) pa_nil)))))))), ?_⟩
  walk_at "go"
  refine ⟨Nat.zero_le _, fun q hq => ?_⟩
  walk_at "go"
  have e1 : Ex g.T H (upd H q (.tup [])) := .new hq
  exact ⟨a, _, _, B, ofs, number, left, [], rfl, by omega, e1.book hB, e1.tp hv, ok, .tup (.of upd_same) .nil, by decide, e1.tab ht, fun r H2 e2 hr2 => kk r H2 (e1.trans e2) hr2⟩
end Sp
end
section
set_option Elab.async false
set_option linter.all false
set_option maxRecDepth 100000
set_option maxHeartbeats 4000000
set_option autoImplicit false
local macro_rules | `(tactic| walk_at "go") => `(tactic| repeat first
  | (with_reducible first
     | refine Sp.st_var rfl ?_ | refine Sp.st_c ?_ | refine Sp.st_op ?_ | refine Sp.st_seq ?_ | refine Sp.st_asg ?_ | refine Sp.st_name ?_
     | refine Sp.st_ret ?_ | refine Sp.st_drop ?_ | refine Sp.st_next ?_ | refine Sp.st_if ?_ | refine Sp.st_nx ?_ | refine Sp.st_rt ?_
     | refine Sp.st_cons ?_ | refine Sp.st_nil ?_ | refine Sp.st_cb ?_ | refine Sp.st_call ?_ | refine Sp.st_test ?_ | refine Sp.st_B ?_
     | refine Sp.st_not ?_ | refine Sp.st_and ?_ | refine Sp.st_or ?_ | refine Sp.st_andV ?_ | refine Sp.st_orV ?_ | refine Sp.st_notV ?_
     | refine Sp.st_tif ?_ | refine Sp.st_tup ?_ | refine Sp.st_lst ?_ | refine Sp.st_blx ?_ | refine Sp.st_I0 ?_ | refine Sp.st_U ?_
     | refine Sp.st_eqI ?_ | refine Sp.st_neI ?_ | refine Sp.st_chain ?_ | refine Sp.isiI ?_ | refine Sp.isiB ?_ | refine Sp.isiS ?_
     | refine Sp.st_T rfl ?_ | refine Sp.st_F rfl ?_ | refine Sp.st_lc ?_ | refine Sp.st_iT ?_ | refine Sp.st_iL ?_ | refine Sp.st_iR1 ?_
     | refine Sp.st_iR2 ?_ | refine Sp.st_iET ?_ | refine Sp.st_iZA ?_ | refine Sp.st_iZLT ?_ | refine Sp.st_for ?_ | refine Sp.st_fld ?_
     | refine Sp.st_sfld ?_ | refine Sp.st_prop ?_ | refine Sp.st_meth ?_ | refine Sp.st_make ?_ | refine Sp.st_isN ?_ | refine Sp.st_yes ?_
     | refine Sp.isNI ?_ | refine Sp.notNI ?_ | refine Sp.int1I ?_ | refine Sp.int1B ?_ | refine Sp.min2I ?_ | refine Sp.max2I ?_
     | refine Sp.st_dputN ?_ | refine Sp.st_dgetN ?_ | refine Sp.st_revL ?_ | refine Sp.st_din ?_ | refine Sp.st_dnin ?_ | refine Sp.st_dget ?_ | refine Sp.st_dput ?_ | refine Sp.st_dc ?_ | refine Sp.st_dcN ?_
     | refine Sp.st_sortLam ?_ | refine Sp.st_lc2 ?_ | refine Sp.st_un ?_ | refine Sp.st_lenSet ?_ | refine Sp.st_bm ?_ | refine Sp.st_lenO ?_ | refine Sp.st_sl ?_ | refine Sp.st_part ?_ | refine Sp.st_nopart ?_ | refine Sp.st_intx ?_)
  | ((with_reducible refine Sp.st_wp ?_ ?_); (focus rfl)))
namespace Sp
open PySem PySem.Spec L2

theorem allO_mem {m : Nat} {o : List Nat} (hm : m ≤ 8) (h : o ∈ allO m) : o.Pairwise (· < ·) ∧ (∀ x ∈ o, x < m) ∧ o.length ≤ 8 := by
  unfold allO at h
  rw [(List.mergeSort_perm _ _).mem_iff] at h
  unfold allM at h
  obtain ⟨x, hx, rfl⟩ := List.mem_map.mp h
  exact ⟨out_asc x, fun l hl => out_lt hm (List.mem_range.mp hx) hl, out_len x⟩
theorem casesF_out {n m : Nat} {c : Cs} (hm : m ≤ 8) (h : c ∈ casesF n m) : c.2.Pairwise (· < ·) ∧ (∀ x ∈ c.2, x < m) ∧ c.2.length ≤ 8 := by
  unfold casesF at h
  obtain ⟨o, ho, h⟩ := List.mem_flatMap.mp h
  obtain ⟨s, _, rfl⟩ := List.mem_map.mp h
  exact allO_mem hm ho
theorem tp_leaf {K : Fg} {H : Hp} {v : V} {c : Cs} {ks : List D} (h : Tp K H v (leafD c ks)) : ∃ a o t, v = .ref a ∧ SqT K H a [.str "miss", .int c.1, o, t] ∧ Tp K H o (ot c.2) ∧ Tp K H t (.tuple ks) := by
  obtain ⟨a, xs, rfl, h1, h2⟩ := tp_tup h
  cases h2 with
  | cons h2 h3 =>
    cases h3 with
    | cons h3 h4 =>
      cases h4 with
      | cons h4 h5 =>
        cases h5 with
        | cons h5 h6 =>
          cases h6
          have e2 := tp_str h2
          have e3 := tp_int h3
          subst e2 e3
          exact ⟨a, _, _, rfl, h1, h4, h5⟩
-- has_form: slots book 0, number 1, value 2, word 3, start 4, outage 5, trees 6; cells []
abbrev s_has_form : Stmt := top 46
abbrev N_has_form : List Str := ["book", "number", "value", "word", "start", "outage", "trees"]
theorem sc_has_form : FnScope N_has_form ["book", "number", "value"] (defScope s_has_form) := ⟨rfl, rfl, rfl, by decide +kernel, rfl, by decide +kernel, by decide +kernel⟩
def sp_has_form (g : Gx) : Sp := fun vs H Q _ => ∃ a v B, ∃ number : Nat, ∃ c : Cs, ∃ ks : List D, vs = [.ref a, .int number, v] ∧ BookAt g H a B ∧ Tp g.K H v (leafD c ks) ∧ missF B number = some c ∧ ∀ H', Ex g.T H H' → Q (.bl true) H'
theorem ok_has_form (g : Gx) (T : Blt g.mg) (Z : Fct g) (C_is_below : Cal g.P g.w g.K g.mg g.base 2 "is_below" ["value", "bound"] (sp_is_below g)) (C_nodes : CalP g.P g.w g.K g.mg g.base 1 g.nc "nodes" (sp_Net_nodes g)) (C_net : CalP g.P g.w g.K g.mg g.base 1 g.bc "net" (sp_Book_net g)) (C_is_outage : Cal g.P g.w g.K g.mg g.base 4 "is_outage" ["net", "value"] (sp_is_outage g)) (C_is_missed : Cal g.P g.w g.K g.mg g.base 7 "is_missed" ["book", "start", "outage"] (sp_is_missed g))  {f : Addr} {fd : FuncData} (F : Fun g.K "has_form" "has_form" s_has_form f fd) : FnOk g.P g.w g.K g.mg g.base CX0 8 f fd ["book", "number", "value"] (sp_has_form g) := by
  refine F.ok sc_has_form (fun vs H Q E h => ?_) (fun cdv A outer s H vs Q E hr h => ?_)
  · first | (obtain ⟨rfl, _⟩ := h; rfl) | (obtain ⟨_, rfl, _⟩ := h; rfl) | (obtain ⟨_, _, rfl, _⟩ := h; rfl) | (obtain ⟨_, _, _, rfl, _⟩ := h; rfl) | (obtain ⟨_, _, _, _, rfl, _⟩ := h; rfl) | (obtain ⟨_, _, _, _, _, rfl, _⟩ := h; rfl) | (obtain ⟨_, _, _, _, _, _, rfl, _⟩ := h; rfl) | (obtain ⟨_, _, _, _, _, _, _, rfl, _⟩ := h; rfl) | (obtain ⟨_, _, _, _, _, _, _, _, rfl, _⟩ := h; rfl) | (obtain ⟨_, _, _, _, _, _, _, _, _, rfl, _⟩ := h; rfl) | (obtain ⟨_, _, _, _, _, _, _, _, _, _, rfl, _⟩ := h; rfl) | (obtain ⟨_, _, _, _, _, _, _, _, _, _, _, rfl, _⟩ := h; rfl) | (obtain ⟨_, _, _, _, _, _, _, _, _, _, _, _, rfl, _⟩ := h; rfl) | (obtain ⟨_, _, _, _, _, _, _, _, _, _, _, _, _, rfl, _⟩ := h; rfl)
  have hu := room_un hr
  obtain ⟨a, v, B, number, c, ks, rfl, hB, hv, hm, kk⟩ := h
  refine ⟨_, (pss_cons (ps_if (PW.pt (pw_or (pt_not (pt_val (pe_callB (isiW g) (by rfl) T.b_isinstance boot_f_isinstance (pa_cons (pv 2) (pa_cons (pe_bltn (v := .ty "tuple") rfl T.b_tuple boot_t_tuple rfl) pa_nil))))) (pw_or (pt_cmpR op_ne (pe_callB (lenW g) (by rfl) T.b_len boot_f_len (pa_cons (pv 2) pa_nil)) pe_int (nomark _)) (pw_or (pt_not (pt_val (pe_callB (isiW g) (by rfl) T.b_isinstance boot_f_isinstance (pa_cons (pe_ix (ixW g) (pv 2) pe_int (fun _ _ => rfl)) (pa_cons (pe_bltn (v := .ty "str") rfl T.b_str boot_t_str rfl) pa_nil))))) (pw_or1 (pt_cmpR op_ne (pe_ix (ixW g) (pv 2) pe_int (fun _ _ => rfl)) pe_str (nomark _))))))) (pss_one (ps_ret pe_bl)) pss_nil)
      (pss_cons (ps_asg (pv 2) (gTW g (n := 4) rfl (pgs_cons (pg_name (i := 3) sc_has_form.nd rfl (Or.inl rfl)) (pgs_cons (pg_name (i := 4) sc_has_form.nd rfl (Or.inl rfl)) (pgs_cons (pg_name (i := 5) sc_has_form.nd rfl (Or.inl rfl)) (pgs_cons (pg_name (i := 6) sc_has_form.nd rfl (Or.inl rfl)) pgs_nil))))))
      (pss_cons (ps_if (PW.pt (pw_or (pt_not (pt_val (pe_cF C_is_below (hr.mono (by decide)) rfl (pa_cons (pv 4) (pa_cons (pe_pF C_nodes (hr.mono (by decide)) (pe_pF C_net (hr.mono (by decide)) (pv 0) rfl) rfl) pa_nil))))) (pw_or (pt_not (pt_val (pe_cF C_is_outage (hr.mono (by decide)) rfl (pa_cons (pe_pF C_net (hr.mono (by decide)) (pv 0) rfl) (pa_cons (pv 5) pa_nil))))) (pw_or1 (pt_cmpR op_gt (pe_callB (lenW g) (by rfl) T.b_len boot_f_len (pa_cons (pv 5) pa_nil)) (pv 1) (nomark _)))))) (pss_one (ps_ret pe_bl)) pss_nil)
      (pss_one (ps_ret (pe_and (pe_callB (isiW g) (by rfl) T.b_isinstance boot_f_isinstance (pa_cons (pv 6) (pa_cons (pe_bltn (v := .ty "tuple") rfl T.b_tuple boot_t_tuple rfl) pa_nil))) (pe_one (pe_cF C_is_missed (hr.mono (by decide)) rfl (pa_cons (pv 0) (pa_cons (pv 4) (pa_cons (pv 5) pa_nil))))))))))), ?_⟩
  have hBook := hB
  obtain ⟨⟨dx, gr, d0, l, kvs, h1, h2, h3, h4⟩, bok⟩ := hB
  obtain ⟨va, o, tr, rfl, hva, ho, htr⟩ := tp_leaf hv
  have hcl := missF_lt hm
  have hm0 := hm
  unfold missF at hm
  have hcm := List.mem_of_find?_eq_some hm
  have hcp := List.find?_some hm
  rw [Bool.and_eq_true, decide_eq_true_eq] at hcp
  obtain ⟨c1, c2, c3⟩ := casesF_out bok.net.few hcm
  obtain ⟨oa, os, rfl, hoa, hos⟩ := tp_tup ho
  have hol : os.length = c.2.length := by rw [hos.len, List.length_map]
  obtain ⟨ta, ts, rfl, hta, hts⟩ := tp_tup htr
  walk_at "go"
  refine isiT hva ?_
  walk_at "go"
  refine lenT hva ?_
  walk_at "go"
  refine st_ixT hva rfl ?_
  walk_at "go"
  refine st_ixT hva rfl ?_
  walk_at "go"
  refine ⟨rfl, ?_⟩
  walk_at "go"
  refine st_g4 hva ?_
  walk_at "go"
  refine ⟨a, _, _, rfl, h1, a, B, rfl, hBook, fun gr2 hg2 => ?_⟩
  obtain ⟨dx2, p2, ys2, q1, _⟩ := hg2.ex
  refine ⟨gr2, _, _, rfl, q1, gr2, B.n, B.L, rfl, hg2, ?_⟩
  walk_at "go"
  refine ⟨_, _, rfl, ⟨by omega, by omega⟩, ?_⟩
  walk_at "go"
  refine ⟨a, _, _, rfl, h1, a, B, rfl, hBook, fun gr3 hg3 => ?_⟩
  walk_at "go"
  refine ⟨gr3, _, B.n, B.L, c.2, rfl, hg3, ho, ⟨c1, c2⟩, c3, fun H1 e1 => ?_⟩
  walk_at "go"
  refine lenT (e1.st hoa) ?_
  walk_at "go"
  refine st_F (decide_eq_false (by rw [hol]; have := hcp.1; omega)) ?_
  walk_at "go"
  refine isiT (e1.st hta) ?_
  walk_at "go"
  refine ⟨a, _, B, c.1, c.2, rfl, e1.book hBook, hcl, e1.tp ho, fun H2 e2 => ?_⟩
  rw [hcp.2]
  exact kk _ (e1.trans e2)
-- holds_behind: slots book 0, offers 1, number 2, done 3, left 4, value 5, word 6, start 7, outage 8, trees 9, due 10, offer 11, tree 12; cells []
abbrev s_holds_behind : Stmt := top 47
abbrev N_holds_behind : List Str := ["book", "offers", "number", "done", "left", "value", "word", "start", "outage", "trees", "due", "offer", "tree"]
theorem sc_holds_behind : FnScope N_holds_behind ["book", "offers", "number", "done", "left", "value"] (defScope s_holds_behind) := ⟨rfl, rfl, rfl, by decide +kernel, rfl, by decide +kernel, by decide +kernel⟩
def sp_holds_behind (g : Gx) (m : Nat) : Sp := fun vs H Q _ => ∃ a v dv tv B, ∃ ofs : List (Ky × Row), ∃ number left : Nat, ∃ dn : List Ky, ∃ d : D, vs = [.ref a, v, .int number, dv, .int left, tv] ∧ left < m ∧ BookAt g H a B ∧ Tp g.K H v (.tuple (ofs.map eO)) ∧ OfOk B.n B.L B.t B.w ofs ∧ Tp g.K H dv (.tuple (dn.map eK)) ∧ dn.length ≤ 1000 - m ∧
  treeF ofs number left B dn = some d ∧ Tp g.K H tv d ∧ ∀ H', Ex g.T H H' → Q (.bl true) H'
theorem kidsF_len {α : Type} {f : α → Option D} : ∀ {l : List α} {ks : List D}, kidsF f l = some ks → ks.length = l.length
  | [], ks, h => by cases h; rfl
  | x :: l, ks, h => by
    rw [kidsF] at h
    split at h
    · cases h
    · split at h
      · cases h
      · rename_i ds hds
        cases h
        exact congrArg Nat.succ (kidsF_len hds)
theorem kidsF_get {α : Type} {f : α → Option D} : ∀ {l : List α} {ks : List D} {i : Nat} {x : α} {d : D}, kidsF f l = some ks → l[i]? = some x → ks[i]? = some d → f x = some d
  | [], _, _, _, _, _, h, _ => by simp at h
  | y :: l, ks, i, x, d, h, hx, hd => by
    rw [kidsF] at h
    split at h
    · cases h
    · rename_i d0 hd0
      split at h
      · cases h
      · rename_i ds hds
        cases h
        cases i with
        | zero =>
          simp only [List.getElem?_cons_zero, Option.some.injEq] at hx hd
          subst hx hd
          exact hd0
        | succ i => exact kidsF_get hds (by simpa using hx) (by simpa using hd)
theorem ok_holds_behind (g : Gx) (T : Blt g.mg) (Z : Fct g) (m : Nat) (hm1000 : m < 100) (C_has_form : Cal g.P g.w g.K g.mg g.base 8 "has_form" ["book", "number", "value"] (sp_has_form g)) (C_fitting : Cal g.P g.w g.K g.mg g.base 6 "fitting" ["book", "offers", "case", "done"] (sp_fitting g))
    (C_with_rows : CalM g.P g.w g.K g.mg g.base 7 g.bc "with_rows" ["self", "rows"] (sp_Book_with_rows g)) (C_holds_behind : Cal g.P g.w g.K g.mg g.base (9 + m) "holds_behind" ["book", "offers", "number", "done", "left", "value"] (sp_holds_behind g m))
    {f : Addr} {fd : FuncData} (F : Fun g.K "holds_behind" "holds_behind" s_holds_behind f fd) : FnOk g.P g.w g.K g.mg g.base CX0 (9 + m + 1) f fd ["book", "offers", "number", "done", "left", "value"] (sp_holds_behind g (m + 1)) := by
  refine F.ok sc_holds_behind (fun vs H Q E h => ?_) (fun cdv A outer s H vs Q E hr h => ?_)
  · obtain ⟨_, _, _, _, _, _, _, _, _, _, rfl, _⟩ := h; rfl
  have hu := room_un hr
  obtain ⟨a, v, dv, tv, B, ofs, number, left, dn, dt, rfl, hlm, hB, hv, ok, hdn, hdl, htree, htv, kk⟩ := h
  refine ⟨_, (pss_cons (ps_if (pt_not (pt_val (pe_cF C_has_form (hr.mono (by omega)) rfl (pa_cons (pv 0) (pa_cons (pv 2) (pa_cons (pv 5) pa_nil)))))) (pss_one (ps_ret pe_bl)) pss_nil)
      (pss_cons (ps_asg (pv 5) (gTW g (n := 4) rfl (pgs_cons (pg_name (i := 6) sc_holds_behind.nd rfl (Or.inl rfl)) (pgs_cons (pg_name (i := 7) sc_holds_behind.nd rfl (Or.inl rfl)) (pgs_cons (pg_name (i := 8) sc_holds_behind.nd rfl (Or.inl rfl)) (pgs_cons (pg_name (i := 9) sc_holds_behind.nd rfl (Or.inl rfl)) pgs_nil))))))
      (pss_cons (ps_set (i := 10) sc_holds_behind.nd rfl (Or.inl rfl) (pe_ifExp (pt_cmpR op_gt (pv 4) pe_int (nomark _)) (pe_cF C_fitting (hr.mono (by omega)) rfl (pa_cons (pv 0) (pa_cons (pv 1) (pa_cons (pe_tup (pa_cons (pv 7) (pa_cons (pv 8) pa_nil))) (pa_cons (pv 3) pa_nil))))) (pe_lst pa_nil)))
      (pss_cons (ps_if (pt_cmpR op_ne (pe_callB (lenW g) (by rfl) T.b_len boot_f_len (pa_cons (pv 10) pa_nil)) (pe_callB (lenW g) (by rfl) T.b_len boot_f_len (pa_cons (pv 9) pa_nil)) (nomark _)) (pss_one (ps_ret pe_bl)) pss_nil)
      (pss_cons (ps_for PassesOwn.never rfl (iZLTW g (by rfl) T.b_zip (pa_cons (pv 10) (pa_cons (pv 9) pa_nil))) (gTW g (n := 2) rfl (pgs_cons (pg_name (i := 11) sc_holds_behind.nd rfl (Or.inl rfl)) (pgs_cons (pg_name (i := 12) sc_holds_behind.nd rfl (Or.inl rfl)) pgs_nil))) (pss_one (ps_if (pt_not (pt_val (pe_cF C_holds_behind (hr.mono (by omega)) rfl (pa_cons (pe_mF C_with_rows (hr.mono (by omega)) (pv 0) (pa_cons (pe_tup (pa_cons (pv 11) pa_nil)) pa_nil)) (pa_cons (pv 1) (pa_cons (pv 2) (pa_cons (pe_op (catAW g) (pv 3) (pe_tup (pa_cons (pe_ix (ixW g) (pv 11) pe_int (fun _ _ => rfl)) pa_nil))) (pa_cons (pe_op op_sub (pv 4) pe_int) (pa_cons (pv 12) pa_nil))))))))) (pss_one (ps_ret pe_bl)) pss_nil)))
      (pss_one (ps_ret pe_bl))))))), ?_⟩
  have hBook := hB
  obtain ⟨⟨dx, gr, d0, l, kvs, h1, h2, h3, h4⟩, bok⟩ := hB
  have hof := ok.few
  obtain ⟨c, ks, hmiss, rfl⟩ : ∃ c ks, missF B number = some c ∧ dt = leafD c ks := by
    cases left with
    | zero =>
      rw [treeF] at htree
      split at htree
      · cases htree
      · rename_i c hc
        exact ⟨c, _, hc, (Option.some.inj htree).symm⟩
    | succ l =>
      rw [treeF] at htree
      split at htree
      · cases htree
      · rename_i c hc
        split at htree
        · cases htree
        · exact ⟨c, _, hc, (Option.some.inj htree).symm⟩
  have hcl := missF_lt hmiss
  walk_at "go"
  refine ⟨a, tv, B, number, c, ks, rfl, hBook, htv, hmiss, fun H1 e1 => ?_⟩
  walk_at "go"
  obtain ⟨va, o, tr, rfl, hva, ho, htr⟩ := tp_leaf (e1.tp htv)
  refine st_g4 hva ?_
  walk_at "go"
  obtain ⟨ta, ts, rfl, hta, hts⟩ := tp_tup htr
  cases left with
  | zero =>
    rw [treeF, hmiss] at htree
    have hks : ks = [] := by
      have := Option.some.inj htree
      unfold leafD at this
      simpa using this.symm
    subst hks
    cases hts
    refine st_F rfl ?_
    walk_at "go"
    refine ⟨Nat.zero_le _, fun q hq => ?_⟩
    have e2 : Ex g.T H1 (upd H1 q (.lst [])) := .new hq
    walk_at "go"
    refine lenL (.of upd_same) ?_
    walk_at "go"
    refine lenT (e2.st hta) ?_
    walk_at "go"
    refine ⟨q, ta, [], [], rfl, .of upd_same, e2.st hta, ?_⟩
    refine forZ (K := g.K) (xs := []) (ys := []) rfl (fun i σ H3 => H3 = upd H1 q (.lst [])) rfl (fun i σ H3 p => by rw [p]; exact ⟨.of upd_same, e2.st hta⟩) (fun i x y t σ H3 hi => by simp at hi) (fun σ H3 p => ?_)
    subst p
    walk_at "go"
    exact kk _ (e1.trans e2)
  | succ lf =>
    rw [treeF, hmiss] at htree
    dsimp only at htree
    cases hkid : kidsF (fun o => treeF ofs number lf (putRows B [o]) (dn ++ [o.1])) (fitF B ofs c dn) with
    | none => rw [hkid] at htree; cases htree
    | some ks0 =>
      rw [hkid] at htree
      have hks : ks0 = ks := by
        have := Option.some.inj htree
        unfold leafD at this
        simpa using this
      subst hks
      have hkl := kidsF_len hkid
      refine st_T (decide_eq_true (by omega)) ?_
      walk_at "go"
      refine ⟨szr rfl, fun q hq => ?_⟩
      have e2 : Ex g.T H1 (upd H1 q (.tup [.int c.1, o])) := .new hq
      walk_at "go"
      have e12 := e1.trans e2
      refine ⟨a, v, _, dv, B, ofs, c, dn, rfl, e12.book hBook, e12.tp hv, hof, .tup (.of upd_same) (.cons (.int _) (.cons (Tp.up ho (noTup_none hq)) .nil)), hcl, e12.tp hdn, fun dp H3 dys ndp e3 hdp hdys => ?_⟩
      walk_at "go"
      refine lenL (.of hdp) ?_
      walk_at "go"
      have e23 := e2.trans e3
      refine lenT (e23.st hta) ?_
      walk_at "go"
      have hdl2 : dys.length = ts.length := by
        rw [hdys.len, List.length_map, hts.len, hkl]
      refine st_F (by rw [hdl2, decide_eq_true rfl]; rfl) ?_
      walk_at "go"
      refine ⟨dp, ta, dys, ts, rfl, .of hdp, e23.st hta, ?_⟩
      refine forZ (K := g.K) (xs := dys) (ys := ts) hdl2 (fun i σ H4 => Ex g.T H3 H4 ∧ ∃ x11 x12, σ = [some (.ref a), some v, some (.int number), some dv, some (.int (lf + 1 : Nat)), some (.ref va), some (.str "miss"), some (.int c.1), some o, some (.ref ta), some (.ref dp), x11, x12]) ⟨.refl _, _, _, rfl⟩
        (fun i σ H4 p => ⟨.of (p.1.at hdp), (e23.trans p.1).st hta⟩) (fun i x y t σ H4 hi hj p ht => ?_) (fun σ H4 p => ?_)
      · obtain ⟨e4, x11, x12, rfl⟩ := p
        obtain ⟨of, hof1, hxo⟩ := hdys.src hi
        obtain ⟨dk, hdk, hyk⟩ := hts.got hj
        have hofm := List.mem_of_getElem? hof1
        have hom := fit_mem hofm
        have e5 : Ex g.T H4 (upd H4 t (.tup [x, y])) := .new ht
        have e45 := e4.trans e5
        have e15 := e12.trans (e3.trans e45)
        refine st_g2 (.of upd_same) ?_
        walk_at "go"
        refine ⟨a, _, _, rfl, e15.at h1, rfl, ?_⟩
        walk_at "go"
        refine ⟨szr rfl, fun q2 hq2 => ?_⟩
        have e6 : Ex g.T (upd H4 t (.tup [x, y])) (upd (upd H4 t (.tup [x, y])) q2 (.tup [x])) := .new hq2
        walk_at "go"
        refine ⟨a, _, B, [of], rfl, (e15.trans e6).book hBook, .tup (.of upd_same) (.one ((e45.trans e6).tp hxo)), one_ok ok hom, Nat.le_of_ble_eq_true rfl, fun b H5 e7 hb => ?_⟩
        have e67 := e6.trans e7
        walk_at "go"
        obtain ⟨oa, ok2, or2, rfl, hoa, hok, hor⟩ := tp_eO ((e45.trans e67).tp hxo)
        refine st_ixT hoa rfl ?_
        walk_at "go"
        refine ⟨szr rfl, fun q3 hq3 => ?_⟩
        have e8 : Ex g.T H5 (upd H5 q3 (.tup [ok2])) := .new hq3
        have e18 := e15.trans (e67.trans e8)
        obtain ⟨da, ds, rfl, hda, hds⟩ := tp_tup (e18.tp hdn)
        have hdsl : ds.length = dn.length := by rw [hds.len, List.length_map]
        walk_at "go"
        refine catT hda (.of upd_same) (by rw [hdsl, List.length_singleton]; omega) fun p4 H6 h6 hp4 => ?_
        have e9 : Ex g.T (upd H5 q3 (.tup [ok2])) H6 := by
          rcases h6 with rfl | ⟨h6, rfl⟩
          · exact .refl _
          · exact .new h6
        walk_at "go"
        have e89 := e8.trans e9
        have e19 := e18.trans e9
        refine ⟨b, v, .ref p4, y, putRows B [of], ofs, number, lf, dn ++ [of.1], dk, by rw [show ((lf + 1 : Nat) : Int) - 1 = (lf : Int) by omega]; rfl, by omega, e89.book hb, e19.tp hv, ok, .tup hp4 ?_, by rw [List.length_append, List.length_singleton]; omega, kidsF_get (f := fun o => treeF ofs number lf (putRows B [o]) (dn ++ [o.1])) hkid hof1 hdk, (e23.trans (e45.trans (e67.trans e89))).tp hyk, fun H7 e10 => ?_⟩
        · rw [List.map_append]
          exact (e9.tps hds).app (.one (e89.tp hok))
        walk_at "go"
        exact ⟨e45.trans (e67.trans (e89.trans e10)), _, _, rfl⟩
      · obtain ⟨e4, x11, x12, rfl⟩ := p
        walk_at "go"
        exact kk _ (e12.trans (e3.trans e4))
-- mend_tree_holds: slots book 0, offers 1, number 2, left 3, value 4; cells []
abbrev s_mend_tree_holds : Stmt := top 48
abbrev N_mend_tree_holds : List Str := ["book", "offers", "number", "left", "value"]
theorem sc_mend_tree_holds : FnScope N_mend_tree_holds ["book", "offers", "number", "left", "value"] (defScope s_mend_tree_holds) := ⟨rfl, rfl, rfl, by decide +kernel, rfl, by decide +kernel, by decide +kernel⟩
def sp_mend_tree_holds (g : Gx) : Sp := fun vs H Q _ => ∃ a v tv B, ∃ ofs : List (Ky × Row), ∃ number left : Nat, ∃ d : D, vs = [.ref a, v, .int number, .int left, tv] ∧ left ≤ 3 ∧ BookAt g H a B ∧ Tp g.K H v (.tuple (ofs.map eO)) ∧ OfOk B.n B.L B.t B.w ofs ∧
  treeF ofs number left B [] = some d ∧ Tp g.K H tv d ∧ ∀ H', Ex g.T H H' → Q (.bl true) H'
theorem ok_mend_tree_holds (g : Gx) (T : Blt g.mg) (Z : Fct g) (C_holds_behind : Cal g.P g.w g.K g.mg g.base 13 "holds_behind" ["book", "offers", "number", "done", "left", "value"] (sp_holds_behind g 4))
    {f : Addr} {fd : FuncData} (F : Fun g.K "mend_tree_holds" "mend_tree_holds" s_mend_tree_holds f fd) : FnOk g.P g.w g.K g.mg g.base CX0 14 f fd ["book", "offers", "number", "left", "value"] (sp_mend_tree_holds g) := by
  refine F.ok sc_mend_tree_holds (fun vs H Q E h => ?_) (fun cdv A outer s H vs Q E hr h => ?_)
  · obtain ⟨_, _, _, _, _, _, _, _, rfl, _⟩ := h; rfl
  obtain ⟨a, v, tv, B, ofs, number, left, d, rfl, hl, hB, hv, ok, htr, htv, kk⟩ := h
  refine ⟨_, (pss_one (ps_ret (pe_cF C_holds_behind (hr.mono (by decide)) rfl (pa_cons (pv 0) (pa_cons (pv 1) (pa_cons (pv 2) (pa_cons (pe_tup pa_nil) (pa_cons (pv 3) (pa_cons (pv 4) pa_nil))))))))), ?_⟩
  walk_at "go"
  refine ⟨Nat.zero_le _, fun q hq => ?_⟩
  walk_at "go"
  have e1 : Ex g.T H (upd H q (.tup [])) := .new hq
  exact ⟨a, _, _, tv, B, ofs, number, left, [], d, rfl, by omega, e1.book hB, e1.tp hv, ok, .tup (.of upd_same) .nil, by decide, htr, e1.tp htv, fun H2 e2 => kk H2 (e1.trans e2)⟩
end Sp
end
section
set_option Elab.async false
set_option linter.all false
set_option maxRecDepth 100000
set_option maxHeartbeats 4000000
set_option autoImplicit false
local macro_rules | `(tactic| walk_at "go") => `(tactic| repeat first
  | (with_reducible first
     | refine Sp.st_var rfl ?_ | refine Sp.st_c ?_ | refine Sp.st_op ?_ | refine Sp.st_seq ?_ | refine Sp.st_asg ?_ | refine Sp.st_name ?_
     | refine Sp.st_ret ?_ | refine Sp.st_drop ?_ | refine Sp.st_next ?_ | refine Sp.st_if ?_ | refine Sp.st_nx ?_ | refine Sp.st_rt ?_
     | refine Sp.st_cons ?_ | refine Sp.st_nil ?_ | refine Sp.st_cb ?_ | refine Sp.st_call ?_ | refine Sp.st_test ?_ | refine Sp.st_B ?_
     | refine Sp.st_not ?_ | refine Sp.st_and ?_ | refine Sp.st_or ?_ | refine Sp.st_andV ?_ | refine Sp.st_orV ?_ | refine Sp.st_notV ?_
     | refine Sp.st_tif ?_ | refine Sp.st_tup ?_ | refine Sp.st_lst ?_ | refine Sp.st_blx ?_ | refine Sp.st_I0 ?_ | refine Sp.st_U ?_
     | refine Sp.st_eqI ?_ | refine Sp.st_neI ?_ | refine Sp.st_chain ?_ | refine Sp.isiI ?_ | refine Sp.isiB ?_ | refine Sp.isiS ?_
     | refine Sp.st_T rfl ?_ | refine Sp.st_F rfl ?_ | refine Sp.st_lc ?_ | refine Sp.st_iT ?_ | refine Sp.st_iL ?_ | refine Sp.st_iR1 ?_
     | refine Sp.st_iR2 ?_ | refine Sp.st_iET ?_ | refine Sp.st_iZA ?_ | refine Sp.st_iZLT ?_ | refine Sp.st_for ?_ | refine Sp.st_fld ?_
     | refine Sp.st_sfld ?_ | refine Sp.st_prop ?_ | refine Sp.st_meth ?_ | refine Sp.st_make ?_ | refine Sp.st_isN ?_ | refine Sp.st_yes ?_
     | refine Sp.isNI ?_ | refine Sp.notNI ?_ | refine Sp.int1I ?_ | refine Sp.int1B ?_ | refine Sp.min2I ?_ | refine Sp.max2I ?_
     | refine Sp.st_dputN ?_ | refine Sp.st_dgetN ?_ | refine Sp.st_revL ?_ | refine Sp.st_din ?_ | refine Sp.st_dnin ?_ | refine Sp.st_dget ?_ | refine Sp.st_dput ?_ | refine Sp.st_dc ?_ | refine Sp.st_dcN ?_
     | refine Sp.st_sortLam ?_ | refine Sp.st_lc2 ?_ | refine Sp.st_un ?_ | refine Sp.st_lenSet ?_ | refine Sp.st_bm ?_ | refine Sp.st_lenO ?_ | refine Sp.st_sl ?_ | refine Sp.st_part ?_ | refine Sp.st_nopart ?_ | refine Sp.st_intx ?_)
  | ((with_reducible refine Sp.st_wp ?_ ?_); (focus rfl)))
namespace Sp
open PySem PySem.Spec L2

section
variable {X : Cx}
theorem PS.nox {st : Stmt} {t : TS} (h : PS X.nox st t) : PS X st t := ⟨fun pins s σ H D I hw =>
  wpAny_mono (h.run pins s σ H D (I.wish _) hw) (fun _ _ q => q.unwish) fun _ _ z => False.elim z⟩
end
/-- what the written part says of TooMany -/
structure TmF (g : Gx) (tm fI : Addr) : Prop where
  ox : OexC g.K tm
  no : PySem.W.findIn g.K (.ref tm) "limit" = some none
  iC : PySem.W.findIn g.K (.ref tm) "__init__" = some (some (.ref fI))
  tI : PySem.W.typeIn g.K (.ref fI) = some (.type "function")
  gm : g.mg "TooMany" = some (.ref tm)
  ex : PySem.W.exmOne g.K (.ref tm) (.ref tm) = some true
-- TooMany.__init__: slots self 0, limit 1; cells []
abbrev s_TooMany___init__ : Stmt := inClass (top 10) 0
abbrev N_TooMany___init__ : List Str := ["self", "limit"]
theorem sc_TooMany___init__ : FnScope N_TooMany___init__ ["self", "limit"] (defScope s_TooMany___init__) := ⟨rfl, rfl, rfl, by decide +kernel, rfl, by decide +kernel, by decide +kernel⟩
def sp_TooMany___init__ (g : Gx) (tm : Addr) : Sp := fun vs H Q _ => ∃ a, ∃ n : Int, vs = [.ref a, .int n] ∧ H a = some (exo a tm none) ∧ ∀ d, H d = none → d ≠ a → Q .non (upd (upd H d (exd d [("limit", .int n)])) a (exo a tm (some d)))
theorem st_ost {K : Fg} {σ : L2.St} {H : Hp} {De : Ends} {f : Str} {to te : TE} (q : te σ H fun y H1 => to σ H1 fun x H2 => ∃ a C : Addr, x = .ref a ∧ OexC K C ∧ PySem.W.findIn K (.ref C) f = some none ∧
  ((H2 a = some (exo a C none) ∧ ∀ dx, H2 dx = none → dx ≠ a → De.nx σ (upd (upd H2 dx (exd dx [(f, y)])) a (exo a C (some dx)))) ∨
    ∃ (dx : Addr) (fs : List (Str × V)), H2 a = some (exo a C (some dx)) ∧ H2 dx = some (exd dx fs) ∧ fs.length ≤ 900 ∧ De.nx σ (upd H2 dx (exd dx ((f, y) :: fs))))) : tOst K f to te De σ H := q
theorem ok_TooMany___init__ (g : Gx) {tm fI : Addr} (TM : TmF g tm fI) {f : Addr} {fd : FuncData} (F : Fun g.K "__init__" "TooMany.__init__" s_TooMany___init__ f fd) : FnOk g.P g.w g.K g.mg g.base CX0 1 f fd ["self", "limit"] (sp_TooMany___init__ g tm) := by
  refine F.ok sc_TooMany___init__ (fun vs H Q E h => ?_) (fun cdv A outer s H vs Q E hr h => ?_)
  · obtain ⟨_, _, rfl, _⟩ := h; rfl
  obtain ⟨a, n, rfl, ha, kk⟩ := h
  refine ⟨_, (pss_one (ps_ost (pv 0) (pv 1))), ?_⟩
  walk_at "go"
  refine st_ost ?_
  walk_at "go"
  refine ⟨a, tm, rfl, TM.ox, TM.no, .inl ⟨ha, fun d hd hne => ?_⟩⟩
  exact kk d hd hne
/-- the choice of the fewest offers, or none -/
def allCh (ofs : List (Ky × Row)) (most : Nat) : List (List Nat) := (List.range (most + 1)).flatMap (choicesF ofs)
def goodF (B : Bk) (ofs : List (Ky × Row)) (number : Nat) (ch : List Nat) : Bool := decide (missF (changedF B ofs ch) number = none)
def fewF (B : Bk) (ofs : List (Ky × Row)) (number most : Nat) : Option (List Nat) := (allCh ofs most).find? (goodF B ofs number)
-- fewest_mend: slots book 0, offers 1, number 2, most 3, size 4, choice 5; cells []
abbrev s_fewest_mend : Stmt := top 42
abbrev N_fewest_mend : List Str := ["book", "offers", "number", "most", "size", "choice"]
theorem sc_fewest_mend : FnScope N_fewest_mend ["book", "offers", "number", "most"] (defScope s_fewest_mend) := ⟨rfl, rfl, rfl, by decide +kernel, rfl, by decide +kernel, by decide +kernel⟩
def sp_fewest_mend (g : Gx) (tm : Addr) : Sp := fun vs H Q E => ∃ a v B, ∃ ofs : List (Ky × Row), ∃ number most : Nat, vs = [.ref a, v, .int number, .int most] ∧ most ≤ 3 ∧ BookAt g H a B ∧ Tp g.K H v (.tuple (ofs.map eO)) ∧ OfOk B.n B.L B.t B.w ofs ∧ LamX.Tabs g.T H ∧
  (∀ ch, fewF B ofs number most = some ch → ∀ r H', Ex g.T H H' → Tp g.K H' r (ot ch) → Q r H') ∧ (fewF B ofs number most = none → ∀ d H', Ex g.T H H' → E (.ref tm) (some d) H')
theorem find_take {α : Type} {p : α → Bool} {l : List α} {i : Nat} {x : α} (hx : l[i]? = some x) (hall : ∀ y ∈ l.take i, p y = false) (h : p x = true) : l.find? p = some x := by
  rw [List.find?_eq_some_iff_getElem]
  obtain ⟨hl, he⟩ := List.getElem?_eq_some_iff.mp hx
  refine ⟨h, i, hl, he, fun j hj => ?_⟩
  rw [hall l[j] (List.mem_take_iff_getElem.mpr ⟨j, by omega, rfl⟩)]
  rfl
theorem find_app {α : Type} {p : α → Bool} {a b c : List α} {x : α} (ha : ∀ y ∈ a, p y = false) (hb : b.find? p = some x) : (a ++ b ++ c).find? p = some x := by
  have h0 : a.find? p = none := by
    rw [List.find?_eq_none]
    intro y hy
    rw [ha y hy]
    decide
  rw [List.append_assoc, List.find?_append, h0, List.find?_append, hb]
  rfl
theorem ok_fewest_mend (g : Gx) (T : Blt g.mg) (Z : Fct g) {tm fI : Addr} (TM : TmF g tm fI) {fdI : FuncData} (F1 : FnOk g.P g.w g.K g.mg g.base CX0 1 fI fdI ["self", "limit"] (sp_TooMany___init__ g tm)) (B1 : Binds g.K fdI ["self", "limit"] [])
    (C_choices : Cal g.P g.w g.K g.mg g.base 1 "choices" ["offers", "size"] (sp_choices g)) (C_changed : Cal g.P g.w g.K g.mg g.base 8 "changed" ["book", "offers", "choice"] (sp_changed g)) (C_first_miss_within : Cal g.P g.w g.K g.mg g.base 10 "first_miss_within" ["book", "number"] (sp_first_miss_within g))
    {f : Addr} {fd : FuncData} (F : Fun g.K "fewest_mend" "fewest_mend" s_fewest_mend f fd) : FnOk g.P g.w g.K g.mg g.base (L2.CX g.P g.w) 11 f fd ["book", "offers", "number", "most"] (sp_fewest_mend g tm) := by
  refine F.okX sc_fewest_mend (fun vs H Q E h => ?_) (fun cdv A outer s H vs Q E hr h => ?_)
  · obtain ⟨_, _, _, _, _, _, rfl, _⟩ := h; rfl
  have hu := room_un hr
  obtain ⟨a, v, B, ofs, number, most, rfl, hm3, hB, hv, ok, ht, kk, ke⟩ := h
  refine ⟨_, pss_cons (PS.nox (ps_for PassesOwn.never rfl (pi_range1 (by rfl) T.b_range (pa_cons (pe_op op_add (pv 3) pe_int) pa_nil)) (pg_name (i := 4) sc_fewest_mend.nd rfl (Or.inl rfl)) (pss_one (ps_for PassesOwn.never rfl (iLW g (pe_cF C_choices (hr.mono (by decide)) rfl (pa_cons (pv 1) (pa_cons (pv 4) pa_nil)))) (pg_name (i := 5) sc_fewest_mend.nd rfl (Or.inl rfl)) (pss_one (ps_if (pt_cmpR isNW (pe_cF C_first_miss_within (hr.mono (by decide)) rfl (pa_cons (pe_cF C_changed (hr.mono (by decide)) rfl (pa_cons (pv 0) (pa_cons (pv 1) (pa_cons (pv 5) pa_nil)))) (pa_cons (pv 2) pa_nil))) pe_non (nomark _)) (pss_one (ps_ret (pv 5))) pss_nil))))))
      (pss_one (ps_raise rfl (takes_of rfl rfl rfl rfl) (pmk_oex (ds := []) (dvs := []) TM.ox TM.iC TM.tI F1 (hr.mono (by decide)) B1 .nil pass0 rfl TM.gm (pa_cons (pv 3) pa_nil)))), ?_⟩
  have hof := ok.few
  have hBook := hB
  walk_at "go"
  refine ⟨(most + 1 : Nat), by rw [show ((most + 1 : Nat) : Int) = (most : Int) + 1 by omega], by omega, by omega, ?_⟩
  rw [Int.toNat_natCast]
  refine forR (fun i σ H1 => Ex g.T H H1 ∧ (∀ ch ∈ (List.range i).flatMap (choicesF ofs), goodF B ofs number ch = false) ∧ ∃ x4 x5, σ = [some (.ref a), some v, some (.int number), some (.int most), x4, x5]) ⟨.refl _, by simp, _, _, rfl⟩ (fun i σ H1 hi p => ?_) (fun σ H1 p => ?_)
  · obtain ⟨e1, hall, x4, x5, rfl⟩ := p
    rw [Int.zero_add]
    walk_at "go"
    refine ⟨v, i, ofs, rfl, e1.tp hv, hof, by omega, fun p H2 ys e2 hp hys => ?_⟩
    walk_at "go"
    refine ⟨p, rfl, ⟨_, .of hp⟩, ?_⟩
    refine forL (K := g.K) (xs := ys) (fun j σ H3 => Ex g.T H2 H3 ∧ (∀ ch ∈ (choicesF ofs i).take j, goodF B ofs number ch = false) ∧ ∃ x5, σ = [some (.ref a), some v, some (.int number), some (.int most), some (.int i), x5]) ⟨.refl _, by simp, _, rfl⟩ (fun j σ H3 p2 => .of (p2.1.at hp)) (fun j x σ H3 hj p2 => ?_) (fun σ H3 p2 => ?_)
    · obtain ⟨e3, hall2, x5, rfl⟩ := p2
      obtain ⟨ch, hch, hxc⟩ := hys.src hj
      have hchm := List.mem_of_getElem? hch
      have cok := choices_chok (by omega) hchm
      have e13 := e1.trans (e2.trans e3)
      walk_at "go"
      refine ⟨a, v, x, B, ofs, ch, rfl, e13.book hBook, e13.tp hv, ok, e3.tp hxc, cok, fun b H4 e4 hb => ?_⟩
      walk_at "go"
      refine ⟨b, _, number, rfl, hb, (e13.trans e4).tab ht, fun r H5 e5 hr5 => ?_⟩
      walk_at "go"
      cases hmiss : missF (changedF B ofs ch) number with
      | none =>
        rw [hmiss] at hr5
        have h0 := tp_non hr5
        subst h0
        refine st_T rfl ?_
        walk_at "go"
        refine kk ch ?_ _ _ (e13.trans (e4.trans e5)) ((e3.trans (e4.trans e5)).tp hxc)
        have hgood : goodF B ofs number ch = true := by unfold goodF; rw [hmiss]; rfl
        have h1 := find_take hch hall2 hgood
        unfold fewF allCh
        have hsplit : List.range (most + 1) = List.range i ++ [i] ++ (List.range (most + 1)).drop (i + 1) := by
          have h2 : List.range i ++ [i] = (List.range (most + 1)).take (i + 1) := by
            rw [List.take_range, Nat.min_eq_left (by omega), List.range_succ]
          rw [h2, List.take_append_drop]
        rw [hsplit, List.flatMap_append, List.flatMap_append, List.flatMap_singleton]
        exact find_app hall h1
      | some c =>
        rw [hmiss] at hr5
        obtain ⟨ca, o, rfl, hca, ho⟩ := tp_eC hr5
        refine st_F rfl ?_
        walk_at "go"
        refine ⟨e3.trans (e4.trans e5), fun c2 hc2 => ?_, _, rfl⟩
        rw [List.take_succ, hch, Option.toList_some] at hc2
        rcases List.mem_append.mp hc2 with hc2 | hc2
        · exact hall2 c2 hc2
        · rw [List.mem_singleton.mp hc2]
          unfold goodF
          rw [hmiss]; rfl
    · obtain ⟨e3, hall2, x5, rfl⟩ := p2
      have hl : ys.length = (choicesF ofs i).length := by rw [hys.len, List.length_map]
      rw [hl, List.take_length] at hall2
      walk_at "go"
      refine ⟨e1.trans (e2.trans e3), fun ch hch => ?_, _, _, rfl⟩
      rw [List.range_succ, List.flatMap_append, List.flatMap_singleton] at hch
      rcases List.mem_append.mp hch with h | h
      · exact hall ch h
      · exact hall2 ch h
  · obtain ⟨e1, hall, x4, x5, rfl⟩ := p
    have hnone : fewF B ofs number most = none := by
      unfold fewF allCh
      rw [List.find?_eq_none]
      intro ch hch
      rw [hall ch hch]
      decide
    show tMkO tm (sp_TooMany___init__ g tm) [] (tCons (tVar 3) tNil) _ H1 _
    refine st_cons ?_
    refine st_var rfl ?_
    refine st_nil ?_
    refine ⟨Nat.le_of_ble_eq_true rfl, fun ea hea => ?_⟩
    refine ⟨ea, most, rfl, upd_same, fun d hd hne => ⟨rfl, d, [("limit", .int most)], upd_same, by rw [upd_ne hne]; exact upd_same, by rw [upd_ne hne] at hd; exact hd, ?_⟩⟩
    rw [upd_ne hne] at hd
    refine ke hnone d _ (e1.trans (.of fun b o hb => ?_))
    have hbd : b ≠ d := ne_of_none hb hd
    have hba : b ≠ ea := ne_of_none hb hea
    rw [upd_ne hbd, del_ne hba, upd_ne hba, upd_ne hbd, upd_ne hba]
    exact hb
/-- three values and one keyword's -/
def pk {α : Type} : List α → List α → List α
  | [a, b, c], [d] => [a, b, c, d]
  | _, _ => []
theorem pk_rel : ∀ {vs : List V} {us : List Value} {zs : List V} {ws : List Value}, L2.Vals vs us → L2.Vals zs ws → L2.Vals (pk vs zs) (pk us ws)
  | _, _, _, _, .cons a (.cons b (.cons c .nil)), .cons d .nil => .cons a (.cons b (.cons c (.cons d .nil)))
  | _, _, _, _, .nil, _ => .nil
  | _, _, _, _, .cons _ .nil, _ => .nil
  | _, _, _, _, .cons _ (.cons _ .nil), _ => .nil
  | _, _, _, _, .cons _ (.cons _ (.cons _ (.cons _ _))), _ => .nil
  | _, _, _, _, .cons _ (.cons _ (.cons _ .nil)), .nil => .nil
  | _, _, _, _, .cons _ (.cons _ (.cons _ .nil)), .cons _ (.cons _ _) => .nil
/-- a def that may raise, called with one keyword -/
structure CalE (P : Program) (w : World) (K : Fg) (mg : Str → Option Value) (base : Heap) (k : Nat) (x : Str) (ps ks : List Str) (sp : Sp) : Prop where
  ex : ∃ f fd, FnOk P w K mg base (L2.CX P w) k f fd ps sp ∧ mg x = some (.ref f) ∧ PySem.W.keepIn K (.ref f) = true ∧ KBinds K fd ps ks pk pk
def tCallKS (sp : Sp) (E : L2.St → XK) (t tk : TA) : TE := fun σ H Q => t σ H fun vs H1 => tk σ H1 fun zs H2 => sp (pk vs zs) H2 Q (E σ)
section
variable {X : Cx} {k j : Nat} {x : Str} {ps ks : List Str} {sp : Sp} {E : L2.St → XK} {e : Expr} {es : List Expr} {kws : List Keyword} {t tk : TA} {p pos : Pos}
theorem pe_cKS (c : CalE X.prog X.w X.K X.mg X.base j x ps ks sp) (hr : Room j X.A) (hg : Gl X x) (hx : ∀ σ, PassesAt (L2.CX X.prog X.w) X σ (E σ)) (ha : PA X (e :: es) t) (hkw : PK X kws tk)
    (hall : (backToKw pos (keywordEach kws X.env)).all (·.1.isSome) = true := by rfl) (hks : (backToKw pos (keywordEach kws X.env)).filterMap (·.1) = ks := by rfl)
    (hdb : (x == ("__debug__" : Str)) = false := by decide) (he : starEach (e :: es) X.env = (false, eval e X.env) :: starEach es X.env := by rfl)
    (hpl : ((backTo pos (starEach (e :: es) X.env)).any (·.1) || (backToKw pos (keywordEach kws X.env)).any (·.1.isNone)) = false := by rfl) :
    PE X (.Call (.Name x p) (e :: es) kws pos) (tCallKS sp E t tk) := by
  obtain ⟨f, fd, F, hm, hk, hb⟩ := c.ex
  refine ⟨fun pins s σ H Q I h => ?_⟩
  refine wpAny_Call_Name_kw (ld_glob I hg hm ?_ hdb)
  refine PySem.W.callWith_KW (h₀ := X.base) I.ok.mod.kin hk hall (thn (ha.run pos pins s σ H _ I h) fun us s1 ⟨vs, H1, I1, r, q⟩ => ?_) hpl he
  refine thn (hkw.run pos pins s1 σ H1 _ I1 q) fun ws s2 ⟨zs, H2, I2, rz, q2⟩ => ⟨I2.kIn, ?_⟩
  rw [hks]
  have r2 := hb.rel r rz
  have hl : (pk us ws).length = ps.length := by rw [← r2.length]; exact F.len _ _ _ _ q2
  refine wpAny_call (codeAny_mono (F.run X.A X.stack s2 H2 ⟨us, ks.zip ws⟩ (pk us ws) (pk vs zs) Q (E σ) hr I2.env0 (hb.to s2 us ws I2.kIn hl) r2 q2) fun r s' hq => ?_)
  cases r with
  | error er => exact hx σ pins H2 s2 er s' I2 hq
  | ok fl =>
    cases fl with
    | ret u => exact I2.after hq
    | next => exact False.elim hq
    | brk => exact False.elim hq
    | cont => exact False.elim hq
end
theorem st_callKS {sp : Sp} {E : L2.St → XK} {t tk : TA} {σ : L2.St} {H : Hp} {Q : VK} (q : t σ H fun vs H1 => tk σ H1 fun zs H2 => sp (pk vs zs) H2 Q (E σ)) : tCallKS sp E t tk σ H Q := q
-- _law_told: slots _law_book_here 0, _law_offers 1, _law_number 2, _law_limit 3, _law_found 4; cells []
abbrev s__law_told : Stmt := top 72
abbrev N__law_told : List Str := ["_law_book_here", "_law_offers", "_law_number", "_law_limit", "_law_found"]
theorem sc__law_told : FnScope N__law_told ["_law_book_here", "_law_offers", "_law_number", "_law_limit"] (defScope s__law_told) := ⟨rfl, rfl, rfl, by decide +kernel, rfl, by decide +kernel, by decide +kernel⟩
def sp__law_told (g : Gx) : Sp := fun vs H Q _ => ∃ a v B, ∃ ofs : List (Ky × Row), ∃ number most : Nat, vs = [.ref a, v, .int number, .int most] ∧ most ≤ 3 ∧ BookAt g H a B ∧ Tp g.K H v (.tuple (ofs.map eO)) ∧ OfOk B.n B.L B.t B.w ofs ∧ LamX.Tabs g.T H ∧
  ∀ r H', Ex g.T H H' → Tp g.K H' r (match fewF B ofs number most with | none => .none | some ch => ot ch) → Q r H'
theorem ok__law_told (g : Gx) (T : Blt g.mg) {tm fI : Addr} (TM : TmF g tm fI) (C_fewest_mend : CalE g.P g.w g.K g.mg g.base 11 "fewest_mend" ["book", "offers", "number", "most"] ["most"] (sp_fewest_mend g tm))
    {f : Addr} {fd : FuncData} (F : Fun g.K "_law_told" "_law_told" s__law_told f fd) : FnOk g.P g.w g.K g.mg g.base CX0 12 f fd ["_law_book_here", "_law_offers", "_law_number", "_law_limit"] (sp__law_told g) := by
  refine F.ok sc__law_told (fun vs H Q E h => ?_) (fun cdv A outer s H vs Q E hr h => ?_)
  · obtain ⟨_, _, _, _, _, _, rfl, _⟩ := h; rfl
  obtain ⟨a, v, B, ofs, number, most, rfl, hm3, hB, hv, ok, ht, kk⟩ := h
  refine ⟨_, pss_cons (ps_set (i := 4) sc__law_told.nd rfl (Or.inl rfl) pe_non)
      (pss_cons (ps_try_only (c := .ref tm) rfl rfl ⟨rfl, by decide, .inl TM.gm⟩ LamX.takes0 (fun W pn xe tk _ => pss_one (ps_set (i := 4) sc__law_told.nd rfl (Or.inl rfl) (pe_cKS C_fewest_mend (hr.mono (by decide)) rfl (fun σ => passAt tk σ) (pa_cons (pv 0) (pa_cons (pv 1) (pa_cons (pv 2) pa_nil))) (pk_cons (pv 3) pk_nil))))
          (fun ea oe cls d pn _ _ => pss_one (ps_set (i := 4) sc__law_told.nd rfl (Or.inl rfl) pe_non)))
        (pss_one (ps_ret (pv 4)))), ?_⟩
  walk_at "go"
  refine st_callKS ?_
  walk_at "go"
  refine ⟨a, v, B, ofs, number, most, rfl, hm3, hB, hv, ok, ht, fun ch hch r H1 e hr => ?_, fun hn d H1 e => ?_⟩
  · walk_at "go"
    refine kk r H1 e ?_
    rw [hch]
    exact hr
  · refine ⟨true, TM.ex, fun _ ea hea => ?_, fun q => nomatch q⟩
    walk_at "go"
    refine kk _ H1 e ?_
    rw [hn]
    exact .non
end Sp
end
section
set_option Elab.async false
set_option linter.all false
set_option maxRecDepth 100000
set_option maxHeartbeats 4000000
set_option autoImplicit false
/-! Sp: the deck that the law draws from. -/
namespace Sp
open PySem PySem.Spec PyProof.Rows L2
/-- growth but for the deck's two lists at d and c -/
structure Eg (T : List (Addr × Str)) (d c : Addr) (H H' : Hp) : Prop where
  ext : ∀ b o, b ≠ d → b ≠ c → H b = some o → (∀ ps, o ≠ .tbl ps) → H' b = some o
  tab : LamX.Tabs T H → LamX.Tabs T H'
/-- the deck: the drawn cells, the others, the turn (at most k) -/
structure Deck (H : Hp) (d c0 c1 : Addr) (k : Nat) : Prop where
  ex : ∃ (ns ms : List Int) (t : Nat), H d = some (.lst [.ref c0, .ref c1, .int t]) ∧ H c0 = some (.lst (ns.map V.int)) ∧ H c1 = some (.lst (ms.map V.int)) ∧ 0 < ms.length ∧ ms.length ≤ 1000 ∧ ns.length ≤ 1000 ∧ t ≤ k
  n0 : d ≠ c0
  n1 : d ≠ c1
  n2 : c0 ≠ c1
section
variable {T : List (Addr × Str)} {K : Fg} {H H' H1 H2 : Hp} {d c c0 c1 p a : Addr} {k : Nat} {o : HO}
theorem Eg.refl : Eg T d c H H := ⟨fun _ _ _ _ e _ => e, fun t => t⟩
theorem Eg.trans (a : Eg T d c H H1) (b : Eg T d c H1 H2) : Eg T d c H H2 := ⟨fun x o n m e nt => b.ext x o n m (a.ext x o n m e nt) nt, fun t => b.tab (a.tab t)⟩
theorem Ex.eg (e : Ex T H H') : Eg T d c H H' := ⟨fun b o _ _ q nt => e.ext b o q nt, e.tab⟩
theorem Eg.then (a : Eg T d c H H1) (b : Ex T H1 H2) : Eg T d c H H2 := a.trans b.eg
theorem Eg.at (e : Eg T d c H H') (h : H a = some o) (n1 : a ≠ d) (n2 : a ≠ c) (n : ∀ ps, o ≠ .tbl ps := by intro _ z; cases z) : H' a = some o := e.ext a o n1 n2 h n
theorem Deck.nd (h : Deck H d c0 c1 k) : NoTup H d := let ⟨_, _, _, q, _⟩ := h.ex; noTup_of q
theorem Deck.nc (h : Deck H d c0 c1 k) : NoTup H c0 := let ⟨_, _, _, _, q, _⟩ := h.ex; noTup_of q
theorem Deck.le (h : Deck H d c0 c1 k) {j : Nat} (hj : k ≤ j) : Deck H d c0 c1 j := by
  obtain ⟨⟨ns, ms, t, q1, q2, q3, q4, q5, q6, q7⟩, n0, n1, n2⟩ := h
  exact ⟨⟨ns, ms, t, q1, q2, q3, q4, q5, q6, by omega⟩, n0, n1, n2⟩
theorem Ex.deck (e : Ex T H H') (h : Deck H d c0 c1 k) : Deck H' d c0 c1 k := by
  obtain ⟨⟨ns, ms, t, q1, q2, q3, q⟩, n0, n1, n2⟩ := h
  exact ⟨⟨ns, ms, t, e.at q1, e.at q2, e.at q3, q⟩, n0, n1, n2⟩
/-- what is new is none of the deck's -/
theorem Deck.ne_d (h : Deck H d c0 c1 k) (hp : H p = none) : p ≠ d := fun z => by
  obtain ⟨_, _, _, q, _⟩ := h.ex
  rw [z, q] at hp
  cases hp
theorem Deck.ne_c (h : Deck H d c0 c1 k) (hp : H p = none) : p ≠ c0 := fun z => by
  obtain ⟨_, _, _, _, q, _⟩ := h.ex
  rw [z, q] at hp
  cases hp
theorem Deck.new_d (h : Deck H d c0 c1 k) (hp : New H p) : p ≠ d := fun z => by
  obtain ⟨_, _, _, q, _⟩ := h.ex
  rw [z] at hp
  obtain ⟨ps, e⟩ := hp _ q
  cases e
theorem Deck.new_c (h : Deck H d c0 c1 k) (hp : New H p) : p ≠ c0 := fun z => by
  obtain ⟨_, _, _, _, q, _⟩ := h.ex
  rw [z] at hp
  obtain ⟨ps, e⟩ := hp _ q
  cases e
theorem Deck.new_e (h : Deck H d c0 c1 k) (hp : New H p) : p ≠ c1 := fun z => by
  obtain ⟨_, _, _, _, _, q, _⟩ := h.ex
  rw [z] at hp
  obtain ⟨ps, e⟩ := hp _ q
  cases e
/-- another object changes -/
theorem Deck.up (h : Deck H d c0 c1 k) (h1 : p ≠ d) (h2 : p ≠ c0) (h3 : p ≠ c1) : Deck (upd H p o) d c0 c1 k := by
  obtain ⟨⟨ns, ms, t, q1, q2, q3, q⟩, n0, n1, n2⟩ := h
  exact ⟨⟨ns, ms, t, by rw [upd_ne (Ne.symm h1)]; exact q1, by rw [upd_ne (Ne.symm h2)]; exact q2, by rw [upd_ne (Ne.symm h3)]; exact q3, q⟩, n0, n1, n2⟩
theorem Eg.mut {u : HO} (e : Eg T d c H H') (h : New H p) (n1 : p ≠ d) (n2 : p ≠ c) (hp : H' p = some u) (n : Pln u) : Eg T d c H (upd H' p o) := by
  refine ⟨fun b v m1 m2 q nt => ?_, fun t => tabs_upd (e.tab t) hp (fun ps z => by rw [z] at n; exact n) (fun q z => by rw [z] at n; exact n)⟩
  have nb : b ≠ p := fun z => by
    rw [z] at q
    obtain ⟨ps, rfl⟩ := h v q
    exact nt ps rfl
  rw [upd_ne nb]
  exact e.ext b v m1 m2 q nt
theorem Eg.st (e : Eg T d c H H') (nd : NoTup H d) (nc : NoTup H c) {b : Addr} {xs : List V} (q : SqT K H b xs) : SqT K H' b xs := by
  rcases q with q | q
  · have n1 : b ≠ d := fun z => by rw [z] at q; exact nd _ q
    have n2 : b ≠ c := fun z => by rw [z] at q; exact nc _ q
    rcases q with q | ⟨ob, q⟩
    · exact .inl (.inl (e.ext b _ n1 n2 q (fun ps z => by cases z)))
    · exact .inl (.inr ⟨ob, e.ext b _ n1 n2 q (fun ps z => by cases z)⟩)
  · exact .inr q
theorem Eg.tp (e : Eg T d c0 H H') (h : Deck H d c0 c1 k) {v : V} {x : D} (q : Tp K H v x) : Tp K H' v x := q.mv fun _ _ => e.st h.nd h.nc
theorem Eg.tps (e : Eg T d c0 H H') (h : Deck H d c0 c1 k) {v : List V} {x : List D} (q : TpAll K H v x) : TpAll K H' v x := q.mv fun _ _ => e.st h.nd h.nc
theorem Eg.new {j : Nat} (e : Eg T d c0 H H') (h' : Deck H' d c0 c1 j) (hp : New H' p) : New H p := fun o q => by
  by_cases z : ∃ ps, o = .tbl ps
  · exact z
  · have n1 : p ≠ d := h'.new_d hp
    have n2 : p ≠ c0 := h'.new_c hp
    exact hp o (e.ext p o n1 n2 q fun ps e => z ⟨ps, e⟩)
end
end Sp
end
section
set_option Elab.async false
set_option linter.all false
set_option maxRecDepth 100000
set_option maxHeartbeats 4000000
set_option autoImplicit false
local macro_rules | `(tactic| walk_at "go") => `(tactic| repeat first
  | (with_reducible first
     | refine Sp.st_var rfl ?_ | refine Sp.st_c ?_ | refine Sp.st_op ?_ | refine Sp.st_seq ?_ | refine Sp.st_asg ?_ | refine Sp.st_name ?_
     | refine Sp.st_ret ?_ | refine Sp.st_drop ?_ | refine Sp.st_next ?_ | refine Sp.st_if ?_ | refine Sp.st_nx ?_ | refine Sp.st_rt ?_
     | refine Sp.st_cons ?_ | refine Sp.st_nil ?_ | refine Sp.st_cb ?_ | refine Sp.st_call ?_ | refine Sp.st_test ?_ | refine Sp.st_B ?_
     | refine Sp.st_not ?_ | refine Sp.st_and ?_ | refine Sp.st_or ?_ | refine Sp.st_andV ?_ | refine Sp.st_orV ?_ | refine Sp.st_notV ?_
     | refine Sp.st_tif ?_ | refine Sp.st_tup ?_ | refine Sp.st_lst ?_ | refine Sp.st_blx ?_ | refine Sp.st_I0 ?_ | refine Sp.st_U ?_
     | refine Sp.st_eqI ?_ | refine Sp.st_neI ?_ | refine Sp.st_chain ?_ | refine Sp.isiI ?_ | refine Sp.isiB ?_ | refine Sp.isiS ?_
     | refine Sp.st_T rfl ?_ | refine Sp.st_F rfl ?_ | refine Sp.st_lc ?_ | refine Sp.st_iT ?_ | refine Sp.st_iL ?_ | refine Sp.st_iR1 ?_
     | refine Sp.st_iR2 ?_ | refine Sp.st_iET ?_ | refine Sp.st_iZA ?_ | refine Sp.st_iZLT ?_ | refine Sp.st_for ?_ | refine Sp.st_fld ?_
     | refine Sp.st_sfld ?_ | refine Sp.st_prop ?_ | refine Sp.st_meth ?_ | refine Sp.st_make ?_ | refine Sp.st_isN ?_ | refine Sp.st_yes ?_
     | refine Sp.isNI ?_ | refine Sp.notNI ?_ | refine Sp.int1I ?_ | refine Sp.int1B ?_ | refine Sp.min2I ?_ | refine Sp.max2I ?_
     | refine Sp.st_dputN ?_ | refine Sp.st_dgetN ?_ | refine Sp.st_revL ?_ | refine Sp.st_din ?_ | refine Sp.st_dnin ?_ | refine Sp.st_dget ?_ | refine Sp.st_dput ?_ | refine Sp.st_dc ?_ | refine Sp.st_dcN ?_
     | refine Sp.st_sortLam ?_ | refine Sp.st_lc2 ?_ | refine Sp.st_un ?_ | refine Sp.st_lenSet ?_ | refine Sp.st_bm ?_ | refine Sp.st_lenO ?_ | refine Sp.st_sl ?_ | refine Sp.st_part ?_ | refine Sp.st_nopart ?_ | refine Sp.st_intx ?_)
  | ((with_reducible refine Sp.st_wp ?_ ?_); (focus rfl)))
namespace Sp
open PySem PySem.Spec L2

-- _law_next: slots _law_deck_here 0, _law_many 1, _law_rest 2, _law_turn 3, _law_number 4, _law_mixed 5; cells []
abbrev s__law_next : Stmt := top 60
abbrev N__law_next : List Str := ["_law_deck_here", "_law_many", "_law_rest", "_law_turn", "_law_number", "_law_mixed"]
theorem sc__law_next : FnScope N__law_next ["_law_deck_here", "_law_many"] (defScope s__law_next) := ⟨rfl, rfl, rfl, by decide +kernel, rfl, by decide +kernel, by decide +kernel⟩
def sp__law_next (g : Gx) : Sp := fun vs H Q _ => ∃ d c0 c1, ∃ many k : Nat, vs = [.ref d, .int many] ∧ (1 ≤ many ∧ many ≤ 1000) ∧ k ≤ 1000000 ∧ Deck H d c0 c1 k ∧ ∀ (r : Nat) H', Eg g.T d c0 H H' → Deck H' d c0 c1 (k + 1) → r < many → Q (.int r) H'
theorem fmod_nat (i : Int) {m : Nat} (h : 1 ≤ m) : ∃ r : Nat, i.fmod m = r ∧ r < m := by
  rw [Int.fmod_eq_emod_of_nonneg _ (by omega)]
  have h1 := Int.emod_nonneg i (show (m : Int) ≠ 0 by omega)
  have h2 := Int.emod_lt_of_pos i (show (0 : Int) < m by omega)
  exact ⟨(i % m).toNat, by omega, by omega⟩
theorem ixN_nat {n j : Nat} (h : j < n) : ixN n (j : Int) = some j := by
  unfold ixN
  rw [if_pos (by omega), if_pos (by omega)]
  rfl
theorem eqv_nil (ns : List Int) : PyData.eqv (.list (ns.map PyData.int)) (.list []) = decide (ns = []) := by
  cases ns with
  | nil => rw [PyData.eqv]; rfl
  | cons x l =>
    rw [PyData.eqv, List.map_cons, PyData.eqvAll]
    rfl
theorem pur_ints (ns : List Int) : pur (.list (ns.map PyData.int)) = true := by
  show purs _ = true
  exact purs_map fun _ => rfl
theorem ok__law_next (g : Gx) (T : Blt g.mg) (Z : Fct g)   {f : Addr} {fd : FuncData} (F : Fun g.K "_law_next" "_law_next" s__law_next f fd) : FnOk g.P g.w g.K g.mg g.base CX0 1 f fd ["_law_deck_here", "_law_many"] (sp__law_next g) := by
  refine F.ok sc__law_next (fun vs H Q E h => ?_) (fun cdv A outer s H vs Q E hr h => ?_)
  · first | (obtain ⟨rfl, _⟩ := h; rfl) | (obtain ⟨_, rfl, _⟩ := h; rfl) | (obtain ⟨_, _, rfl, _⟩ := h; rfl) | (obtain ⟨_, _, _, rfl, _⟩ := h; rfl) | (obtain ⟨_, _, _, _, rfl, _⟩ := h; rfl) | (obtain ⟨_, _, _, _, _, rfl, _⟩ := h; rfl) | (obtain ⟨_, _, _, _, _, _, rfl, _⟩ := h; rfl) | (obtain ⟨_, _, _, _, _, _, _, rfl, _⟩ := h; rfl) | (obtain ⟨_, _, _, _, _, _, _, _, rfl, _⟩ := h; rfl) | (obtain ⟨_, _, _, _, _, _, _, _, _, rfl, _⟩ := h; rfl) | (obtain ⟨_, _, _, _, _, _, _, _, _, _, rfl, _⟩ := h; rfl) | (obtain ⟨_, _, _, _, _, _, _, _, _, _, _, rfl, _⟩ := h; rfl) | (obtain ⟨_, _, _, _, _, _, _, _, _, _, _, _, rfl, _⟩ := h; rfl) | (obtain ⟨_, _, _, _, _, _, _, _, _, _, _, _, _, rfl, _⟩ := h; rfl)
  have hu := room_un hr
  obtain ⟨d, c0, c1, many, k, rfl, ⟨hm1, hm2⟩, hk, hD, kk⟩ := h
  refine ⟨_, (pss_cons (ps_while PassesOwn.never (pt_cmpR (neDW g hu) (pe_ix (ixW g) (pv 0) pe_int (fun _ _ => rfl)) (pe_lst pa_nil) (nomark _)) (pss_cons (ps_set (i := 2) sc__law_next.nd rfl (Or.inl rfl) (pe_ix (ixW g) (pe_ix (ixW g) (pv 0) pe_int (fun _ _ => rfl)) pe_int (fun _ _ => rfl)))
      (pss_cons (ps_if (pt_cmpR op_gt (pv 2) pe_int (nomark _)) (pss_cons (ps_asg (pe_op op_fdivN (pv 2) (pv 1)) (pg_sub (pe_ix (ixW g) (pv 0) pe_int (fun _ _ => rfl)) pe_int set_list))
      (pss_one (ps_ret (pe_op op_modN (pe_callTy int1W (by rfl) T.b_int boot_t_int (pa_cons (pv 2) pa_nil)) (pv 1))))) pss_nil)
      (pss_one (ps_expr (bmW g PySem.F.plainAttrs_list PySem.F.slot_list_pop PySem.F.type_list_pop mt_popAt (pe_ix (ixW g) (pv 0) pe_int (fun _ _ => rfl)) (pa_cons pe_int pa_nil)))))))
      (pss_cons (ps_asg (pe_op op_add (pe_ix (ixW g) (pv 0) pe_int (fun _ _ => rfl)) pe_int) (pg_sub (pv 0) pe_int set_list))
      (pss_cons (ps_set (i := 3) sc__law_next.nd rfl (Or.inl rfl) (pe_ix (ixW g) (pv 0) pe_int (fun _ _ => rfl)))
      (pss_cons (ps_set (i := 4) sc__law_next.nd rfl (Or.inl rfl) (pe_op op_modN (pe_callTy int1W (by rfl) T.b_int boot_t_int (pa_cons (pe_ix (ixW g) (pe_ix (ixW g) (pv 0) pe_int (fun _ _ => rfl)) (pe_op op_modN (pe_callTy int1W (by rfl) T.b_int boot_t_int (pa_cons (pv 3) pa_nil)) (pe_callB (lenW g) (by rfl) T.b_len boot_f_len (pa_cons (pe_ix (ixW g) (pv 0) pe_int (fun _ _ => rfl)) pa_nil))) (fun _ _ => rfl)) pa_nil)) pe_int))
      (pss_cons (ps_set (i := 5) sc__law_next.nd rfl (Or.inl rfl) (pe_op op_modN (pe_callTy int1W (by rfl) T.b_int boot_t_int (pa_cons (pe_op op_add (pe_op op_add (pe_op op_mul (pv 4) (pe_op op_add pe_int (pe_op op_mul pe_int (pv 3)))) (pe_op op_mul (pe_op op_mul pe_int (pv 3)) (pv 3))) pe_int) pa_nil)) pe_int))
      (pss_one (ps_ret (pe_op op_modN (pe_op op_fdivN (pe_op op_modN (pe_callTy int1W (by rfl) T.b_int boot_t_int (pa_cons (pe_op op_mul (pv 5) (pv 5)) pa_nil)) pe_int) pe_int) (pv 1))))))))), ?_⟩
  walk_at "go"
  refine ⟨fun m σ H1 => Eg g.T d c0 H H1 ∧ Deck H1 d c0 c1 k ∧ (∃ ns : List Int, H1 c0 = some (.lst (ns.map V.int)) ∧ m = ns.length) ∧ ∃ x2, σ = [some (.ref d), some (.int many), x2, none, none, none], ?_, ?_⟩
  · obtain ⟨ns, ms, t, q1, q2, q⟩ := hD.ex
    exact ⟨_, .refl, hD, ⟨ns, q2, rfl⟩, _, rfl⟩
  rintro m σ H1 ⟨e1, hD1, ⟨ns, hc0, rfl⟩, x2, rfl⟩
  obtain ⟨⟨ns', ms, t, q1, q2, q3, q4, q5, q6, q7⟩, n0, n1, n2⟩ := hD1
  have hns : ns'.map V.int = ns.map V.int := by
    rw [hc0] at q2
    exact (HO.lst.inj (Option.some.inj q2)).symm
  have hns : ns' = ns := map_inj' (fun x y e => V.int.inj e) hns
  subst hns
  walk_at "go"
  refine st_ixL (.of q1) rfl ?_
  walk_at "go"
  refine ⟨Nat.zero_le _, fun p hp => ?_⟩
  have e2 : Ex g.T H1 (upd H1 p (.lst [])) := .new hp
  refine ⟨.list (ns'.map PyData.int), .list [], .lst (.of (e2.at q2)) (dpInts ns'), .lst (.of upd_same) .nil, shp (pur_ints ns') ?_, rfl, ?_⟩
  · refine Nat.le_trans (depth_lst (n := 0) (depth_map fun _ => Nat.le_refl _)) (by decide)
  rw [eqv_nil]
  refine ⟨_, rfl, ?_⟩
  have p1 := e2.at q1
  have p2 := e2.at q2
  have p3 := e2.at q3
  have hD2 : Deck (upd H1 p (.lst [])) d c0 c1 k := ⟨⟨ns', ms, t, p1, p2, p3, q4, q5, q6, q7⟩, n0, n1, n2⟩
  have e12 : Eg g.T d c0 H (upd H1 p (.lst [])) := e1.then e2
  generalize upd H1 p (.lst []) = H2 at p1 p2 p3 hD2 e12
  cases ns' with
  | cons x ns =>
    refine st_T rfl ?_
    refine ⟨fun σ' H' => ∃ m', m' < (x :: ns).length ∧ Eg g.T d c0 H H' ∧ Deck H' d c0 c1 k ∧ (∃ ns : List Int, H' c0 = some (.lst (ns.map V.int)) ∧ m' = ns.length) ∧ ∃ x2, σ' = [some (.ref d), some (.int many), x2, none, none, none], fun σ' H' h => h, ?_⟩
    walk_at "go"
    refine st_ixL (.of p1) rfl ?_
    refine st_ixL (.of p2) (v := .int x) (show atI _ ((0 : Nat) : Int) = _ from atI_nat rfl) ?_
    walk_at "go"
    have hset : ∀ y : Int, Eg g.T d c0 H (upd H2 c0 (.lst ((x :: ns).map V.int |>.set 0 (.int y)))) ∧ Deck (upd H2 c0 (.lst ((x :: ns).map V.int |>.set 0 (.int y)))) d c0 c1 (k + 1) := fun y => by
      refine ⟨⟨fun b o m1 m2 q nt => by rw [upd_ne m2]; exact e12.ext b o m1 m2 q nt, fun tt => tabs_upd (e12.tab tt) p2 (fun ps z => by cases z) (fun q z => by unfold LamX.CodeO at z; cases z)⟩, ⟨y :: ns, ms, t, by rw [upd_ne n0]; exact p1, upd_same, by rw [upd_ne (Ne.symm n2)]; exact p3, q4, q5, q6, by omega⟩, n0, n1, n2⟩
    by_cases hx : x > 0
    · refine st_T (decide_eq_true hx) ?_
      walk_at "go"
      refine st_I ⟨by omega, by omega⟩ ?_
      refine st_gsub ?_
      walk_at "go"
      refine st_ixL (.of p1) rfl ?_
      walk_at "go"
      refine ⟨c0, _, 0, 0, rfl, rfl, p2, ixN_nat (by rw [List.length_map]; exact Nat.succ_pos _), ?_⟩
      walk_at "go"
      obtain ⟨hs1, hs2⟩ := hset (x.fdiv many)
      refine st_I (by omega) ?_
      obtain ⟨r, hr1, hr2⟩ := fmod_nat x hm1
      rw [hr1]
      exact kk r _ hs1 hs2 hr2
    · refine st_F (decide_eq_false hx) ?_
      walk_at "go"
      refine st_ixL (.of p1) rfl ?_
      refine ⟨tyL (.of p2), ?_⟩
      walk_at "go"
      refine popL (i := 0) p2 (Nat.succ_pos _) (by rw [List.length_map]; omega) rfl ?_
      refine ⟨ns.length, Nat.lt_succ_self _, ?_, ?_, ⟨ns, upd_same, rfl⟩, _, rfl⟩
      · exact ⟨fun b o m1 m2 q nt => by rw [upd_ne m2]; exact e12.ext b o m1 m2 q nt, fun tt => tabs_upd (e12.tab tt) p2 (fun ps z => by cases z) (fun q z => by unfold LamX.CodeO at z; cases z)⟩
      · exact ⟨⟨ns, ms, t, by rw [upd_ne n0]; exact p1, upd_same, by rw [upd_ne (Ne.symm n2)]; exact p3, q4, q5, by rw [List.length_cons] at q6; omega, q7⟩, n0, n1, n2⟩
  | nil =>
    refine st_F rfl ?_
    walk_at "go"
    refine st_ixL (.of p1) rfl ?_
    walk_at "go"
    refine st_gsub ?_
    walk_at "go"
    refine ⟨d, _, 2, 2, rfl, rfl, p1, rfl, ?_⟩
    have ht : ((t : Int) + 1) = ((t + 1 : Nat) : Int) := by omega
    rw [ht]
    have r1 : (upd H2 d (.lst ([V.ref c0, V.ref c1, V.int t].set 2 (.int (t + 1 : Nat))))) d = some (.lst [.ref c0, .ref c1, .int (t + 1 : Nat)]) := upd_same
    have r3 : (upd H2 d (.lst ([V.ref c0, V.ref c1, V.int t].set 2 (.int (t + 1 : Nat))))) c1 = some (.lst (ms.map V.int)) := by rw [upd_ne (Ne.symm n1)]; exact p3
    have hs1 : Eg g.T d c0 H (upd H2 d (.lst ([V.ref c0, V.ref c1, V.int t].set 2 (.int (t + 1 : Nat))))) := ⟨fun b o m1 m2 q nt => by rw [upd_ne m1]; exact e12.ext b o m1 m2 q nt, fun tt => tabs_upd (e12.tab tt) p1 (fun ps z => by cases z) (fun q z => by unfold LamX.CodeO at z; cases z)⟩
    have hs2 : Deck (upd H2 d (.lst ([V.ref c0, V.ref c1, V.int t].set 2 (.int (t + 1 : Nat))))) d c0 c1 (k + 1) := ⟨⟨[], ms, t + 1, r1, by rw [upd_ne (Ne.symm n0)]; exact p2, r3, q4, q5, Nat.zero_le _, by omega⟩, n0, n1, n2⟩
    generalize upd H2 d (.lst ([V.ref c0, V.ref c1, V.int t].set 2 (.int (t + 1 : Nat)))) = H3 at r1 r3 hs1 hs2
    walk_at "go"
    refine st_ixL (.of r1) rfl ?_
    walk_at "go"
    refine st_ixL (.of r1) rfl ?_
    walk_at "go"
    refine st_ixL (.of r1) rfl ?_
    walk_at "go"
    refine lenL (.of r3) ?_
    walk_at "go"
    rw [List.length_map]
    refine st_I (by omega) ?_
    obtain ⟨ix, hix1, hix2⟩ := fmod_nat ((t + 1 : Nat) : Int) (m := ms.length) q4
    rw [hix1]
    refine st_ixL (.of r3) (atI_nat (v := .int ms[ix]) (by rw [List.getElem?_map, List.getElem?_eq_getElem hix2]; rfl)) ?_
    walk_at "go"
    refine st_I (by decide) ?_
    walk_at "go"
    obtain ⟨num, hn1, hn2⟩ := fmod_nat ms[ix] (m := 2147483629) (by decide)
    rw [show (2147483629 : Int) = ((2147483629 : Nat) : Int) from rfl, hn1]
    refine st_I (.inl ⟨by omega, by omega⟩) ?_
    refine st_I0 ?_
    refine st_I (.inl ⟨by omega, by omega⟩) ?_
    walk_at "go"
    refine st_I (.inl ⟨by omega, by omega⟩) ?_
    walk_at "go"
    refine st_I (.inr ⟨by omega, by omega⟩) ?_
    refine st_I0 ?_
    walk_at "go"
    obtain ⟨mix, hx1, hx2⟩ := fmod_nat ((num : Int) * (50331 + 68111 * ((t + 1 : Nat) : Int)) + 41287 * ((t + 1 : Nat) : Int) * ((t + 1 : Nat) : Int) + 19) (m := 2147483587) (by decide)
    refine st_I (by decide) ?_
    rw [show (2147483587 : Int) = ((2147483587 : Nat) : Int) from rfl, hx1]
    walk_at "go"
    refine st_I (.inl ⟨by omega, by omega⟩) ?_
    walk_at "go"
    refine st_I (by decide) ?_
    walk_at "go"
    refine st_I ⟨by decide, by decide⟩ ?_
    walk_at "go"
    refine st_I (by omega) ?_
    obtain ⟨r, hr1, hr2⟩ := fmod_nat ((((mix : Int) * mix).fmod 2147483579).fdiv 16) hm1
    rw [hr1]
    exact kk r _ hs1 hs2 hr2
end Sp
end
section
set_option Elab.async false
set_option linter.all false
set_option maxRecDepth 100000
set_option maxHeartbeats 4000000
set_option autoImplicit false
local macro_rules | `(tactic| walk_at "go") => `(tactic| repeat first
  | (with_reducible first
     | refine Sp.st_var rfl ?_ | refine Sp.st_c ?_ | refine Sp.st_op ?_ | refine Sp.st_seq ?_ | refine Sp.st_asg ?_ | refine Sp.st_name ?_
     | refine Sp.st_ret ?_ | refine Sp.st_drop ?_ | refine Sp.st_next ?_ | refine Sp.st_if ?_ | refine Sp.st_nx ?_ | refine Sp.st_rt ?_
     | refine Sp.st_cons ?_ | refine Sp.st_nil ?_ | refine Sp.st_cb ?_ | refine Sp.st_call ?_ | refine Sp.st_test ?_ | refine Sp.st_B ?_
     | refine Sp.st_not ?_ | refine Sp.st_and ?_ | refine Sp.st_or ?_ | refine Sp.st_andV ?_ | refine Sp.st_orV ?_ | refine Sp.st_notV ?_
     | refine Sp.st_tif ?_ | refine Sp.st_tup ?_ | refine Sp.st_lst ?_ | refine Sp.st_blx ?_ | refine Sp.st_I0 ?_ | refine Sp.st_U ?_
     | refine Sp.st_eqI ?_ | refine Sp.st_neI ?_ | refine Sp.st_chain ?_ | refine Sp.isiI ?_ | refine Sp.isiB ?_ | refine Sp.isiS ?_
     | refine Sp.st_T rfl ?_ | refine Sp.st_F rfl ?_ | refine Sp.st_lc ?_ | refine Sp.st_iT ?_ | refine Sp.st_iL ?_ | refine Sp.st_iR1 ?_
     | refine Sp.st_iR2 ?_ | refine Sp.st_iET ?_ | refine Sp.st_iZA ?_ | refine Sp.st_iZLT ?_ | refine Sp.st_for ?_ | refine Sp.st_fld ?_
     | refine Sp.st_sfld ?_ | refine Sp.st_prop ?_ | refine Sp.st_meth ?_ | refine Sp.st_make ?_ | refine Sp.st_isN ?_ | refine Sp.st_yes ?_
     | refine Sp.isNI ?_ | refine Sp.notNI ?_ | refine Sp.int1I ?_ | refine Sp.int1B ?_ | refine Sp.min2I ?_ | refine Sp.max2I ?_
     | refine Sp.st_dputN ?_ | refine Sp.st_dgetN ?_ | refine Sp.st_revL ?_ | refine Sp.st_din ?_ | refine Sp.st_dnin ?_ | refine Sp.st_dget ?_ | refine Sp.st_dput ?_ | refine Sp.st_dc ?_ | refine Sp.st_dcN ?_
     | refine Sp.st_sortLam ?_ | refine Sp.st_lc2 ?_ | refine Sp.st_un ?_ | refine Sp.st_lenSet ?_ | refine Sp.st_bm ?_ | refine Sp.st_lenO ?_ | refine Sp.st_sl ?_ | refine Sp.st_part ?_ | refine Sp.st_nopart ?_ | refine Sp.st_intx ?_)
  | ((with_reducible refine Sp.st_wp ?_ ?_); (focus rfl)))
namespace Sp
open PySem PySem.Spec L2

theorem tpOfInts {K : Fg} {H : Hp} : ∀ l : List Int, TpAll K H (l.map V.int) (l.map PyData.int)
  | [] => .nil
  | n :: l => .cons (.int n) (tpOfInts l)
-- _law_deck: slots _law_script 0, _law_cells 1, _law_number 2; cells []
abbrev s__law_deck : Stmt := top 62
abbrev N__law_deck : List Str := ["_law_script", "_law_cells", "_law_number"]
theorem sc__law_deck : FnScope N__law_deck ["_law_script"] (defScope s__law_deck) := ⟨rfl, rfl, rfl, by decide +kernel, rfl, by decide +kernel, by decide +kernel⟩
def sp__law_deck (g : Gx) : Sp := fun vs H Q _ => ∃ l, ∃ ns : List Int, vs = [.ref l] ∧ SqL g.K H l (ns.map V.int) ∧ ns.length ≤ 900 ∧ ∀ d c0 c1 H', Ex g.T H H' → Deck H' d c0 c1 0 → Q (.ref d) H'
theorem ok__law_deck (g : Gx) (T : Blt g.mg) (Z : Fct g)   {f : Addr} {fd : FuncData} (F : Fun g.K "_law_deck" "_law_deck" s__law_deck f fd) : FnOk g.P g.w g.K g.mg g.base CX0 1 f fd ["_law_script"] (sp__law_deck g) := by
  refine F.ok sc__law_deck (fun vs H Q E h => ?_) (fun cdv A outer s H vs Q E hr h => ?_)
  · first | (obtain ⟨rfl, _⟩ := h; rfl) | (obtain ⟨_, rfl, _⟩ := h; rfl) | (obtain ⟨_, _, rfl, _⟩ := h; rfl) | (obtain ⟨_, _, _, rfl, _⟩ := h; rfl) | (obtain ⟨_, _, _, _, rfl, _⟩ := h; rfl) | (obtain ⟨_, _, _, _, _, rfl, _⟩ := h; rfl) | (obtain ⟨_, _, _, _, _, _, rfl, _⟩ := h; rfl) | (obtain ⟨_, _, _, _, _, _, _, rfl, _⟩ := h; rfl) | (obtain ⟨_, _, _, _, _, _, _, _, rfl, _⟩ := h; rfl) | (obtain ⟨_, _, _, _, _, _, _, _, _, rfl, _⟩ := h; rfl) | (obtain ⟨_, _, _, _, _, _, _, _, _, _, rfl, _⟩ := h; rfl) | (obtain ⟨_, _, _, _, _, _, _, _, _, _, _, rfl, _⟩ := h; rfl) | (obtain ⟨_, _, _, _, _, _, _, _, _, _, _, _, rfl, _⟩ := h; rfl) | (obtain ⟨_, _, _, _, _, _, _, _, _, _, _, _, _, rfl, _⟩ := h; rfl)
  have hu := room_un hr
  obtain ⟨l, ns, rfl, hl, hn, kk⟩ := h
  refine ⟨_, (pss_cons (ps_setLc (i := 1) (own := [("_law_number", 2)]) rfl sc__law_deck.nd rfl rfl (sw_true rfl rfl rfl (by decide +kernel)) (iLW g (pv 0)) (blkOk_by rfl) (fun _ _ _ _ _ => pg_name (i := 2) sc__law_deck.nd rfl (Or.inl rfl)) (fun _ _ _ _ _ => pts_nil) (fun _ _ _ _ _ => (pe_callB absW (by rfl) T.b_abs boot_f_abs (pa_cons (pv 2) pa_nil))))
      (pss_one (ps_ret (pe_lst (pa_cons (pe_lc (own := [("_law_number", 2)]) rfl sc__law_deck.nd (iLW g (pv 1)) (blkOk_by rfl) (fun _ _ _ _ _ => pg_name (i := 2) sc__law_deck.nd rfl (Or.inl rfl)) (fun _ _ _ _ _ => pts_one (pt_cmpR op_ge (pv 2) (pe_op op_pow pe_int pe_int) (nomark _))) (fun _ _ _ _ _ => (pv 2))) (pa_cons (pe_op op_cat (pv 1) (pe_lst (pa_cons (pe_op op_add (pe_callB (lenW g) (by rfl) T.b_len boot_f_len (pa_cons (pv 1) pa_nil)) pe_int) pa_nil))) (pa_cons pe_int pa_nil))))))), ?_⟩
  walk_at "go"
  refine ⟨l, rfl, ⟨_, hl⟩, ?_⟩
  refine lcL (T := g.T) (l := ns) (enc := PyData.int) (fun _ => true) (fun n => .int (if n < 0 then -n else n)) hl (tpOfInts ns) (by omega) (fun z x H1 hz e1 hx => ?_) fun p H1 ys np e1 hp hy => ?_
  · intro Yes No hY hN
    cases tp_int hx
    walk_at "go"
    refine absI ?_
    walk_at "go"
    exact hY rfl _ _ (.refl _) (.int _)
  · rw [List.filter_eq_self.mpr (fun _ _ => rfl)] at hy
    have hy2 := tpInts (l := ns.map fun n => if n < 0 then -n else n) (by rw [List.map_map]; exact hy)
    generalize hms : (ns.map fun n => if n < 0 then -n else n) = ms at hy2
    have hml : ms.length = ns.length := by rw [← hms, List.length_map]
    subst hy2
    walk_at "go"
    refine ⟨p, rfl, ⟨_, .of hp⟩, ?_⟩
    refine lcL (T := g.T) (l := ms) (enc := PyData.int) (fun n => decide ((10 : Int) ^ 18 ≤ n)) PyData.int (.of hp) (tpOfInts ms) (by omega) (fun z x H2 hz e2 hx => ?_) fun p2 H2 ys np2 e2 hp2 hy => ?_
    · intro Yes No hY hN
      cases tp_int hx
      walk_at "go"
      refine st_I (by unfold CPow; decide) ?_
      refine st_I0 ?_
      refine ⟨_, rfl, ?_⟩
      by_cases hc : (10 : Int) ^ 18 ≤ z
      · rw [if_pos (by exact decide_eq_true hc)]
        walk_at "go"
        exact hY (decide_eq_true hc) _ _ (.refl _) (.int _)
      · rw [if_neg (by rw [show decide (((10 : Int) ^ (18 : Int).toNat) ≤ z) = false from decide_eq_false hc]; decide)]
        exact hN (decide_eq_false hc) _ (.refl _)
    · have hy2 := tpInts (l := ms.filter fun n => decide ((10 : Int) ^ 18 ≤ n)) hy
      have hfl := List.length_filter_le (fun n => decide ((10 : Int) ^ 18 ≤ n)) ms
      generalize (ms.filter fun n => decide ((10 : Int) ^ 18 ≤ n)) = fs at hy2 hfl
      subst hy2
      walk_at "go"
      refine lenL (.of (e2.at hp)) ?_
      walk_at "go"
      refine ⟨szr rfl, fun p3 hp3 => ?_⟩
      refine catL (xs := ms.map V.int) (by rw [upd_ne (fun z => by rw [← z, e2.at hp] at hp3; cases hp3)]; exact e2.at hp) upd_same (by rw [List.length_map]; show ms.length + 1 ≤ _; omega) fun p4 hp4 => ?_
      walk_at "go"
      refine ⟨szr rfl, fun p5 hp5 => ?_⟩
      have n34 : p3 ≠ p4 := fun z => by rw [← z, upd_same] at hp4; cases hp4
      have n23 : p2 ≠ p3 := fun z => by rw [← z, hp2] at hp3; cases hp3
      have n24 : p2 ≠ p4 := fun z => by rw [← z, upd_ne n23, hp2] at hp4; cases hp4
      have n45 : p4 ≠ p5 := fun z => by rw [← z, upd_same] at hp5; cases hp5
      have n25 : p2 ≠ p5 := fun z => by rw [← z, upd_ne n24, upd_ne n23, hp2] at hp5; cases hp5
      refine kk p5 p2 p4 _ (((e1.trans e2).trans (.new hp3)).trans ((Ex.new hp4).trans (.new hp5))) ⟨⟨fs, ms ++ [(ms.length : Int) + 5], 0, upd_same, ?_, ?_, ?_, ?_, ?_, Nat.le_refl _⟩, Ne.symm n25, Ne.symm n45, n24⟩
      · rw [upd_ne n25, upd_ne n24, upd_ne n23]; exact hp2
      · rw [upd_ne n45, upd_same, List.map_append, List.length_map]; rfl
      · rw [List.length_append]; exact Nat.succ_pos _
      · rw [List.length_append]; show ms.length + 1 ≤ _; omega
      · omega
end Sp
end
section
set_option Elab.async false
set_option linter.all false
set_option maxRecDepth 100000
set_option maxHeartbeats 4000000
set_option autoImplicit false
local macro_rules | `(tactic| walk_at "go") => `(tactic| repeat first
  | (with_reducible first
     | refine Sp.st_var rfl ?_ | refine Sp.st_c ?_ | refine Sp.st_op ?_ | refine Sp.st_seq ?_ | refine Sp.st_asg ?_ | refine Sp.st_name ?_
     | refine Sp.st_ret ?_ | refine Sp.st_drop ?_ | refine Sp.st_next ?_ | refine Sp.st_if ?_ | refine Sp.st_nx ?_ | refine Sp.st_rt ?_
     | refine Sp.st_cons ?_ | refine Sp.st_nil ?_ | refine Sp.st_cb ?_ | refine Sp.st_call ?_ | refine Sp.st_test ?_ | refine Sp.st_B ?_
     | refine Sp.st_not ?_ | refine Sp.st_and ?_ | refine Sp.st_or ?_ | refine Sp.st_andV ?_ | refine Sp.st_orV ?_ | refine Sp.st_notV ?_
     | refine Sp.st_tif ?_ | refine Sp.st_tup ?_ | refine Sp.st_lst ?_ | refine Sp.st_blx ?_ | refine Sp.st_I0 ?_ | refine Sp.st_U ?_
     | refine Sp.st_eqI ?_ | refine Sp.st_neI ?_ | refine Sp.st_chain ?_ | refine Sp.isiI ?_ | refine Sp.isiB ?_ | refine Sp.isiS ?_
     | refine Sp.st_T rfl ?_ | refine Sp.st_F rfl ?_ | refine Sp.st_lc ?_ | refine Sp.st_iT ?_ | refine Sp.st_iL ?_ | refine Sp.st_iR1 ?_
     | refine Sp.st_iR2 ?_ | refine Sp.st_iET ?_ | refine Sp.st_iZA ?_ | refine Sp.st_iZLT ?_ | refine Sp.st_for ?_ | refine Sp.st_fld ?_
     | refine Sp.st_sfld ?_ | refine Sp.st_prop ?_ | refine Sp.st_meth ?_ | refine Sp.st_make ?_ | refine Sp.st_isN ?_ | refine Sp.st_yes ?_
     | refine Sp.isNI ?_ | refine Sp.notNI ?_ | refine Sp.int1I ?_ | refine Sp.int1B ?_ | refine Sp.min2I ?_ | refine Sp.max2I ?_
     | refine Sp.st_dputN ?_ | refine Sp.st_dgetN ?_ | refine Sp.st_revL ?_ | refine Sp.st_din ?_ | refine Sp.st_dnin ?_ | refine Sp.st_dget ?_ | refine Sp.st_dput ?_ | refine Sp.st_dc ?_ | refine Sp.st_dcN ?_
     | refine Sp.st_sortLam ?_ | refine Sp.st_lc2 ?_ | refine Sp.st_un ?_ | refine Sp.st_lenSet ?_ | refine Sp.st_bm ?_ | refine Sp.st_lenO ?_ | refine Sp.st_sl ?_ | refine Sp.st_part ?_ | refine Sp.st_nopart ?_ | refine Sp.st_intx ?_)
  | ((with_reducible refine Sp.st_wp ?_ ?_); (focus rfl)))
namespace Sp
open PySem PySem.Spec L2

theorem zipIdx_eq (L : List (Nat × Nat)) : L.zipIdx = (List.range L.length).map fun i => (L.getD i (0, 0), i) := by
  refine List.ext_getElem? fun i => ?_
  rw [List.getElem?_map]
  by_cases h : i < L.length
  · rw [List.getElem?_eq_getElem (by simpa using h), List.getElem?_range h]
    simp [List.getD_eq_getElem?_getD, List.getElem?_eq_getElem h]
  · rw [List.getElem?_eq_none (by simpa using h), List.getElem?_eq_none (by simpa using h)]
    rfl
theorem netAt_range (L : List (Nat × Nat)) (node : Nat) : netAt L node = (List.range L.length).filter fun i => decide (node = (L.getD i (0, 0)).1 ∨ node = (L.getD i (0, 0)).2) := by
  unfold netAt
  rw [zipIdx_eq, List.filter_map, List.map_map]
  exact (List.map_congr_left (fun _ _ => rfl)).trans (List.map_id _)
-- _law_at: slots _law_links 0, _law_node 1, _law_k 2; cells ['_law_links', '_law_node']
abbrev s__law_at : Stmt := top 66
abbrev N__law_at : List Str := ["_law_links", "_law_node", "_law_k"]
theorem sc__law_at : FnScope N__law_at ["_law_links", "_law_node"] (defScope s__law_at) := ⟨rfl, rfl, rfl, by decide +kernel, rfl, by decide +kernel, by decide +kernel⟩
def sp__law_at (g : Gx) : Sp := fun vs H Q _ => ∃ a xs, ∃ node : Nat, ∃ L : List (Nat × Nat), vs = [.ref a, .int node] ∧ SqL g.K H a xs ∧ TpAll g.K H xs (L.map eP) ∧ L.length ≤ 8 ∧ ∀ p H' ys, New H p → Ex g.T H H' → H' p = some (.lst ys) → TpAll g.K H' ys ((netAt L node).map eN) → Q (.ref p) H'
theorem ok__law_at (g : Gx) (T : Blt g.mg) (Z : Fct g)   {f : Addr} {fd : FuncData} (F : Fun g.K "_law_at" "_law_at" s__law_at f fd) : FnOk g.P g.w g.K g.mg g.base CX0 1 f fd ["_law_links", "_law_node"] (sp__law_at g) := by
  refine F.ok sc__law_at (fun vs H Q E h => ?_) (fun cdv A outer s H vs Q E hr h => ?_)
  · first | (obtain ⟨rfl, _⟩ := h; rfl) | (obtain ⟨_, rfl, _⟩ := h; rfl) | (obtain ⟨_, _, rfl, _⟩ := h; rfl) | (obtain ⟨_, _, _, rfl, _⟩ := h; rfl) | (obtain ⟨_, _, _, _, rfl, _⟩ := h; rfl) | (obtain ⟨_, _, _, _, _, rfl, _⟩ := h; rfl) | (obtain ⟨_, _, _, _, _, _, rfl, _⟩ := h; rfl) | (obtain ⟨_, _, _, _, _, _, _, rfl, _⟩ := h; rfl) | (obtain ⟨_, _, _, _, _, _, _, _, rfl, _⟩ := h; rfl) | (obtain ⟨_, _, _, _, _, _, _, _, _, rfl, _⟩ := h; rfl) | (obtain ⟨_, _, _, _, _, _, _, _, _, _, rfl, _⟩ := h; rfl) | (obtain ⟨_, _, _, _, _, _, _, _, _, _, _, rfl, _⟩ := h; rfl) | (obtain ⟨_, _, _, _, _, _, _, _, _, _, _, _, rfl, _⟩ := h; rfl) | (obtain ⟨_, _, _, _, _, _, _, _, _, _, _, _, _, rfl, _⟩ := h; rfl)
  have hu := room_un hr
  obtain ⟨a, xs, node, L, rfl, hs, hx, hL, kk⟩ := h
  refine ⟨_, (pss_one (ps_ret (pe_lc (own := [("_law_k", 2)]) rfl sc__law_at.nd (pi_range1 (by rfl) T.b_range (pa_cons (pe_callB (lenW g) (by rfl) T.b_len boot_f_len (pa_cons (pv 0) pa_nil)) pa_nil)) (blkOk_by rfl) (fun _ _ _ _ _ => pg_name (i := 2) sc__law_at.nd rfl (Or.inl rfl)) (fun _ _ _ _ _ => pts_one (pt_cmpR (inTW g hu) (pv 1) (pe_ix (ixW g) (pv 0) (pv 2) (fun _ _ => rfl)) rfl)) (fun _ _ _ _ _ => (pv 2))))), ?_⟩
  have hxl : xs.length = L.length := by rw [hx.len, List.length_map]
  walk_at "go"
  refine lenL hs ?_
  walk_at "go"
  refine ⟨L.length, by rw [hxl], by omega, by omega, ?_⟩
  rw [Int.toNat_natCast]
  refine lcR (T := g.T) (K := g.K) (fun i => decide (node = (L.getD i (0, 0)).1 ∨ node = (L.getD i (0, 0)).2)) eN (by omega) (fun z H1 hz e1 => ?_) fun p H1 ys np e1 hp hy => ?_
  · intro Yes No hY hN
    rw [Int.zero_add]
    walk_at "go"
    obtain ⟨y, hy1, hy2⟩ := hx.get (i := z) (d := eP (L.getD z (0, 0))) (by rw [List.getElem?_map, List.getD_eq_getElem?_getD, List.getElem?_eq_getElem hz]; rfl)
    refine st_ixL (e1.sl hs) (atI_nat hy1) ?_
    refine ⟨.int node, [.int (L.getD z (0, 0)).1, .int (L.getD z (0, 0)).2], .int _, (e1.tp hy2).dp, rfl, shp1 (n := 1) rfl (by simp [PyData.depth, PyData.depthAll]) (by decide), ?_⟩
    rw [any2]
    refine st_blx ?_
    by_cases hc : node = (L.getD z (0, 0)).1 ∨ node = (L.getD z (0, 0)).2
    · rw [decide_eq_true hc]
      walk_at "go"
      exact hY (decide_eq_true hc) _ _ (.refl _) (.int _)
    · rw [decide_eq_false hc]
      walk_at "go"
      exact hN (decide_eq_false hc) _ (.refl _)
  · rw [← netAt_range] at hy
    walk_at "go"
    exact kk p H1 ys np e1 hp hy
def pairsF (n : Nat) : List (Nat × Nat) := (List.range n).flatMap fun o => (List.range o).map fun i => (i, o)
theorem pairsF_len {n : Nat} (h : n ≤ 7) : (pairsF n).length ≤ 49 := by
  unfold pairsF
  have h1 := flat_len (l := List.range n) (f := fun o => (List.range o).map fun i => (i, o)) (k := 7) fun x hx => by
    rw [List.length_map, List.length_range]
    have := List.mem_range.mp hx
    omega
  rw [List.length_range] at h1
  omega
-- _law_pairs: slots _law_nodes 0, _law_found 1, _law_other 2, _law_one 3; cells ['_law_other']
abbrev s__law_pairs : Stmt := top 63
abbrev N__law_pairs : List Str := ["_law_nodes", "_law_found", "_law_other", "_law_one"]
theorem sc__law_pairs : FnScope N__law_pairs ["_law_nodes"] (defScope s__law_pairs) := ⟨rfl, rfl, rfl, by decide +kernel, rfl, by decide +kernel, by decide +kernel⟩
def sp__law_pairs (g : Gx) : Sp := fun vs H Q _ => ∃ n : Nat, vs = [.int n] ∧ n ≤ 7 ∧ ∀ p H' ys, New H p → Ex g.T H H' → H' p = some (.lst ys) → TpAll g.K H' ys ((pairsF n).map eP) → Q (.ref p) H'
theorem ok__law_pairs (g : Gx) (T : Blt g.mg) (Z : Fct g)   {f : Addr} {fd : FuncData} (F : Fun g.K "_law_pairs" "_law_pairs" s__law_pairs f fd) : FnOk g.P g.w g.K g.mg g.base CX0 1 f fd ["_law_nodes"] (sp__law_pairs g) := by
  refine F.ok sc__law_pairs (fun vs H Q E h => ?_) (fun cdv A outer s H vs Q E hr h => ?_)
  · first | (obtain ⟨rfl, _⟩ := h; rfl) | (obtain ⟨_, rfl, _⟩ := h; rfl) | (obtain ⟨_, _, rfl, _⟩ := h; rfl) | (obtain ⟨_, _, _, rfl, _⟩ := h; rfl) | (obtain ⟨_, _, _, _, rfl, _⟩ := h; rfl) | (obtain ⟨_, _, _, _, _, rfl, _⟩ := h; rfl) | (obtain ⟨_, _, _, _, _, _, rfl, _⟩ := h; rfl) | (obtain ⟨_, _, _, _, _, _, _, rfl, _⟩ := h; rfl) | (obtain ⟨_, _, _, _, _, _, _, _, rfl, _⟩ := h; rfl) | (obtain ⟨_, _, _, _, _, _, _, _, _, rfl, _⟩ := h; rfl) | (obtain ⟨_, _, _, _, _, _, _, _, _, _, rfl, _⟩ := h; rfl) | (obtain ⟨_, _, _, _, _, _, _, _, _, _, _, rfl, _⟩ := h; rfl) | (obtain ⟨_, _, _, _, _, _, _, _, _, _, _, _, rfl, _⟩ := h; rfl) | (obtain ⟨_, _, _, _, _, _, _, _, _, _, _, _, _, rfl, _⟩ := h; rfl)
  have hu := room_un hr
  obtain ⟨n, rfl, hn, kk⟩ := h
  refine ⟨_, (pss_cons (ps_set (i := 1) sc__law_pairs.nd rfl (Or.inl rfl) (pe_lst pa_nil))
      (pss_cons (ps_for PassesOwn.never rfl (pi_range1 (by rfl) T.b_range (pa_cons (pv 0) pa_nil)) (pg_name (i := 2) sc__law_pairs.nd rfl (Or.inr rfl)) (pss_one (ps_set (i := 1) sc__law_pairs.nd rfl (Or.inl rfl) (pe_op op_cat (pv 1) (pe_lc (own := [("_law_one", 3)]) rfl sc__law_pairs.nd (pi_range1 (by rfl) T.b_range (pa_cons (pv 2) pa_nil)) (blkOk_by rfl) (fun _ _ _ _ _ => pg_name (i := 3) sc__law_pairs.nd rfl (Or.inl rfl)) (fun _ _ _ _ _ => pts_nil) (fun _ _ _ _ _ => (pe_tup (pa_cons (pv 3) (pa_cons (pv 2) pa_nil)))))))))
      (pss_one (ps_ret (pv 1))))), ?_⟩
  walk_at "go"
  refine ⟨Nat.zero_le _, fun d hd => ?_⟩
  have e0 : Ex g.T H (upd H d (.lst [])) := .new hd
  walk_at "go"
  refine ⟨n, rfl, by omega, by omega, ?_⟩
  rw [Int.toNat_natCast]
  refine forR (fun i σ H1 => Ex g.T H H1 ∧ (∃ fa ys x2, New H fa ∧ H1 fa = some (.lst ys) ∧ TpAll g.K H1 ys ((pairsF i).map eP) ∧ σ = [some (.int n), some (.ref fa), x2, none]))
    ⟨e0, d, [], _, .of hd, upd_same, .nil, rfl⟩ (fun i σ H1 hi p => ?_) (fun σ H1 p => ?_)
  · obtain ⟨e, fa, ys, x2, nf, d1, d2, rfl⟩ := p
    have hyl : ys.length ≤ 49 := by
      have := pairsF_len (n := i) (by omega)
      rw [d2.len, List.length_map]
      exact this
    rw [Int.zero_add]
    walk_at "go"
    refine ⟨i, rfl, by omega, by omega, ?_⟩
    rw [Int.toNat_natCast]
    refine lcR (T := g.T) (K := g.K) (fun _ => true) (fun j => eP (j, i)) (by omega) (fun z H2 hz e1 => ?_) fun p H2 zs np e1 hp hy => ?_
    · intro Yes No hY hN
      rw [Int.zero_add]
      walk_at "go"
      exact ⟨szr rfl, fun q3 hq3 => hY rfl _ _ (.new hq3) (.tup (.of upd_same) (.cons (.int _) (.cons (.int _) .nil)))⟩
    · rw [List.filter_eq_self.mpr (fun _ _ => rfl)] at hy
      refine catL (e1.at d1) hp (by rw [hy.len, List.length_map, List.length_range]; omega) fun q hq => ?_
      walk_at "go"
      have e2 : Ex g.T H1 (upd H2 q (.lst (ys ++ zs))) := e1.trans (.new hq)
      refine ⟨e.trans e2, q, _, _, (e.trans e1).free (.of hq), upd_same, ?_, rfl⟩
      have h1 := ((e1.tps d2).app hy).up (o := .lst (ys ++ zs)) (noTup_none hq)
      have h2 : (pairsF (i + 1)).map eP = (pairsF i).map eP ++ (List.range i).map fun j => eP (j, i) := by
        unfold pairsF
        rw [List.range_succ, List.flatMap_append, List.flatMap_singleton, List.map_append, List.map_map]
        rfl
      rw [h2]
      exact h1
  · obtain ⟨e, fa, ys, x2, nf, d1, d2, rfl⟩ := p
    walk_at "go"
    exact kk fa H1 ys nf e d1 d2
end Sp
end
section
set_option Elab.async false
set_option linter.all false
set_option maxRecDepth 100000
set_option maxHeartbeats 4000000
set_option autoImplicit false
local macro_rules | `(tactic| walk_at "go") => `(tactic| repeat first
  | (with_reducible first
     | refine Sp.st_var rfl ?_ | refine Sp.st_c ?_ | refine Sp.st_op ?_ | refine Sp.st_seq ?_ | refine Sp.st_asg ?_ | refine Sp.st_name ?_
     | refine Sp.st_ret ?_ | refine Sp.st_drop ?_ | refine Sp.st_next ?_ | refine Sp.st_if ?_ | refine Sp.st_nx ?_ | refine Sp.st_rt ?_
     | refine Sp.st_cons ?_ | refine Sp.st_nil ?_ | refine Sp.st_cb ?_ | refine Sp.st_call ?_ | refine Sp.st_test ?_ | refine Sp.st_B ?_
     | refine Sp.st_not ?_ | refine Sp.st_and ?_ | refine Sp.st_or ?_ | refine Sp.st_andV ?_ | refine Sp.st_orV ?_ | refine Sp.st_notV ?_
     | refine Sp.st_tif ?_ | refine Sp.st_tup ?_ | refine Sp.st_lst ?_ | refine Sp.st_blx ?_ | refine Sp.st_I0 ?_ | refine Sp.st_U ?_
     | refine Sp.st_eqI ?_ | refine Sp.st_neI ?_ | refine Sp.st_chain ?_ | refine Sp.isiI ?_ | refine Sp.isiB ?_ | refine Sp.isiS ?_
     | refine Sp.st_T rfl ?_ | refine Sp.st_F rfl ?_ | refine Sp.st_lc ?_ | refine Sp.st_iT ?_ | refine Sp.st_iL ?_ | refine Sp.st_iR1 ?_
     | refine Sp.st_iR2 ?_ | refine Sp.st_iET ?_ | refine Sp.st_iZA ?_ | refine Sp.st_iZLT ?_ | refine Sp.st_for ?_ | refine Sp.st_fld ?_
     | refine Sp.st_sfld ?_ | refine Sp.st_prop ?_ | refine Sp.st_meth ?_ | refine Sp.st_make ?_ | refine Sp.st_isN ?_ | refine Sp.st_yes ?_
     | refine Sp.isNI ?_ | refine Sp.notNI ?_ | refine Sp.int1I ?_ | refine Sp.int1B ?_ | refine Sp.min2I ?_ | refine Sp.max2I ?_
     | refine Sp.st_dputN ?_ | refine Sp.st_dgetN ?_ | refine Sp.st_revL ?_ | refine Sp.st_din ?_ | refine Sp.st_dnin ?_ | refine Sp.st_dget ?_ | refine Sp.st_dput ?_ | refine Sp.st_dc ?_ | refine Sp.st_dcN ?_
     | refine Sp.st_sortLam ?_ | refine Sp.st_lc2 ?_ | refine Sp.st_un ?_ | refine Sp.st_lenSet ?_ | refine Sp.st_bm ?_ | refine Sp.st_lenO ?_ | refine Sp.st_sl ?_ | refine Sp.st_part ?_ | refine Sp.st_nopart ?_ | refine Sp.st_intx ?_)
  | ((with_reducible refine Sp.st_wp ?_ ?_); (focus rfl)))
namespace Sp
open PySem PySem.Spec L2

theorem keysOf_filter (n : Nat) (L : List (Nat × Nat)) (t w : Nat) : keysOf n L t w = ((List.range n).filter fun i => !decide (i = t)).flatMap (keysAt L w) := by
  unfold keysOf
  generalize List.range n = l
  induction l with
  | nil => rfl
  | cons x l ih =>
    rw [List.flatMap_cons, ih]
    by_cases h : x = t
    · rw [if_pos h, List.filter_cons_of_neg (by simp [h])]
      rfl
    · rw [if_neg h, List.filter_cons_of_pos (by simp [h]), List.flatMap_cons]
theorem keysL_len {L : List (Nat × Nat)} {w : Nat} (hL : L.length ≤ 8) (hw : w ≤ 2) (l : List Nat) : (l.flatMap (keysAt L w)).length ≤ l.length * 17 := flat_len fun x _ => keysAt_len hL hw
-- _law_keys: slots _law_nodes 0, _law_links 1, _law_target 2, _law_marks 3, _law_found 4, _law_node 5, _law_came 6, _law_mark 7; cells ['_law_came', '_law_node', '_law_target']
abbrev s__law_keys : Stmt := top 67
abbrev N__law_keys : List Str := ["_law_nodes", "_law_links", "_law_target", "_law_marks", "_law_found", "_law_node", "_law_came", "_law_mark"]
theorem sc__law_keys : FnScope N__law_keys ["_law_nodes", "_law_links", "_law_target", "_law_marks"] (defScope s__law_keys) := ⟨rfl, rfl, rfl, by decide +kernel, rfl, by decide +kernel, by decide +kernel⟩
def sp__law_keys (g : Gx) : Sp := fun vs H Q _ => ∃ a xs, ∃ n t w : Nat, ∃ L : List (Nat × Nat), vs = [.int n, .ref a, .int t, .int w] ∧ SqL g.K H a xs ∧ TpAll g.K H xs (L.map eP) ∧ L.length ≤ 8 ∧ n ≤ 7 ∧ w ≤ 2 ∧ ∀ p H' ys, New H p → Ex g.T H H' → H' p = some (.lst ys) → TpAll g.K H' ys ((keysOf n L t w).map eK) → Q (.ref p) H'
theorem ok__law_keys (g : Gx) (T : Blt g.mg) (Z : Fct g) (C__law_at : Cal g.P g.w g.K g.mg g.base 1 "_law_at" ["_law_links", "_law_node"] (sp__law_at g))  {f : Addr} {fd : FuncData} (F : Fun g.K "_law_keys" "_law_keys" s__law_keys f fd) : FnOk g.P g.w g.K g.mg g.base CX0 2 f fd ["_law_nodes", "_law_links", "_law_target", "_law_marks"] (sp__law_keys g) := by
  refine F.ok sc__law_keys (fun vs H Q E h => ?_) (fun cdv A outer s H vs Q E hr h => ?_)
  · first | (obtain ⟨rfl, _⟩ := h; rfl) | (obtain ⟨_, rfl, _⟩ := h; rfl) | (obtain ⟨_, _, rfl, _⟩ := h; rfl) | (obtain ⟨_, _, _, rfl, _⟩ := h; rfl) | (obtain ⟨_, _, _, _, rfl, _⟩ := h; rfl) | (obtain ⟨_, _, _, _, _, rfl, _⟩ := h; rfl) | (obtain ⟨_, _, _, _, _, _, rfl, _⟩ := h; rfl) | (obtain ⟨_, _, _, _, _, _, _, rfl, _⟩ := h; rfl) | (obtain ⟨_, _, _, _, _, _, _, _, rfl, _⟩ := h; rfl) | (obtain ⟨_, _, _, _, _, _, _, _, _, rfl, _⟩ := h; rfl) | (obtain ⟨_, _, _, _, _, _, _, _, _, _, rfl, _⟩ := h; rfl) | (obtain ⟨_, _, _, _, _, _, _, _, _, _, _, rfl, _⟩ := h; rfl) | (obtain ⟨_, _, _, _, _, _, _, _, _, _, _, _, rfl, _⟩ := h; rfl) | (obtain ⟨_, _, _, _, _, _, _, _, _, _, _, _, _, rfl, _⟩ := h; rfl)
  have hu := room_un hr
  obtain ⟨a, xs, n, t, w, L, rfl, hs, hx, hL, hn, hw, kk⟩ := h
  refine ⟨_, (pss_cons (ps_set (i := 4) sc__law_keys.nd rfl (Or.inl rfl) (pe_lst pa_nil))
      (pss_cons (ps_for PassesOwn.never rfl (iLW g (pe_lc (own := [("_law_node", 5)]) rfl sc__law_keys.nd (pi_range1 (by rfl) T.b_range (pa_cons (pv 0) pa_nil)) (blkOk_by rfl) (fun _ _ _ _ _ => pg_name (i := 5) sc__law_keys.nd rfl (Or.inl rfl)) (fun _ _ _ _ _ => pts_one (pt_cmpR op_ne (pv 5) (pv 2) (nomark _))) (fun _ _ _ _ _ => (pv 5)))) (pg_name (i := 5) sc__law_keys.nd rfl (Or.inr rfl)) (pss_cons (ps_expr (bmW g PySem.F.plainAttrs_list PySem.F.slot_list_append PySem.F.type_list_append mt_append (pv 4) (pa_cons (pe_tup (pa_cons (pv 5) (pa_cons pe_non (pa_cons pe_int pa_nil)))) pa_nil)))
      (pss_one (ps_for PassesOwn.never rfl (iLW g (pe_cF C__law_at (hr.mono (by decide)) rfl (pa_cons (pv 1) (pa_cons (pv 5) pa_nil)))) (pg_name (i := 6) sc__law_keys.nd rfl (Or.inr rfl)) (pss_one (ps_set (i := 4) sc__law_keys.nd rfl (Or.inl rfl) (pe_op op_cat (pv 4) (pe_lc (own := [("_law_mark", 7)]) rfl sc__law_keys.nd (pi_range1 (by rfl) T.b_range (pa_cons (pv 3) pa_nil)) (blkOk_by rfl) (fun _ _ _ _ _ => pg_name (i := 7) sc__law_keys.nd rfl (Or.inl rfl)) (fun _ _ _ _ _ => pts_nil) (fun _ _ _ _ _ => (pe_tup (pa_cons (pv 5) (pa_cons (pv 6) (pa_cons (pv 7) pa_nil)))))))))))))
      (pss_one (ps_ret (pv 4))))), ?_⟩
  walk_at "go"
  refine ⟨Nat.zero_le _, fun d hd => ?_⟩
  have e0 : Ex g.T H (upd H d (.lst [])) := .new hd
  walk_at "go"
  refine ⟨n, rfl, by omega, by omega, ?_⟩
  rw [Int.toNat_natCast]
  refine lcR (T := g.T) (K := g.K) (fun i => !decide (i = t)) eN (by omega) (fun z H2 hz e1 => ?_) fun b H2 bs np e1 hb hbs => ?_
  · intro Yes No hY hN
    rw [Int.zero_add]
    walk_at "go"
    by_cases hc : z = t
    · rw [decide_eq_true (by omega : (z : Int) = t)]
      walk_at "go"
      exact hN (by simp [hc]) _ (.refl _)
    · rw [decide_eq_false (by omega : ¬ (z : Int) = t)]
      walk_at "go"
      exact hY (by simp [hc]) _ _ (.refl _) (.int _)
  · generalize hns : ((List.range n).filter fun i => !decide (i = t)) = ns at hbs
    have hnl : ns.length ≤ 7 := by
      rw [← hns]
      have := List.length_filter_le (fun i => !decide (i = t)) (List.range n)
      rw [List.length_range] at this
      omega
    walk_at "go"
    refine ⟨b, rfl, ⟨bs, .of hb⟩, ?_⟩
    have hbi := tpInts (l := ns.map fun i : Nat => (i : Int)) (by rw [List.map_map]; exact hbs)
    have hbl : bs.length = ns.length := by rw [hbs.len, List.length_map]
    have e01 := e0.trans e1
    refine forL (K := g.K) (xs := bs) (fun i σ H1 => Ex g.T H H1 ∧ H1 b = some (.lst bs) ∧ (∃ fa ys x5 x6 x7, New H fa ∧ b ≠ fa ∧ H1 fa = some (.lst ys) ∧ TpAll g.K H1 ys (((ns.take i).flatMap (keysAt L w)).map eK) ∧ σ = [some (.int n), some (.ref a), some (.int t), some (.int w), some (.ref fa), x5, x6, x7]))
      ⟨e01, hb, d, [], _, _, _, .of hd, fun z => ?_, e1.at upd_same, by rw [List.take_zero]; exact .nil, rfl⟩ (fun i σ H1 p => .of p.2.1) (fun i x σ H1 hi p => ?_) (fun σ H1 p => ?_)
    · obtain ⟨ps, e⟩ := np _ (by rw [z]; exact upd_same)
      cases e
    · obtain ⟨e, pb, fa, ys, x5, x6, x7, nf, nb, d1, d2, rfl⟩ := p
      have hil : i < ns.length := by rw [← hbl]; exact (List.getElem?_eq_some_iff.mp hi).1
      have hx0 : x = .int (ns[i] : Nat) := by
        rw [hbi, List.getElem?_map, List.getElem?_map, List.getElem?_eq_getElem hil] at hi
        exact (Option.some.inj hi).symm
      subst hx0
      generalize hnd : ns[i] = nd
      have htk : (ns.take (i + 1)).flatMap (keysAt L w) = (ns.take i).flatMap (keysAt L w) ++ keysAt L w nd := by
        rw [List.take_succ, List.getElem?_eq_getElem hil, hnd, List.flatMap_append]
        congr 1
        exact List.flatMap_singleton _ _
      have hyl : ys.length ≤ 119 := by
        have := keysL_len hL hw (ns.take i)
        rw [d2.len, List.length_map]
        have h2 := List.length_take_le i ns
        omega
      walk_at "go"
      refine ⟨tyL (.of d1), ?_⟩
      walk_at "go"
      refine ⟨szr rfl, fun q hq => ?_⟩
      walk_at "go"
      have e2 : Ex g.T H1 (upd H1 q (.tup [.int nd, .non, .int 0])) := .new hq
      refine appendL (e2.at d1) (by omega) ?_
      have nt : NoTup (upd H1 q (.tup [.int nd, .non, .int 0])) fa := noTup_of (e2.at d1)
      have e3 : Ex g.T H (upd (upd H1 q (.tup [.int nd, .non, .int 0])) fa (.lst (ys ++ [.ref q]))) := (e.trans e2).mut nf (e2.at d1) trivial
      have d3 : TpAll g.K (upd (upd H1 q (.tup [.int nd, .non, .int 0])) fa (.lst (ys ++ [.ref q]))) (ys ++ [.ref q]) (((ns.take i).flatMap (keysAt L w) ++ [(nd, none, 0)]).map eK) := by
        rw [List.map_append]
        refine ((e2.tps d2).up nt).app (.one (Tp.up ?_ nt))
        exact .tup (.of upd_same) (kxs_tp (ko (nd, none, 0)))
      have d4 : (upd (upd H1 q (.tup [.int nd, .non, .int 0])) fa (.lst (ys ++ [.ref q]))) fa = some (.lst (ys ++ [.ref q])) := upd_same
      have pb2 : (upd (upd H1 q (.tup [.int nd, .non, .int 0])) fa (.lst (ys ++ [.ref q]))) b = some (.lst bs) := by rw [upd_ne nb]; exact e2.at pb
      generalize upd (upd H1 q (.tup [.int nd, .non, .int 0])) fa (.lst (ys ++ [.ref q])) = He at e3 d3 d4 pb2
      walk_at "go"
      refine ⟨a, xs, nd, L, rfl, e3.sl hs, e3.tps hx, hL, fun c H4 cs nc e4 hc hcs => ?_⟩
      have hci := tpInts (l := (netAt L nd).map fun i : Nat => (i : Int)) (by rw [List.map_map]; exact hcs)
      have hcl : cs.length = (netAt L nd).length := by rw [hcs.len, List.length_map]
      have hnl2 := netAt_len (L := L) (node := nd)
      walk_at "go"
      refine ⟨c, rfl, ⟨cs, .of hc⟩, ?_⟩
      refine forL (K := g.K) (xs := cs) (fun j σ H5 => Ex g.T H H5 ∧ H5 b = some (.lst bs) ∧ H5 c = some (.lst cs) ∧ (∃ fa ys x6 x7, New H fa ∧ b ≠ fa ∧ H5 fa = some (.lst ys) ∧ TpAll g.K H5 ys (((ns.take i).flatMap (keysAt L w) ++ (nd, none, 0) :: ((netAt L nd).take j).flatMap fun c => (List.range w).map fun m => (nd, some c, m)).map eK) ∧ σ = [some (.int n), some (.ref a), some (.int t), some (.int w), some (.ref fa), some (.int nd), x6, x7]))
        ⟨e3.trans e4, e4.at pb2, hc, fa, _, _, _, nf, nb, e4.at d4, e4.tps d3, rfl⟩ (fun i σ H1 p => .of p.2.2.1) (fun j x σ H5 hj p => ?_) (fun σ H5 p => ?_)
      · obtain ⟨e5, pb5, pc5, fa, ys, x6, x7, nf, nb, d5, d6, rfl⟩ := p
        have hjl : j < (netAt L nd).length := by rw [← hcl]; exact (List.getElem?_eq_some_iff.mp hj).1
        have hx0 : x = .int ((netAt L nd)[j] : Nat) := by
          rw [hci, List.getElem?_map, List.getElem?_map, List.getElem?_eq_getElem hjl] at hj
          exact (Option.some.inj hj).symm
        subst hx0
        generalize hcm : (netAt L nd)[j] = cm
        have hyl5 : ys.length ≤ 200 := by
          have h1 := keysL_len hL hw (ns.take i)
          have h2 := List.length_take_le i ns
          have h3 := flat_len (l := (netAt L nd).take j) (f := fun c => (List.range w).map fun m => ((nd, some c, m) : Ky)) (k := 2) fun x _ => by rw [List.length_map, List.length_range]; exact hw
          have h4 := List.length_take_le j (netAt L nd)
          rw [d6.len, List.length_map, List.length_append, List.length_cons]
          omega
        walk_at "go"
        refine ⟨w, rfl, by omega, by omega, ?_⟩
        rw [Int.toNat_natCast]
        refine lcR (T := g.T) (K := g.K) (fun _ => true) (fun m => eK (nd, some cm, m)) (by omega) (fun z H6 hz e6 => ?_) fun p H6 zs np e6 hp hy => ?_
        · intro Yes No hY hN
          rw [Int.zero_add]
          walk_at "go"
          exact ⟨szr rfl, fun q3 hq3 => hY rfl _ _ (.new hq3) (.tup (.of upd_same) (kxs_tp (ko (nd, some cm, z))))⟩
        · rw [List.filter_eq_self.mpr (fun _ _ => rfl)] at hy
          refine catL (e6.at d5) hp (by rw [hy.len, List.length_map, List.length_range]; omega) fun q hq => ?_
          walk_at "go"
          have e7 : Ex g.T H5 (upd H6 q (.lst (ys ++ zs))) := e6.trans (.new hq)
          have n7 : b ≠ q := fun z => by rw [← z, e6.at pb5] at hq; cases hq
          refine ⟨e5.trans e7, e7.at pb5, e7.at pc5, q, _, _, _, (e5.trans e6).free (.of hq), n7, upd_same, ?_, rfl⟩
          have h1 := ((e6.tps d6).app hy).up (o := .lst (ys ++ zs)) (noTup_none hq)
          have h2 : ((ns.take i).flatMap (keysAt L w) ++ (nd, none, 0) :: ((netAt L nd).take (j + 1)).flatMap fun c => (List.range w).map fun m => ((nd, some c, m) : Ky)).map eK = ((ns.take i).flatMap (keysAt L w) ++ (nd, none, 0) :: ((netAt L nd).take j).flatMap fun c => (List.range w).map fun m => ((nd, some c, m) : Ky)).map eK ++ (List.range w).map fun m => eK (nd, some cm, m) := by
            rw [List.take_succ, List.getElem?_eq_getElem hjl, hcm, List.flatMap_append, Option.toList_some, List.flatMap_singleton, ← List.cons_append, ← List.append_assoc, List.map_append, List.map_map]
            rfl
          rw [h2]
          exact h1
      · obtain ⟨e5, pb5, pc5, fa, ys, x6, x7, nf, nb, d5, d6, rfl⟩ := p
        walk_at "go"
        rw [hcl, List.take_length] at d6
        refine ⟨e5, pb5, fa, ys, _, _, _, nf, nb, d5, ?_, rfl⟩
        rw [htk]
        exact d6
    · obtain ⟨e, pb, fa, ys, x5, x6, x7, nf, nb, d1, d2, rfl⟩ := p
      walk_at "go"
      rw [hbl, List.take_length, ← hns, ← keysOf_filter] at d2
      exact kk fa H1 ys nf e d1 d2
end Sp
end
section
set_option Elab.async false
set_option linter.all false
set_option maxRecDepth 100000
set_option maxHeartbeats 4000000
set_option autoImplicit false
local macro_rules | `(tactic| walk_at "go") => `(tactic| repeat first
  | (with_reducible first
     | refine Sp.st_var rfl ?_ | refine Sp.st_c ?_ | refine Sp.st_op ?_ | refine Sp.st_seq ?_ | refine Sp.st_asg ?_ | refine Sp.st_name ?_
     | refine Sp.st_ret ?_ | refine Sp.st_drop ?_ | refine Sp.st_next ?_ | refine Sp.st_if ?_ | refine Sp.st_nx ?_ | refine Sp.st_rt ?_
     | refine Sp.st_cons ?_ | refine Sp.st_nil ?_ | refine Sp.st_cb ?_ | refine Sp.st_call ?_ | refine Sp.st_test ?_ | refine Sp.st_B ?_
     | refine Sp.st_not ?_ | refine Sp.st_and ?_ | refine Sp.st_or ?_ | refine Sp.st_andV ?_ | refine Sp.st_orV ?_ | refine Sp.st_notV ?_
     | refine Sp.st_tif ?_ | refine Sp.st_tup ?_ | refine Sp.st_lst ?_ | refine Sp.st_blx ?_ | refine Sp.st_I0 ?_ | refine Sp.st_U ?_
     | refine Sp.st_eqI ?_ | refine Sp.st_neI ?_ | refine Sp.st_chain ?_ | refine Sp.isiI ?_ | refine Sp.isiB ?_ | refine Sp.isiS ?_
     | refine Sp.st_T rfl ?_ | refine Sp.st_F rfl ?_ | refine Sp.st_lc ?_ | refine Sp.st_iT ?_ | refine Sp.st_iL ?_ | refine Sp.st_iR1 ?_
     | refine Sp.st_iR2 ?_ | refine Sp.st_iET ?_ | refine Sp.st_iZA ?_ | refine Sp.st_iZLT ?_ | refine Sp.st_for ?_ | refine Sp.st_fld ?_
     | refine Sp.st_sfld ?_ | refine Sp.st_prop ?_ | refine Sp.st_meth ?_ | refine Sp.st_make ?_ | refine Sp.st_isN ?_ | refine Sp.st_yes ?_
     | refine Sp.isNI ?_ | refine Sp.notNI ?_ | refine Sp.int1I ?_ | refine Sp.int1B ?_ | refine Sp.min2I ?_ | refine Sp.max2I ?_
     | refine Sp.st_dputN ?_ | refine Sp.st_dgetN ?_ | refine Sp.st_revL ?_ | refine Sp.st_din ?_ | refine Sp.st_dnin ?_ | refine Sp.st_dget ?_ | refine Sp.st_dput ?_ | refine Sp.st_dc ?_ | refine Sp.st_dcN ?_
     | refine Sp.st_sortLam ?_ | refine Sp.st_lc2 ?_ | refine Sp.st_un ?_ | refine Sp.st_lenSet ?_ | refine Sp.st_bm ?_ | refine Sp.st_lenO ?_ | refine Sp.st_sl ?_ | refine Sp.st_part ?_ | refine Sp.st_nopart ?_ | refine Sp.st_intx ?_)
  | ((with_reducible refine Sp.st_wp ?_ ?_); (focus rfl)))
namespace Sp
open PySem PySem.Spec L2

theorem minN (i j : Nat) : ∃ m : Nat, (if (j : Int) < i then (j : Int) else i) = m := by
  by_cases h : (j : Int) < i
  · exact ⟨j, if_pos h⟩
  · exact ⟨i, if_neg h⟩
-- _law_far: slots _law_nodes 0, _law_links 1, _law_target 2, _law_found 3, _law_turn 4, _law_one 5, _law_other 6, _law_least 7, _law_node 8; cells ['_law_nodes', '_law_target']
abbrev s__law_far : Stmt := top 65
abbrev N__law_far : List Str := ["_law_nodes", "_law_links", "_law_target", "_law_found", "_law_turn", "_law_one", "_law_other", "_law_least", "_law_node"]
theorem sc__law_far : FnScope N__law_far ["_law_nodes", "_law_links", "_law_target"] (defScope s__law_far) := ⟨rfl, rfl, rfl, by decide +kernel, rfl, by decide +kernel, by decide +kernel⟩
def sp__law_far (g : Gx) : Sp := fun vs H Q _ => ∃ a xs, ∃ n t : Nat, ∃ L : List (Nat × Nat), vs = [.int n, .ref a, .int t] ∧ SqL g.K H a xs ∧ TpAll g.K H xs (L.map eP) ∧ NetOk n L ∧ ∀ p H' (ns : List Nat), New H p → Ex g.T H H' → ns.length = n → H' p = some (.lst (ns.map fun n : Nat => V.int n)) → Q (.ref p) H'
theorem ok__law_far (g : Gx) (T : Blt g.mg) (Z : Fct g)   {f : Addr} {fd : FuncData} (F : Fun g.K "_law_far" "_law_far" s__law_far f fd) : FnOk g.P g.w g.K g.mg g.base CX0 1 f fd ["_law_nodes", "_law_links", "_law_target"] (sp__law_far g) := by
  refine F.ok sc__law_far (fun vs H Q E h => ?_) (fun cdv A outer s H vs Q E hr h => ?_)
  · first | (obtain ⟨rfl, _⟩ := h; rfl) | (obtain ⟨_, rfl, _⟩ := h; rfl) | (obtain ⟨_, _, rfl, _⟩ := h; rfl) | (obtain ⟨_, _, _, rfl, _⟩ := h; rfl) | (obtain ⟨_, _, _, _, rfl, _⟩ := h; rfl) | (obtain ⟨_, _, _, _, _, rfl, _⟩ := h; rfl) | (obtain ⟨_, _, _, _, _, _, rfl, _⟩ := h; rfl) | (obtain ⟨_, _, _, _, _, _, _, rfl, _⟩ := h; rfl) | (obtain ⟨_, _, _, _, _, _, _, _, rfl, _⟩ := h; rfl) | (obtain ⟨_, _, _, _, _, _, _, _, _, rfl, _⟩ := h; rfl) | (obtain ⟨_, _, _, _, _, _, _, _, _, _, rfl, _⟩ := h; rfl) | (obtain ⟨_, _, _, _, _, _, _, _, _, _, _, rfl, _⟩ := h; rfl) | (obtain ⟨_, _, _, _, _, _, _, _, _, _, _, _, rfl, _⟩ := h; rfl) | (obtain ⟨_, _, _, _, _, _, _, _, _, _, _, _, _, rfl, _⟩ := h; rfl)
  have hu := room_un hr
  obtain ⟨a, xs, n, t, L, rfl, hs, hx, nok, kk⟩ := h
  refine ⟨_, (pss_cons (ps_setLc (i := 3) (own := [("_law_node", 8)]) rfl sc__law_far.nd rfl rfl (sw_true rfl rfl rfl (by decide +kernel)) (pi_range1 (by rfl) T.b_range (pa_cons (pv 0) pa_nil)) (blkOk_by rfl) (fun _ _ _ _ _ => pg_name (i := 8) sc__law_far.nd rfl (Or.inl rfl)) (fun _ _ _ _ _ => pts_nil) (fun _ _ _ _ _ => (pe_ix (ixW g) (pe_lst (pa_cons (pv 0) (pa_cons pe_int pa_nil))) (pe_callTy int1W (by rfl) T.b_int boot_t_int (pa_cons (pe_cmpR op_eq (pv 8) (pv 2) (nomark _)) pa_nil)) (fun _ _ => rfl))))
      (pss_cons (ps_for PassesOwn.never rfl (pi_range1 (by rfl) T.b_range (pa_cons (pv 0) pa_nil)) (pg_name (i := 4) sc__law_far.nd rfl (Or.inl rfl)) (pss_one (ps_for PassesOwn.never rfl (iLW g (pv 1)) (gTW g (n := 2) rfl (pgs_cons (pg_name (i := 5) sc__law_far.nd rfl (Or.inl rfl)) (pgs_cons (pg_name (i := 6) sc__law_far.nd rfl (Or.inl rfl)) pgs_nil))) (pss_cons (ps_set (i := 7) sc__law_far.nd rfl (Or.inl rfl) (pe_op op_add pe_int (pe_callB min2W (by rfl) T.b_min boot_f_min (pa_cons (pe_ix (ixW g) (pv 3) (pv 5) (fun _ _ => rfl)) (pa_cons (pe_ix (ixW g) (pv 3) (pv 6) (fun _ _ => rfl)) pa_nil)))))
      (pss_one (ps_asg (pe_tup (pa_cons (pe_callB min2W (by rfl) T.b_min boot_f_min (pa_cons (pe_ix (ixW g) (pv 3) (pv 5) (fun _ _ => rfl)) (pa_cons (pv 7) pa_nil))) (pa_cons (pe_callB min2W (by rfl) T.b_min boot_f_min (pa_cons (pe_ix (ixW g) (pv 3) (pv 6) (fun _ _ => rfl)) (pa_cons (pv 7) pa_nil))) pa_nil))) (gTW g (n := 2) rfl (pgs_cons (pg_sub (pv 3) (pv 5) set_list) (pgs_cons (pg_sub (pv 3) (pv 6) set_list) pgs_nil)))))))))
      (pss_one (ps_ret (pv 3))))), ?_⟩
  have hn := nok.hi
  walk_at "go"
  refine ⟨n, rfl, by omega, by omega, ?_⟩
  rw [Int.toNat_natCast]
  refine lcR (T := g.T) (K := g.K) (fun _ => true) (fun i => eN (if i = t then 0 else n)) (by omega) (fun z H2 hz e1 => ?_) fun b H2 bs np e1 hb hbs => ?_
  · intro Yes No hY hN
    rw [Int.zero_add]
    walk_at "go"
    refine ⟨szr rfl, fun q hq => ?_⟩
    walk_at "go"
    refine st_ixL (v := .int (if z = t then 0 else n : Nat)) (.of upd_same) ?_ ?_
    · by_cases hc : z = t
      · rw [decide_eq_true (by omega : (z : Int) = t), if_pos hc]; rfl
      · rw [decide_eq_false (by omega : ¬ (z : Int) = t), if_neg hc]; rfl
    · exact hY rfl _ _ (.new hq) (.int _)
  · rw [List.filter_eq_self.mpr (fun _ _ => rfl)] at hbs
    obtain ⟨ns0, hns0, hb0⟩ : ∃ ns : List Nat, ns.length = n ∧ H2 b = some (.lst (ns.map fun n : Nat => V.int n)) := by
      refine ⟨(List.range n).map fun i => if i = t then 0 else n, by rw [List.length_map, List.length_range], ?_⟩
      have := tpInts (l := (List.range n).map fun i => ((if i = t then 0 else n : Nat) : Int)) (by rw [List.map_map]; exact hbs)
      rw [hb, this, List.map_map, List.map_map]
      rfl
    have nb : New H b := np
    walk_at "go"
    refine ⟨n, rfl, by omega, by omega, ?_⟩
    rw [Int.toNat_natCast]
    refine forR (fun i σ H1 => Ex g.T H H1 ∧ (∃ ns : List Nat, ns.length = n ∧ H1 b = some (.lst (ns.map fun n : Nat => V.int n))) ∧ ∃ x4 x5 x6 x7, σ = [some (.int n), some (.ref a), some (.int t), some (.ref b), x4, x5, x6, x7, none])
      ⟨e1, ⟨ns0, hns0, hb0⟩, _, _, _, _, rfl⟩ (fun i σ H1 hi p => ?_) (fun σ H1 p => ?_)
    · obtain ⟨e, hl, x4, x5, x6, x7, rfl⟩ := p
      rw [Int.zero_add]
      walk_at "go"
      refine ⟨a, rfl, ⟨xs, e.sl hs⟩, ?_⟩
      refine forL (K := g.K) (xs := xs) (fun j σ H1 => Ex g.T H H1 ∧ (∃ ns : List Nat, ns.length = n ∧ H1 b = some (.lst (ns.map fun n : Nat => V.int n))) ∧ ∃ x5 x6 x7, σ = [some (.int n), some (.ref a), some (.int t), some (.ref b), some (.int i), x5, x6, x7, none])
        ⟨e, hl, _, _, _, rfl⟩ (fun i σ H1 p => p.1.sl hs) (fun j x σ H5 hj p => ?_) (fun σ H5 p => ?_)
      · obtain ⟨e5, ⟨ns, hnl, hb5⟩, x5, x6, x7, rfl⟩ := p
        obtain ⟨z, hz, hxz⟩ := hx.src hj
        have hzl := nok.link z (List.mem_of_getElem? hz)
        obtain ⟨q, qs, rfl, hq, hqs⟩ := tp_tup (e5.tp hxz)
        cases hqs with
        | cons q1 q2 =>
          cases q2 with
          | cons q2 q3 =>
            cases q3
            cases tp_int q1
            cases tp_int q2
            have g1 : z.1 < ns.length := by omega
            have g2 : z.2 < ns.length := by omega
            have f1 : ∀ {ms : List Nat} {i : Nat} (h : i < ms.length), atI (ms.map fun n : Nat => V.int n) (i : Int) = some (.int (ms[i] : Nat)) := fun h => atI_nat (by rw [List.getElem?_map, List.getElem?_eq_getElem h]; rfl)
            refine st_g2 hq ?_
            walk_at "go"
            refine st_ixL (.of hb5) (f1 g1) ?_
            walk_at "go"
            refine st_ixL (.of hb5) (f1 g2) ?_
            walk_at "go"
            obtain ⟨m0, hm0⟩ := minN ns[z.1] ns[z.2]
            rw [hm0]
            have hm1 : (1 + (m0 : Int)) = ((1 + m0 : Nat) : Int) := by omega
            rw [hm1]
            refine st_ixL (.of hb5) (f1 g1) ?_
            walk_at "go"
            obtain ⟨m1, hm1⟩ := minN ns[z.1] (1 + m0)
            rw [hm1]
            refine st_ixL (.of hb5) (f1 g2) ?_
            walk_at "go"
            obtain ⟨m2, hm2⟩ := minN ns[z.2] (1 + m0)
            rw [hm2]
            refine ⟨szr rfl, fun c hc => ?_⟩
            have e6 : Ex g.T H5 (upd H5 c (.tup [.int m1, .int m2])) := .new hc
            have hb6 := e6.at hb5
            have hc6 : (upd H5 c (.tup [.int m1, .int m2])) c = some (.tup [.int m1, .int m2]) := upd_same
            generalize upd H5 c (.tup [.int m1, .int m2]) = H6 at e6 hb6 hc6
            refine ⟨c, _, rfl, .of hc6, rfl, _, _, rfl, ?_⟩
            refine st_gsub ?_
            walk_at "go"
            refine ⟨b, _, z.1, z.1, rfl, rfl, hb6, ixN_nat (by rw [List.length_map]; exact g1), ?_⟩
            refine ⟨_, _, rfl, ?_⟩
            refine st_gsub ?_
            walk_at "go"
            refine ⟨b, _, z.2, z.2, rfl, rfl, upd_same, ixN_nat (by rw [List.length_set, List.length_map]; exact g2), ?_⟩
            refine ⟨rfl, ?_⟩
            walk_at "go"
            have e56 := e5.trans e6
            refine ⟨(e56.mut nb hb6 trivial).mut nb upd_same trivial, ⟨(ns.set z.1 m1).set z.2 m2, by rw [List.length_set, List.length_set]; exact hnl, by rw [upd_same, List.map_set, List.map_set]⟩, _, _, _, rfl⟩
      · obtain ⟨e5, hl, x5, x6, x7, rfl⟩ := p
        walk_at "go"
        exact ⟨e5, hl, _, _, _, _, rfl⟩
    · obtain ⟨e, ⟨ns, hnl, hb5⟩, x4, x5, x6, x7, rfl⟩ := p
      walk_at "go"
      exact kk b H1 ns nb e hnl hb5
end Sp
end
section
set_option Elab.async false
set_option linter.all false
set_option maxRecDepth 100000
set_option maxHeartbeats 4000000
set_option autoImplicit false
local macro_rules | `(tactic| walk_at "go") => `(tactic| repeat first
  | (with_reducible first
     | refine Sp.st_var rfl ?_ | refine Sp.st_c ?_ | refine Sp.st_op ?_ | refine Sp.st_seq ?_ | refine Sp.st_asg ?_ | refine Sp.st_name ?_
     | refine Sp.st_ret ?_ | refine Sp.st_drop ?_ | refine Sp.st_next ?_ | refine Sp.st_if ?_ | refine Sp.st_nx ?_ | refine Sp.st_rt ?_
     | refine Sp.st_cons ?_ | refine Sp.st_nil ?_ | refine Sp.st_cb ?_ | refine Sp.st_call ?_ | refine Sp.st_test ?_ | refine Sp.st_B ?_
     | refine Sp.st_not ?_ | refine Sp.st_and ?_ | refine Sp.st_or ?_ | refine Sp.st_andV ?_ | refine Sp.st_orV ?_ | refine Sp.st_notV ?_
     | refine Sp.st_tif ?_ | refine Sp.st_tup ?_ | refine Sp.st_lst ?_ | refine Sp.st_blx ?_ | refine Sp.st_I0 ?_ | refine Sp.st_U ?_
     | refine Sp.st_eqI ?_ | refine Sp.st_neI ?_ | refine Sp.st_chain ?_ | refine Sp.isiI ?_ | refine Sp.isiB ?_ | refine Sp.isiS ?_
     | refine Sp.st_T rfl ?_ | refine Sp.st_F rfl ?_ | refine Sp.st_lc ?_ | refine Sp.st_iT ?_ | refine Sp.st_iL ?_ | refine Sp.st_iR1 ?_
     | refine Sp.st_iR2 ?_ | refine Sp.st_iET ?_ | refine Sp.st_iZA ?_ | refine Sp.st_iZLT ?_ | refine Sp.st_for ?_ | refine Sp.st_fld ?_
     | refine Sp.st_sfld ?_ | refine Sp.st_prop ?_ | refine Sp.st_meth ?_ | refine Sp.st_make ?_ | refine Sp.st_isN ?_ | refine Sp.st_yes ?_
     | refine Sp.isNI ?_ | refine Sp.notNI ?_ | refine Sp.int1I ?_ | refine Sp.int1B ?_ | refine Sp.min2I ?_ | refine Sp.max2I ?_
     | refine Sp.st_dputN ?_ | refine Sp.st_dgetN ?_ | refine Sp.st_revL ?_ | refine Sp.st_din ?_ | refine Sp.st_dnin ?_ | refine Sp.st_dget ?_ | refine Sp.st_dput ?_ | refine Sp.st_dc ?_ | refine Sp.st_dcN ?_
     | refine Sp.st_sortLam ?_ | refine Sp.st_lc2 ?_ | refine Sp.st_un ?_ | refine Sp.st_lenSet ?_ | refine Sp.st_bm ?_ | refine Sp.st_lenO ?_ | refine Sp.st_sl ?_ | refine Sp.st_part ?_ | refine Sp.st_nopart ?_ | refine Sp.st_intx ?_)
  | ((with_reducible refine Sp.st_wp ?_ ?_); (focus rfl)))
namespace Sp
open PySem PySem.Spec L2

theorem sumTW {X : Cx} (g : Gx) (hc : X.calm = true) (h : X.K = g.K) : CallR X (.builtin "sum") (rSumT g.K) := h ▸ call_sumT hc
theorem cut_cont {R : Addr → Hp → Prop} {G : Prop} (P : Addr → Hp → Prop) (a : (∀ p H', P p H' → R p H') → G) (b : ∀ p H', P p H' → R p H') : G := a b
def ownF (L : List (Nat × Nat)) (nd : Nat) (came : Option Nat) : List Nat := (netAt L nd).filter fun z => !decide (some z = came)
def cameF (L : List (Nat × Nat)) (nd : Nat) (came : Option Nat) : List Nat := (netAt L nd).filter fun z => decide (some z = came)
theorem kx_eq (z : Nat) (came : Option Nat) : decide (V.int z = kx (came.map fun n : Nat => (n : Int))) = decide (some z = came) := by
  cases came with
  | none => exact (decide_eq_false (fun e => by cases e)).trans (decide_eq_false (fun e => by cases e)).symm
  | some c =>
    show decide (V.int z = V.int c) = _
    rw [dec_i]
    by_cases h : z = c
    · subst h
      rw [decide_eq_true rfl, decide_eq_true rfl]
    · rw [decide_eq_false (by omega), decide_eq_false (fun e => h (Option.some.inj e))]
theorem kx_scal (z : Int) (came : Option Nat) : scal (V.int z) (kx (came.map fun n : Nat => (n : Int))) = true := by
  cases came <;> rfl
theorem kx_non (came : Option Nat) : decide (kx (came.map fun n : Nat => (n : Int)) = V.non) = decide (came = none) := by
  cases came with
  | none => rfl
  | some c => exact (decide_eq_false (fun e => by cases e)).trans (decide_eq_false (fun e => by cases e)).symm
theorem netAt_end {L : List (Nat × Nat)} {nd z : Nat} (h : z ∈ netAt L nd) : z < L.length ∧ (nd = (L.getD z (0, 0)).1 ∨ nd = (L.getD z (0, 0)).2) := by
  rw [netAt_range] at h
  obtain ⟨h1, h2⟩ := List.mem_filter.mp h
  exact ⟨List.mem_range.mp h1, of_decide_eq_true h2⟩
-- _law_wise: slots _law_deck_here 0, _law_nodes 1, _law_links 2, _law_target 3, _law_marks 4, _law_far_here 5, _law_kind 6, _law_found 7, _law_key 8, _law_own 9, _law_row_here 10, _law_k 11, _law_length 12; cells ['_law_far_here', '_law_key', '_law_links']
abbrev s__law_wise : Stmt := top 68
abbrev N__law_wise : List Str := ["_law_deck_here", "_law_nodes", "_law_links", "_law_target", "_law_marks", "_law_far_here", "_law_kind", "_law_found", "_law_key", "_law_own", "_law_row_here", "_law_k", "_law_length"]
theorem sc__law_wise : FnScope N__law_wise ["_law_deck_here", "_law_nodes", "_law_links", "_law_target", "_law_marks"] (defScope s__law_wise) := ⟨rfl, rfl, rfl, by decide +kernel, rfl, by decide +kernel, by decide +kernel⟩
def sp__law_wise (g : Gx) : Sp := fun vs H Q _ => ∃ d c0 c1 a xs, ∃ k n t w : Nat, ∃ L : List (Nat × Nat), vs = [.ref d, .int n, .ref a, .int t, .int w] ∧ k ≤ 1000000 ∧ Deck H d c0 c1 k ∧ a ≠ d ∧ a ≠ c0 ∧ H a = some (.lst xs) ∧ TpAll g.K H xs (L.map eP) ∧ NetOk n L ∧ 1 ≤ w ∧ w ≤ 2 ∧ ∀ p H' ys (rows : List (Ky × Row)), New H p → Eg g.T d c0 H H' → Deck H' d c0 c1 (k + 1) → H' p = some (.lst ys) → TpAll g.K H' ys (rows.map eO) → rows.map (·.1) = keysOf n L t w → (∀ x ∈ rows, RowOk L x.1.1 w x.2) → Q (.ref p) H'
theorem ok__law_wise (g : Gx) (T : Blt g.mg) (Z : Fct g) (C__law_far : Cal g.P g.w g.K g.mg g.base 1 "_law_far" ["_law_nodes", "_law_links", "_law_target"] (sp__law_far g)) (C__law_next : Cal g.P g.w g.K g.mg g.base 1 "_law_next" ["_law_deck_here", "_law_many"] (sp__law_next g)) (C__law_keys : Cal g.P g.w g.K g.mg g.base 2 "_law_keys" ["_law_nodes", "_law_links", "_law_target", "_law_marks"] (sp__law_keys g)) (C__law_at : Cal g.P g.w g.K g.mg g.base 1 "_law_at" ["_law_links", "_law_node"] (sp__law_at g))  {f : Addr} {fd : FuncData} (F : Fun g.K "_law_wise" "_law_wise" s__law_wise f fd) : FnOk g.P g.w g.K g.mg g.base CX0 3 f fd ["_law_deck_here", "_law_nodes", "_law_links", "_law_target", "_law_marks"] (sp__law_wise g) := by
  refine F.ok sc__law_wise (fun vs H Q E h => ?_) (fun cdv A outer s H vs Q E hr h => ?_)
  · first | (obtain ⟨rfl, _⟩ := h; rfl) | (obtain ⟨_, rfl, _⟩ := h; rfl) | (obtain ⟨_, _, rfl, _⟩ := h; rfl) | (obtain ⟨_, _, _, rfl, _⟩ := h; rfl) | (obtain ⟨_, _, _, _, rfl, _⟩ := h; rfl) | (obtain ⟨_, _, _, _, _, rfl, _⟩ := h; rfl) | (obtain ⟨_, _, _, _, _, _, rfl, _⟩ := h; rfl) | (obtain ⟨_, _, _, _, _, _, _, rfl, _⟩ := h; rfl) | (obtain ⟨_, _, _, _, _, _, _, _, rfl, _⟩ := h; rfl) | (obtain ⟨_, _, _, _, _, _, _, _, _, rfl, _⟩ := h; rfl) | (obtain ⟨_, _, _, _, _, _, _, _, _, _, rfl, _⟩ := h; rfl) | (obtain ⟨_, _, _, _, _, _, _, _, _, _, _, rfl, _⟩ := h; rfl) | (obtain ⟨_, _, _, _, _, _, _, _, _, _, _, _, rfl, _⟩ := h; rfl) | (obtain ⟨_, _, _, _, _, _, _, _, _, _, _, _, _, rfl, _⟩ := h; rfl)
  have hu := room_un hr
  obtain ⟨d, c0, c1, a, xs, k, n, t, w, L, rfl, hk, hD, na1, na2, hs, hx, nok, hw1, hw2, kk⟩ := h
  refine ⟨_, (pss_cons (ps_asg (pe_tup (pa_cons (pe_cF C__law_far (hr.mono (by decide)) rfl (pa_cons (pv 1) (pa_cons (pv 2) (pa_cons (pv 3) pa_nil)))) (pa_cons (pe_cF C__law_next (hr.mono (by decide)) rfl (pa_cons (pv 0) (pa_cons pe_int pa_nil))) (pa_cons (pe_lst pa_nil) pa_nil)))) (gTW g (n := 3) rfl (pgs_cons (pg_name (i := 5) sc__law_wise.nd rfl (Or.inr rfl)) (pgs_cons (pg_name (i := 6) sc__law_wise.nd rfl (Or.inl rfl)) (pgs_cons (pg_name (i := 7) sc__law_wise.nd rfl (Or.inl rfl)) pgs_nil)))))
      (pss_cons (ps_for PassesOwn.never rfl (iLW g (pe_cF C__law_keys (hr.mono (by decide)) rfl (pa_cons (pv 1) (pa_cons (pv 2) (pa_cons (pv 3) (pa_cons (pv 4) pa_nil)))))) (pg_name (i := 8) sc__law_wise.nd rfl (Or.inr rfl)) (pss_cons (ps_setLc (i := 9) (own := [("_law_k", 11)]) rfl sc__law_wise.nd rfl rfl (sw_true rfl rfl rfl (by decide +kernel)) (iLW g (pe_cF C__law_at (hr.mono (by decide)) rfl (pa_cons (pv 2) (pa_cons (pe_ix (ixW g) (pv 8) pe_int (fun _ _ => rfl)) pa_nil)))) (blkOk_by rfl) (fun _ _ _ _ _ => pg_name (i := 11) sc__law_wise.nd rfl (Or.inl rfl)) (fun _ _ _ _ _ => pts_one (pt_cmpR op_ne (pv 11) (pe_ix (ixW g) (pv 8) pe_int (fun _ _ => rfl)) (nomark _))) (fun _ _ _ _ _ => (pv 11)))
      (pss_cons (ps_setLc (i := 10) (own := [("_law_length", 12), ("_law_k", 11)]) rfl sc__law_wise.nd rfl rfl (sw_true rfl rfl rfl (by decide +kernel)) (iLW g (pe_callB (sortedDW g hu) (by rfl) T.b_sorted boot_f_sorted (pa_cons (pe_lc (own := [("_law_k", 11)]) rfl sc__law_wise.nd (iLW g (pv 9)) (blkOk_by rfl) (fun _ _ _ _ _ => pg_name (i := 11) sc__law_wise.nd rfl (Or.inl rfl)) (fun _ _ _ _ _ => pts_nil) (fun _ _ _ _ _ => (pe_tup (pa_cons (pe_ix (ixW g) (pv 5) (pe_op op_sub (pe_callB (sumTW g rfl rfl) (by rfl) T.b_sum boot_f_sum (pa_cons (pe_ix (ixW g) (pv 2) (pv 11) (fun _ _ => rfl)) pa_nil)) (pe_ix (ixW g) (pv 8) pe_int (fun _ _ => rfl))) (fun _ _ => rfl)) (pa_cons (pv 11) pa_nil))))) pa_nil))) (blkOk_by rfl) (fun _ _ _ _ _ => gTW g (n := 2) rfl (pgs_cons (pg_name (i := 12) sc__law_wise.nd rfl (Or.inl rfl)) (pgs_cons (pg_name (i := 11) sc__law_wise.nd rfl (Or.inl rfl)) pgs_nil))) (fun _ _ _ _ _ => pts_nil) (fun _ _ _ _ _ => (pv 11)))
      (pss_cons (ps_if (PW.pt (pw_and (pt_cmpR op_eq (pv 6) pe_int (nomark _)) (pw_and1 (pt_cmpR notNW (pe_ix (ixW g) (pv 8) pe_int (fun _ _ => rfl)) pe_non (nomark _))))) (pss_one (ps_set (i := 10) sc__law_wise.nd rfl (Or.inl rfl) (pe_op op_cat (pe_lc (own := [("_law_k", 11)]) rfl sc__law_wise.nd (iLW g (pv 9)) (blkOk_by rfl) (fun _ _ _ _ _ => pg_name (i := 11) sc__law_wise.nd rfl (Or.inl rfl)) (fun _ _ _ _ _ => pts_one (pt_cmpR op_gt (pv 11) (pe_ix (ixW g) (pv 8) pe_int (fun _ _ => rfl)) (nomark _))) (fun _ _ _ _ _ => (pv 11))) (pe_lc (own := [("_law_k", 11)]) rfl sc__law_wise.nd (iLW g (pv 9)) (blkOk_by rfl) (fun _ _ _ _ _ => pg_name (i := 11) sc__law_wise.nd rfl (Or.inl rfl)) (fun _ _ _ _ _ => pts_one (pt_cmpR op_lt (pv 11) (pe_ix (ixW g) (pv 8) pe_int (fun _ _ => rfl)) (nomark _))) (fun _ _ _ _ _ => (pv 11)))))) pss_nil)
      (pss_cons (ps_set (i := 10) sc__law_wise.nd rfl (Or.inl rfl) (pe_op op_cat (pv 10) (pe_lc (own := [("_law_k", 11)]) rfl sc__law_wise.nd (iLW g (pe_cF C__law_at (hr.mono (by decide)) rfl (pa_cons (pv 2) (pa_cons (pe_ix (ixW g) (pv 8) pe_int (fun _ _ => rfl)) pa_nil)))) (blkOk_by rfl) (fun _ _ _ _ _ => pg_name (i := 11) sc__law_wise.nd rfl (Or.inl rfl)) (fun _ _ _ _ _ => pts_one (pt_cmpR op_eq (pv 11) (pe_ix (ixW g) (pv 8) pe_int (fun _ _ => rfl)) (nomark _))) (fun _ _ _ _ _ => (pv 11)))))
      (pss_one (ps_expr (bmW g PySem.F.plainAttrs_list PySem.F.slot_list_append PySem.F.type_list_append mt_append (pv 7) (pa_cons (pe_tup (pa_cons (pv 8) (pa_cons (pe_callTy (tupOfW g) (by rfl) T.b_tuple boot_t_tuple (pa_cons (pe_lc (own := [("_law_k", 11)]) rfl sc__law_wise.nd (iLW g (pv 10)) (blkOk_by rfl) (fun _ _ _ _ _ => pg_name (i := 11) sc__law_wise.nd rfl (Or.inl rfl)) (fun _ _ _ _ _ => pts_nil) (fun _ _ _ _ _ => (pe_tup (pa_cons (pv 11) (pa_cons (pe_ix (ixW g) (pv 8) pe_int (fun _ _ => rfl)) pa_nil))))) pa_nil)) pa_nil))) pa_nil)))))))))
      (pss_one (ps_ret (pv 7))))), ?_⟩
  have hn := nok.hi
  have hL := nok.few
  walk_at "go"
  refine ⟨a, xs, n, t, L, rfl, .of hs, hx, nok, fun fb Hf ns nfb ef hnl hfb => ?_⟩
  walk_at "go"
  refine ⟨d, c0, c1, 2, k, rfl, ⟨by decide, by decide⟩, hk, ef.deck hD, fun kind Hn en hDn hkind => ?_⟩
  walk_at "go"
  refine ⟨Nat.zero_le _, fun fa hfa => ?_⟩
  walk_at "go"
  refine ⟨szr rfl, fun q hq => ?_⟩
  refine st_g3 (.of upd_same) ?_
  have e0 : Ex g.T Hn (upd (upd Hn fa (.lst [])) q (.tup [.ref fb, .int kind, .ref fa])) := (Ex.new hfa).trans (.new hq)
  have d0 : (upd (upd Hn fa (.lst [])) q (.tup [.ref fb, .int kind, .ref fa])) fa = some (.lst []) := by rw [upd_ne (fun z => by rw [z, upd_same] at hq; cases hq)]; exact upd_same
  have hsn : SqL g.K Hn a xs := .of (en.at (ef.at hs) na1 na2)
  have hxn : TpAll g.K Hn xs (L.map eP) := en.tps (ef.deck hD) (ef.tps hx)
  have hfbn : Hn fb = some (.lst (ns.map fun n : Nat => V.int n)) := en.at hfb (hD.new_d nfb) (hD.new_c nfb)
  generalize upd (upd Hn fa (.lst [])) q (.tup [.ref fb, .int kind, .ref fa]) = H0 at e0 d0
  walk_at "go"
  refine ⟨a, xs, n, t, w, L, rfl, e0.sl hsn, e0.tps hxn, hL, hn, hw2, fun kb H1 kbs nkb e1 hkb hkbs => ?_⟩
  walk_at "go"
  refine ⟨kb, rfl, ⟨kbs, .of hkb⟩, ?_⟩
  have nfa : New Hn fa := .of hfa
  have nkf : kb ≠ fa := fun z => by
    obtain ⟨ps, e⟩ := nkb _ (by rw [z]; exact d0)
    cases e
  have hkl : kbs.length = (keysOf n L t w).length := by rw [hkbs.len, List.length_map]
  have hkf : (keysOf n L t w).length ≤ 119 := by
    have := keysTo_len (n := n) (t := t) hL hw2 (List.range n)
    rw [List.length_range] at this
    unfold keysOf
    omega
  refine forL (K := g.K) (xs := kbs) (fun i σ H1 => Ex g.T Hn H1 ∧ H1 kb = some (.lst kbs) ∧ TpAll g.K H1 kbs ((keysOf n L t w).map eK) ∧ (∃ ys, ∃ rows : List (Ky × Row), H1 fa = some (.lst ys) ∧ TpAll g.K H1 ys (rows.map eO) ∧ rows.map (·.1) = (keysOf n L t w).take i ∧ (∀ x ∈ rows, RowOk L x.1.1 w x.2)) ∧ ∃ x8 x9 x10, σ = [some (.ref d), some (.int n), some (.ref a), some (.int t), some (.int w), some (.ref fb), some (.int kind), some (.ref fa), x8, x9, x10, none, none])
    ⟨e0.trans e1, hkb, hkbs, ⟨[], [], e1.at d0, .nil, by rw [List.take_zero]; rfl, fun x hx => (nomatch hx)⟩, _, _, _, rfl⟩ (fun i σ H1 p => .of p.2.1) (fun i x σ H2 hi p => ?_) (fun σ H2 p => ?_)
  · obtain ⟨e2, pk, hkt, ⟨ys, rows, d1, d2, d3, d4⟩, x8, x9, x10, rfl⟩ := p
    have hil : i < (keysOf n L t w).length := by rw [← hkl]; exact (List.getElem?_eq_some_iff.mp hi).1
    obtain ⟨key, hkey, hxk⟩ := hkt.src hi
    obtain ⟨ka, rfl, hka⟩ := tp_eK hxk
    obtain ⟨nd, came, mark⟩ := key
    have hka : SqT g.K H2 ka [.int nd, kx (came.map fun n : Nat => (n : Int)), .int mark] := hka
    have hkm := (mem_keysOf hw1).mp (List.mem_of_getElem? hkey)
    walk_at "go"
    refine st_ixT hka rfl ?_
    walk_at "go"
    refine ⟨a, xs, nd, L, rfl, e2.sl hsn, e2.tps hxn, hL, fun p1 H3 as np1 e3 hp1 has => ?_⟩
    walk_at "go"
    refine ⟨p1, rfl, ⟨as, .of hp1⟩, ?_⟩
    have hal := netAt_len (L := L) (node := nd)
    refine lcL (T := g.T) (l := netAt L nd) (enc := eN) (fun z => !decide (some z = came)) eN (.of hp1) has (by omega) (fun z x H4 hz e4 hx => ?_) fun p2 H4 os np2 e4 hp2 hos => ?_
    · intro Yes No hY hN
      cases tp_int hx
      walk_at "go"
      refine st_ixT ((e3.trans e4).st hka) rfl ?_
      refine ⟨kx_scal _ _, ?_⟩
      rw [kx_eq]
      refine ⟨_, rfl, ?_⟩
      cases hc : (!decide (some z = came)) with
      | true =>
        rw [if_pos rfl]
        walk_at "go"
        exact hY hc _ _ (.refl _) (.int _)
      | false =>
        rw [if_neg (by decide)]
        exact hN hc _ (.refl _)
    · have hol : (ownF L nd came).length ≤ 8 := by
        unfold ownF
        have := List.length_filter_le (fun z => !decide (some z = came)) (netAt L nd)
        omega
      have hos : TpAll g.K H4 os ((ownF L nd came).map eN) := hos
      have e24 := e3.trans e4
      walk_at "go"
      refine ⟨p2, rfl, ⟨os, .of hp2⟩, ?_⟩
      refine lcL (T := g.T) (l := ownF L nd came) (enc := eN) (fun _ => true) (fun z => eP (ns.getD ((L.getD z (0, 0)).1 + (L.getD z (0, 0)).2 - nd) 0, z)) (.of hp2) hos (by omega) (fun z x H5 hz e5 hx => ?_) fun p3 H5 qs np3 e5 hp3 hqs => ?_
      · intro Yes No hY hN
        cases tp_int hx
        obtain ⟨hz1, hz2⟩ := netAt_end (List.mem_filter.mp hz).1
        have hzl := nok.link (L.getD z (0, 0)) (by rw [List.getD_eq_getElem?_getD, List.getElem?_eq_getElem hz1]; exact List.getElem_mem hz1)
        have e25 := e24.trans e5
        obtain ⟨y, hy1, hy2⟩ := hxn.get (i := z) (d := eP (L.getD z (0, 0))) (by rw [List.getElem?_map, List.getD_eq_getElem?_getD, List.getElem?_eq_getElem hz1]; rfl)
        obtain ⟨y0, ys0, rfl, hy3, hy4⟩ := tp_tup ((e2.trans e25).tp hy2)
        cases hy4 with
        | cons q1 q2 =>
          cases q2 with
          | cons q2 q3 =>
            cases q3
            cases tp_int q1
            cases tp_int q2
            walk_at "go"
            refine st_ixL ((e2.trans e25).sl hsn) (atI_nat hy1) ?_
            refine ⟨y0, _, _, rfl, hy3, ?_⟩
            walk_at "go"
            refine st_ixT (e25.st hka) rfl ?_
            refine st_I0 ?_
            have hs0 : ((L.getD z (0, 0)).1 : Int) + ((L.getD z (0, 0)).2 : Int) - nd = (((L.getD z (0, 0)).1 + (L.getD z (0, 0)).2 - nd : Nat) : Int) := by omega
            rw [hs0]
            have hon : (L.getD z (0, 0)).1 + (L.getD z (0, 0)).2 - nd < ns.length := by omega
            generalize (L.getD z (0, 0)).1 + (L.getD z (0, 0)).2 - nd = o at hs0 hon hY ⊢
            refine st_ixL (.of ((e2.trans e25).at hfbn)) (v := .int (ns.getD o 0 : Nat)) (atI_nat ?_) ?_
            · rw [List.getElem?_map, List.getD_eq_getElem?_getD, List.getElem?_eq_getElem hon]
              rfl
            walk_at "go"
            exact ⟨szr rfl, fun q3 hq3 => hY rfl _ _ (.new hq3) (.tup (.of upd_same) (.cons (.int _) (.cons (.int _) .nil)))⟩
      · rw [List.filter_eq_self.mpr (fun _ _ => rfl)] at hqs
        have hqs2 : TpAll g.K H5 qs (((ownF L nd came).map fun z => (ns.getD ((L.getD z (0, 0)).1 + (L.getD z (0, 0)).2 - nd) 0, z)).map eP) := by rw [List.map_map]; exact hqs
        walk_at "go"
        refine sortLP (.of hp3) hqs2 fun p4 ss hp4 hss => ?_
        have hsp := srtP_perm ((ownF L nd came).map fun z => (ns.getD ((L.getD z (0, 0)).1 + (L.getD z (0, 0)).2 - nd) 0, z))
        generalize srtP ((ownF L nd came).map fun z => (ns.getD ((L.getD z (0, 0)).1 + (L.getD z (0, 0)).2 - nd) 0, z)) = sl at hss hsp
        have hsl : sl.length ≤ 8 := by rw [hsp.length_eq, List.length_map]; exact hol
        have e26 : Ex g.T H2 (upd H5 p4 (.lst ss)) := (e24.trans e5).trans (.new hp4)
        have e46 : Ex g.T H4 (upd H5 p4 (.lst ss)) := e5.trans (.new hp4)
        have hp4' : (upd H5 p4 (.lst ss)) p4 = some (.lst ss) := upd_same
        generalize upd H5 p4 (.lst ss) = H6 at hss e26 e46 hp4'
        walk_at "go"
        refine ⟨p4, rfl, ⟨ss, .of hp4'⟩, ?_⟩
        have hond : (ownF L nd came).Nodup := (List.filter_sublist).nodup netAt_nodup
        apply cut_cont (fun p H' => Ex g.T H2 H' ∧ ∃ zs, ∃ rl : List Nat, H' p = some (.lst zs) ∧ TpAll g.K H' zs (rl.map eN) ∧ rl.Nodup ∧ (∀ x ∈ rl, x ∈ ownF L nd came))
        · intro go
          refine lcL (T := g.T) (l := sl) (enc := eP) (fun _ => true) (fun z => eN z.2) (.of hp4') hss (by omega) (fun z x H7 hz e7 hx => ?_) fun p5 H7 rs np5 e7 hp5 hrs => ?_
          · intro Yes No hY hN
            obtain ⟨y0, ys0, rfl, hy3, hy4⟩ := tp_tup hx
            cases hy4 with
            | cons q1 q2 =>
              cases q2 with
              | cons q2 q3 =>
                cases q3
                cases tp_int q1
                cases tp_int q2
                refine st_g2 hy3 ?_
                walk_at "go"
                exact hY rfl _ _ (.refl _) (.int _)
          rw [List.filter_eq_self.mpr (fun _ _ => rfl)] at hrs
          have hrs2 : TpAll g.K H7 rs ((sl.map (·.2)).map eN) := by rw [List.map_map]; exact hrs
          have hrp : (sl.map (·.2)).Perm (ownF L nd came) := by
            refine (hsp.map _).trans ?_
            rw [List.map_map]
            exact (List.map_id _).symm ▸ List.Perm.refl _
          have e27 := e26.trans e7
          have e47 := e46.trans e7
          have g0 : (fun p H' => Ex g.T H2 H' ∧ ∃ zs, ∃ rl : List Nat, H' p = some (.lst zs) ∧ TpAll g.K H' zs (rl.map eN) ∧ rl.Nodup ∧ (∀ x ∈ rl, x ∈ ownF L nd came)) p5 H7 := ⟨e27, rs, _, hp5, hrs2, hrp.nodup_iff.mpr hond, fun x hx => hrp.mem_iff.mp hx⟩
          walk_at "go"
          by_cases h1 : kind = 1
          case neg =>
            refine st_F (decide_eq_false (by omega)) ?_
            walk_at "go"
            exact go p5 H7 g0
          refine st_T (decide_eq_true (by omega)) ?_
          walk_at "go"
          refine st_ixT (e27.st hka) rfl ?_
          walk_at "go"
          rw [kx_non]
          cases came with
          | none =>
            refine st_F (by simp) ?_
            walk_at "go"
            exact go p5 H7 g0
          | some cm =>
            clear g0
            refine st_T (by simp) ?_
            walk_at "go"
            have hpart : ∀ (b : Nat → Bool), (((ownF L nd (some cm)).filter b).length ≤ 8) := fun b => Nat.le_trans (List.length_filter_le _ _) hol
            refine ⟨p2, rfl, ⟨os, .of (e47.at hp2)⟩, ?_⟩
            refine lcL (T := g.T) (l := ownF L nd (some cm)) (enc := eN) (fun z => decide (cm < z)) eN (.of (e47.at hp2)) (e47.tps hos) (by omega) (fun z x H8 hz e8 hx => ?_) fun p6 H8 r1 np6 e8 hp6 hr1 => ?_
            · intro Yes No hY hN
              cases tp_int hx
              walk_at "go"
              refine st_ixT ((e27.trans e8).st hka) rfl ?_
              refine st_I0 ?_
              refine ⟨_, rfl, ?_⟩
              by_cases hc : cm < z
              · rw [if_pos (decide_eq_true (by show (cm : Int) < z; omega))]
                walk_at "go"
                exact hY (decide_eq_true hc) _ _ (.refl _) (.int _)
              · rw [if_neg (by rw [decide_eq_true_eq]; show ¬ (cm : Int) < z; omega)]
                exact hN (decide_eq_false hc) _ (.refl _)
            walk_at "go"
            refine ⟨p2, rfl, ⟨os, .of ((e47.trans e8).at hp2)⟩, ?_⟩
            refine lcL (T := g.T) (l := ownF L nd (some cm)) (enc := eN) (fun z => decide (z < cm)) eN (.of ((e47.trans e8).at hp2)) ((e47.trans e8).tps hos) (by omega) (fun z x H9 hz e9 hx => ?_) fun p7 H9 r2 np7 e9 hp7 hr2 => ?_
            · intro Yes No hY hN
              cases tp_int hx
              walk_at "go"
              refine st_ixT ((e27.trans (e8.trans e9)).st hka) rfl ?_
              refine st_I0 ?_
              refine ⟨_, rfl, ?_⟩
              by_cases hc : z < cm
              · rw [if_pos (decide_eq_true (by show (z : Int) < cm; omega))]
                walk_at "go"
                exact hY (decide_eq_true hc) _ _ (.refl _) (.int _)
              · rw [if_neg (by rw [decide_eq_true_eq]; show ¬ (z : Int) < cm; omega)]
                exact hN (decide_eq_false hc) _ (.refl _)
            walk_at "go"
            have l1 := hpart fun z => decide (cm < z)
            have l2 := hpart fun z => decide (z < cm)
            refine catL (e9.at hp6) hp7 (by rw [hr1.len, hr2.len, List.length_map, List.length_map]; omega) fun p8 hp8 => ?_
            have g1 : (fun p H' => Ex g.T H2 H' ∧ ∃ zs, ∃ rl : List Nat, H' p = some (.lst zs) ∧ TpAll g.K H' zs (rl.map eN) ∧ rl.Nodup ∧ (∀ x ∈ rl, x ∈ ownF L nd (some cm))) p8 (upd H9 p8 (.lst (r1 ++ r2))) := ⟨(e27.trans (e8.trans e9)).trans (.new hp8), r1 ++ r2, _, upd_same, by
              rw [List.map_append]
              exact ((e9.tps hr1).app hr2).up (noTup_none hp8), by
              rw [List.nodup_append]
              refine ⟨(List.filter_sublist).nodup hond, (List.filter_sublist).nodup hond, fun x hx y hy e => ?_⟩
              have a1 := of_decide_eq_true (List.mem_filter.mp hx).2
              have a2 := of_decide_eq_true (List.mem_filter.mp hy).2
              omega, fun x hx => by
              rcases List.mem_append.mp hx with hx | hx <;> exact (List.mem_filter.mp hx).1⟩
            walk_at "go"
            exact go p8 _ g1
        · rintro p10 H7 ⟨e27, zs, rl, hp10, hzs, hrn, hro⟩
          have hrl : rl.length ≤ 8 := Nat.le_trans (nodup_len hrn hro) hol
          refine st_ixT (e27.st hka) rfl ?_
          walk_at "go"
          refine ⟨a, xs, nd, L, rfl, (e2.trans e27).sl hsn, (e2.trans e27).tps hxn, hL, fun p11 H8 bs np11 e8 hp11 hbs => ?_⟩
          walk_at "go"
          refine ⟨p11, rfl, ⟨bs, .of hp11⟩, ?_⟩
          refine lcL (T := g.T) (l := netAt L nd) (enc := eN) (fun z => decide (some z = came)) eN (.of hp11) hbs (by omega) (fun z x H9 hz e9 hx => ?_) fun p12 H9 cs np12 e9 hp12 hcs => ?_
          · intro Yes No hY hN
            cases tp_int hx
            walk_at "go"
            refine st_ixT ((e27.trans (e8.trans e9)).st hka) rfl ?_
            refine ⟨kx_scal _ _, ?_⟩
            rw [kx_eq]
            refine ⟨_, rfl, ?_⟩
            cases hc : (decide (some z = came)) with
            | true =>
              rw [if_pos rfl]
              walk_at "go"
              exact hY hc _ _ (.refl _) (.int _)
            | false =>
              rw [if_neg (by decide)]
              exact hN hc _ (.refl _)
          have hcl : (cameF L nd came).length ≤ 8 := by
            unfold cameF
            have := List.length_filter_le (fun z => decide (some z = came)) (netAt L nd)
            omega
          have hcs : TpAll g.K H9 cs ((cameF L nd came).map eN) := hcs
          walk_at "go"
          refine catL ((e8.trans e9).at hp10) hp12 (by rw [hzs.len, hcs.len, List.length_map, List.length_map]; omega) fun p13 hp13 => ?_
          have e29 := (e27.trans (e8.trans e9)).trans (Ex.new (T := g.T) (o := .lst (zs ++ cs)) hp13)
          have hrow : TpAll g.K (upd H9 p13 (.lst (zs ++ cs))) (zs ++ cs) ((rl ++ cameF L nd came).map eN) := by
            rw [List.map_append]
            exact (((e8.trans e9).tps hzs).app hcs).up (noTup_none hp13)
          have hp13' : (upd H9 p13 (.lst (zs ++ cs))) p13 = some (.lst (zs ++ cs)) := upd_same
          generalize upd H9 p13 (.lst (zs ++ cs)) = H10 at e29 hrow hp13'
          have hcn : (cameF L nd came).Nodup := (List.filter_sublist).nodup netAt_nodup
          have hfn : (rl ++ cameF L nd came).Nodup := by
            rw [List.nodup_append]
            refine ⟨hrn, hcn, fun x hx y hy e => ?_⟩
            have a1 := (List.mem_filter.mp (hro x hx)).2
            have a2 := (List.mem_filter.mp hy).2
            rw [e, a2] at a1
            cases a1
          have hfm : ∀ x ∈ rl ++ cameF L nd came, x ∈ netAt L nd := fun x hx => by
            rcases List.mem_append.mp hx with hx | hx
            · exact (List.mem_filter.mp (hro x hx)).1
            · exact (List.mem_filter.mp hx).1
          have hfl : (rl ++ cameF L nd came).length ≤ 16 := by rw [List.length_append]; omega
          generalize rl ++ cameF L nd came = fl at hrow hfn hfm hfl
          generalize zs ++ cs = fs at hrow hp13'
          walk_at "go"
          refine ⟨tyL (.of (e29.at d1)), ?_⟩
          walk_at "go"
          refine ⟨p13, rfl, ⟨_, .of hp13'⟩, ?_⟩
          refine lcL (T := g.T) (l := fl) (enc := eN) (fun _ => true) (fun z => eP (z, mark)) (.of hp13') hrow (by omega) (fun z x H11 hz e11 hx => ?_) fun p14 H11 gs np14 e11 hp14 hgs => ?_
          · intro Yes No hY hN
            cases tp_int hx
            walk_at "go"
            refine st_ixT ((e29.trans e11).st hka) rfl ?_
            walk_at "go"
            exact ⟨szr rfl, fun q3 hq3 => hY rfl _ _ (.new hq3) (.tup (.of upd_same) (.cons (.int _) (.cons (.int _) .nil)))⟩
          rw [List.filter_eq_self.mpr (fun _ _ => rfl)] at hgs
          walk_at "go"
          refine tupL (.of hp14) fun p15 hp15 => ?_
          walk_at "go"
          refine ⟨szr rfl, fun p16 hp16 => ?_⟩
          walk_at "go"
          have e30 := (e29.trans e11).trans ((Ex.new (T := g.T) (o := .tup gs) hp15).trans (Ex.new (T := g.T) (o := .tup [.ref ka, .ref p15]) hp16))
          have hnew : Tp g.K (upd (upd H11 p15 (.tup gs)) p16 (.tup [.ref ka, .ref p15])) (.ref p16) (eO ((nd, came, mark), fl.map fun z => (z, mark))) := by
            refine .tup (.of upd_same) (.cons (e30.tp hxk) (.cons ?_ .nil))
            refine .tup (.of (xs := gs) ?_) ?_
            · rw [upd_ne (fun z => by rw [← z, upd_same] at hp16; cases hp16)]; exact upd_same
            · rw [List.map_map]
              exact (hgs.up (noTup_none hp15)).up (noTup_none hp16)
          generalize upd (upd H11 p15 (.tup gs)) p16 (.tup [.ref ka, .ref p15]) = H12 at e30 hnew
          refine appendL (e30.at d1) (by
            have h1 := congrArg List.length d3
            rw [List.length_map, List.length_take] at h1
            rw [d2.len, List.length_map]
            omega) ?_
          walk_at "go"
          have nt := noTup_of (e30.at d1)
          refine ⟨(e2.trans e30).mut nfa (e30.at d1) trivial, by rw [upd_ne nkf]; exact e30.at pk, (e30.tps hkt).up nt, ⟨_, rows ++ [((nd, came, mark), fl.map fun z => (z, mark))], upd_same, ?_, ?_, ?_⟩, _, _, _, rfl⟩
          · rw [List.map_append]
            exact ((e30.tps d2).up nt).app (.one (hnew.up nt))
          · rw [List.map_append, d3, List.take_succ, hkey]
            rfl
          · intro x hx
            rcases List.mem_append.mp hx with hx | hx
            · exact d4 x hx
            · rw [List.mem_singleton.mp hx]
              refine ⟨fun y hy => ?_, ?_⟩
              · obtain ⟨z, hz, rfl⟩ := List.mem_map.mp hy
                exact ⟨hfm z hz, hkm.mark⟩
              · show ((fl.map fun z => (z, mark)).map (·.1)).Nodup
                rw [List.map_map]
                exact (List.map_id fl).symm ▸ hfn
  · obtain ⟨e2, pk, hkt, ⟨ys, rows, d1, d2, d3, d4⟩, x8, x9, x10, rfl⟩ := p
    walk_at "go"
    rw [hkl, List.take_length] at d3
    exact kk fa H2 ys rows (ef.free (en.new hDn nfa)) (((ef.eg).trans en).then e2) (e2.deck hDn) d1 d2 d3 d4
end Sp
end
section
set_option Elab.async false
set_option linter.all false
set_option maxRecDepth 100000
set_option maxHeartbeats 4000000
set_option autoImplicit false
local macro_rules | `(tactic| walk_at "go") => `(tactic| repeat first
  | (with_reducible first
     | refine Sp.st_var rfl ?_ | refine Sp.st_c ?_ | refine Sp.st_op ?_ | refine Sp.st_seq ?_ | refine Sp.st_asg ?_ | refine Sp.st_name ?_
     | refine Sp.st_ret ?_ | refine Sp.st_drop ?_ | refine Sp.st_next ?_ | refine Sp.st_if ?_ | refine Sp.st_nx ?_ | refine Sp.st_rt ?_
     | refine Sp.st_cons ?_ | refine Sp.st_nil ?_ | refine Sp.st_cb ?_ | refine Sp.st_call ?_ | refine Sp.st_test ?_ | refine Sp.st_B ?_
     | refine Sp.st_not ?_ | refine Sp.st_and ?_ | refine Sp.st_or ?_ | refine Sp.st_andV ?_ | refine Sp.st_orV ?_ | refine Sp.st_notV ?_
     | refine Sp.st_tif ?_ | refine Sp.st_tup ?_ | refine Sp.st_lst ?_ | refine Sp.st_blx ?_ | refine Sp.st_I0 ?_ | refine Sp.st_U ?_
     | refine Sp.st_eqI ?_ | refine Sp.st_neI ?_ | refine Sp.st_chain ?_ | refine Sp.isiI ?_ | refine Sp.isiB ?_ | refine Sp.isiS ?_
     | refine Sp.st_T rfl ?_ | refine Sp.st_F rfl ?_ | refine Sp.st_lc ?_ | refine Sp.st_iT ?_ | refine Sp.st_iL ?_ | refine Sp.st_iR1 ?_
     | refine Sp.st_iR2 ?_ | refine Sp.st_iET ?_ | refine Sp.st_iZA ?_ | refine Sp.st_iZLT ?_ | refine Sp.st_for ?_ | refine Sp.st_fld ?_
     | refine Sp.st_sfld ?_ | refine Sp.st_prop ?_ | refine Sp.st_meth ?_ | refine Sp.st_make ?_ | refine Sp.st_isN ?_ | refine Sp.st_yes ?_
     | refine Sp.isNI ?_ | refine Sp.notNI ?_ | refine Sp.int1I ?_ | refine Sp.int1B ?_ | refine Sp.min2I ?_ | refine Sp.max2I ?_
     | refine Sp.st_dputN ?_ | refine Sp.st_dgetN ?_ | refine Sp.st_revL ?_ | refine Sp.st_din ?_ | refine Sp.st_dnin ?_ | refine Sp.st_dget ?_ | refine Sp.st_dput ?_ | refine Sp.st_dc ?_ | refine Sp.st_dcN ?_
     | refine Sp.st_sortLam ?_ | refine Sp.st_lc2 ?_ | refine Sp.st_un ?_ | refine Sp.st_lenSet ?_ | refine Sp.st_bm ?_ | refine Sp.st_lenO ?_ | refine Sp.st_sl ?_ | refine Sp.st_part ?_ | refine Sp.st_nopart ?_ | refine Sp.st_intx ?_)
  | ((with_reducible refine Sp.st_wp ?_ ?_); (focus rfl)))
namespace Sp
open PySem PySem.Spec L2

theorem eqv_nilN (ns : List Nat) : PyData.eqv (.list (ns.map eN)) (.list []) = decide (ns = []) := by
  cases ns with
  | nil => rw [PyData.eqv]; rfl
  | cons x l =>
    rw [PyData.eqv, List.map_cons, PyData.eqvAll]
    rfl
theorem pur_nats (ns : List Nat) : pur (.list (ns.map eN)) = true := by
  show purs _ = true
  exact purs_map fun _ => rfl
theorem tpNats {K : Fg} {H : Hp} {l : List Nat} {xs : List V} (h : TpAll K H xs (l.map eN)) : xs = l.map fun n : Nat => V.int n := by
  have := tpInts (l := l.map fun n : Nat => (n : Int)) (by rw [List.map_map]; exact h)
  rw [this, List.map_map]
  rfl
theorem tpOfNats {K : Fg} {H : Hp} (l : List Nat) : TpAll K H (l.map fun n : Nat => V.int n) (l.map eN) := by
  have := tpOfInts (K := K) (H := H) (l.map fun n : Nat => (n : Int))
  rw [List.map_map, List.map_map] at this
  exact this
theorem erase_map {α β : Type} (f : α → β) : ∀ (l : List α) (i : Nat), (l.map f).eraseIdx i = (l.eraseIdx i).map f
  | [], _ => rfl
  | x :: l, 0 => rfl
  | x :: l, i + 1 => by
    rw [List.map_cons, List.eraseIdx_cons_succ, List.eraseIdx_cons_succ, List.map_cons, erase_map f l i]
theorem erase_perm {α : Type} : ∀ {l : List α} {i : Nat} (h : i < l.length), (l[i] :: l.eraseIdx i).Perm l
  | x :: l, 0, h => List.Perm.refl _
  | x :: l, i + 1, h => by
    rw [List.eraseIdx_cons_succ, List.getElem_cons_succ]
    exact (List.Perm.swap _ _ _).trans ((erase_perm (Nat.lt_of_succ_lt_succ h)).cons x)
theorem st_par {i j : Nat} {ta : TA} {D : Ends} {σ : L2.St} {H : Hp} (q : ta σ H fun vs H1 => ∃ v w, vs = [v, w] ∧ D.nx ((σ.set i (some v)).set j (some w)) H1) : tPar i j ta D σ H := q
theorem st_par3 {i j l : Nat} {ta : TA} {D : Ends} {σ : L2.St} {H : Hp} (q : ta σ H fun vs H1 => ∃ u v w, vs = [u, v, w] ∧ D.nx (((σ.set i (some u)).set j (some v)).set l (some w)) H1) : tPar3 i j l ta D σ H := q
/-- the deck and its growth -/
theorem Eg.keep {T : List (Addr × Str)} {H1 H2 : Hp} {d c0 p : Addr} {xs : List V} (e : Eg T d c0 H1 H2) (h : H1 p = some (.lst xs)) (hd : p ≠ d) (hc : p ≠ c0) : H2 p = some (.lst xs) := e.at h hd hc
-- _law_row: slots _law_deck_here 0, _law_links 1, _law_node 2, _law_marks 3, _law_few 4, _law_left 5, _law_found 6, _law_link 7; cells []
abbrev s__law_row : Stmt := top 69
abbrev N__law_row : List Str := ["_law_deck_here", "_law_links", "_law_node", "_law_marks", "_law_few", "_law_left", "_law_found", "_law_link"]
theorem sc__law_row : FnScope N__law_row ["_law_deck_here", "_law_links", "_law_node", "_law_marks", "_law_few"] (defScope s__law_row) := ⟨rfl, rfl, rfl, by decide +kernel, rfl, by decide +kernel, by decide +kernel⟩
def sp__law_row (g : Gx) : Sp := fun vs H Q _ => ∃ d c0 c1 a xs, ∃ k node w few : Nat, ∃ L : List (Nat × Nat), vs = [.ref d, .ref a, .int node, .int w, .int few] ∧ k ≤ 900000 ∧ Deck H d c0 c1 k ∧ SqL g.K H a xs ∧ TpAll g.K H xs (L.map eP) ∧ L.length ≤ 8 ∧ 1 ≤ w ∧ w ≤ 2 ∧ 1 ≤ few ∧ few ≤ 1000 ∧ ∀ r H' (row : Row), Eg g.T d c0 H H' → Deck H' d c0 c1 (k + 24) → Tp g.K H' r (eR row) → RowOk L node w row → Q r H'
theorem ok__law_row (g : Gx) (T : Blt g.mg) (Z : Fct g) (C__law_at : Cal g.P g.w g.K g.mg g.base 1 "_law_at" ["_law_links", "_law_node"] (sp__law_at g)) (C__law_next : Cal g.P g.w g.K g.mg g.base 1 "_law_next" ["_law_deck_here", "_law_many"] (sp__law_next g))  {f : Addr} {fd : FuncData} (F : Fun g.K "_law_row" "_law_row" s__law_row f fd) : FnOk g.P g.w g.K g.mg g.base CX0 2 f fd ["_law_deck_here", "_law_links", "_law_node", "_law_marks", "_law_few"] (sp__law_row g) := by
  refine F.ok sc__law_row (fun vs H Q E h => ?_) (fun cdv A outer s H vs Q E hr h => ?_)
  · first | (obtain ⟨rfl, _⟩ := h; rfl) | (obtain ⟨_, rfl, _⟩ := h; rfl) | (obtain ⟨_, _, rfl, _⟩ := h; rfl) | (obtain ⟨_, _, _, rfl, _⟩ := h; rfl) | (obtain ⟨_, _, _, _, rfl, _⟩ := h; rfl) | (obtain ⟨_, _, _, _, _, rfl, _⟩ := h; rfl) | (obtain ⟨_, _, _, _, _, _, rfl, _⟩ := h; rfl) | (obtain ⟨_, _, _, _, _, _, _, rfl, _⟩ := h; rfl) | (obtain ⟨_, _, _, _, _, _, _, _, rfl, _⟩ := h; rfl) | (obtain ⟨_, _, _, _, _, _, _, _, _, rfl, _⟩ := h; rfl) | (obtain ⟨_, _, _, _, _, _, _, _, _, _, rfl, _⟩ := h; rfl) | (obtain ⟨_, _, _, _, _, _, _, _, _, _, _, rfl, _⟩ := h; rfl) | (obtain ⟨_, _, _, _, _, _, _, _, _, _, _, _, rfl, _⟩ := h; rfl) | (obtain ⟨_, _, _, _, _, _, _, _, _, _, _, _, _, rfl, _⟩ := h; rfl)
  have hu := room_un hr
  obtain ⟨d, c0, c1, a, xs, k, node, w, few, L, rfl, hk, hD, hs, hx, hL, hw1, hw2, hf1, hf2, kk⟩ := h
  refine ⟨_, (pss_cons (ps_par (i := 5) (j := 6) rfl sc__law_row.nd rfl rfl (by decide) rfl rfl (pa_cons (pe_cF C__law_at (hr.mono (by decide)) rfl (pa_cons (pv 1) (pa_cons (pv 2) pa_nil))) (pa_cons (pe_lst pa_nil) pa_nil)) rfl)
      (pss_cons (ps_while PassesOwn.never (pt_cmpR (neDW g hu) (pv 5) (pe_lst pa_nil) (nomark _)) (pss_cons (ps_set (i := 7) sc__law_row.nd rfl (Or.inl rfl) (bmW g PySem.F.plainAttrs_list PySem.F.slot_list_pop PySem.F.type_list_pop mt_popAt (pv 5) (pa_cons (pe_cF C__law_next (hr.mono (by decide)) rfl (pa_cons (pv 0) (pa_cons (pe_callB (lenW g) (by rfl) T.b_len boot_f_len (pa_cons (pv 5) pa_nil)) pa_nil))) pa_nil)))
      (pss_one (ps_if (pt_cmpR op_gt (pe_cF C__law_next (hr.mono (by decide)) rfl (pa_cons (pv 0) (pa_cons (pv 4) pa_nil))) pe_int (nomark _)) (pss_one (ps_expr (bmW g PySem.F.plainAttrs_list PySem.F.slot_list_append PySem.F.type_list_append mt_append (pv 6) (pa_cons (pe_tup (pa_cons (pv 7) (pa_cons (pe_cF C__law_next (hr.mono (by decide)) rfl (pa_cons (pv 0) (pa_cons (pv 3) pa_nil))) pa_nil))) pa_nil)))) pss_nil))))
      (pss_one (ps_ret (pe_callTy (tupOfW g) (by rfl) T.b_tuple boot_t_tuple (pa_cons (pv 6) pa_nil)))))), ?_⟩
  walk_at "go"
  refine st_par ?_
  walk_at "go"
  refine ⟨a, xs, node, L, rfl, hs, hx, hL, fun lb H1 ls nlb e1 hlb hls => ?_⟩
  have hal := netAt_len (L := L) (node := node)
  walk_at "go"
  refine ⟨Nat.zero_le _, fun fb hfb => ?_⟩
  walk_at "go"
  refine ⟨_, _, rfl, ?_⟩
  walk_at "go"
  have e2 : Ex g.T H1 (upd H1 fb (.lst [])) := .new hfb
  have nfb : New H fb := e1.free (.of hfb)
  have nlf : lb ≠ fb := fun z => by rw [z, hfb] at hlb; cases hlb
  have hls2 := tpNats hls
  refine ⟨fun m σ H1 => Eg g.T d c0 H H1 ∧ (∃ rem : List Nat, ∃ row : Row, ∃ ys, m = rem.length ∧ rem.length ≤ 8 ∧ Deck H1 d c0 c1 (k + 3 * (8 - m)) ∧ H1 lb = some (.lst (rem.map fun n : Nat => V.int n)) ∧ H1 fb = some (.lst ys) ∧ TpAll g.K H1 ys (row.map eP) ∧ (row.map (·.1) ++ rem).Nodup ∧ (∀ x ∈ row.map (·.1) ++ rem, x ∈ netAt L node) ∧ (∀ x ∈ row, x.2 < w)) ∧ ∃ x7, σ = [some (.ref d), some (.ref a), some (.int node), some (.int w), some (.int few), some (.ref lb), some (.ref fb), x7], ?_, ?_⟩
  · refine ⟨_, (e1.trans e2).eg, ⟨netAt L node, [], [], rfl, by omega, ((e1.trans e2).deck hD).le (by omega), ?_, upd_same, .nil, ?_, fun x hx => hx, fun x hx => (nomatch hx)⟩, _, rfl⟩
    · rw [e2.at hlb, hls2]
    · exact netAt_nodup
  rintro m σ H3 ⟨e3, ⟨rem, row, ys, rfl, hr8, hD3, hlb3, hfb3, hys, hnd, hmem, hmk⟩, x7, rfl⟩
  walk_at "go"
  refine ⟨Nat.zero_le _, fun p hp => ?_⟩
  have e4 : Ex g.T H3 (upd H3 p (.lst [])) := .new hp
  refine ⟨.list (rem.map eN), .list [], .lst (.of (e4.at hlb3)) (tpOfNats rem).dps, .lst (.of upd_same) .nil, shp (pur_nats rem) ?_, rfl, ?_⟩
  · refine Nat.le_trans (depth_lst (n := 0) (depth_map fun _ => Nat.le_refl _)) (by decide)
  rw [eqv_nilN]
  refine ⟨_, rfl, ?_⟩
  have hD4 := e4.deck hD3
  have hlb4 := e4.at hlb3
  have hfb4 := e4.at hfb3
  have hys4 := e4.tps hys
  have e34 := e3.then e4
  generalize upd H3 p (.lst []) = H4 at hD4 hlb4 hfb4 hys4 e34
  have nl1 := hD.new_d nlb
  have nl2 := hD.new_c nlb
  have nl3 := hD.new_e nlb
  have nf1 := hD.new_d nfb
  have nf2 := hD.new_c nfb
  have nf3 := hD.new_e nfb
  have hrl : row.length ≤ 8 := by
    have h1 := nodup_len (List.nodup_append.mp hnd).1 (fun x hx => hmem x (List.mem_append_left _ hx))
    rw [List.length_map] at h1
    omega
  have hyl : ys.length ≤ 8 := by rw [hys.len, List.length_map]; exact hrl
  by_cases hrem : rem = []
  · subst hrem
    refine st_F rfl ?_
    walk_at "go"
    refine tupL (.of hfb4) fun q hq => ?_
    walk_at "go"
    have e5 : Ex g.T H4 (upd H4 q (.tup ys)) := .new hq
    refine kk _ _ row (e34.then e5) ((e5.deck hD4).le (by rw [List.length_nil]; omega)) (.tup (.of upd_same) (hys4.up (noTup_none hq))) ⟨fun x hx => ⟨hmem _ (List.mem_append_left _ (List.mem_map_of_mem hx)), hmk x hx⟩, (List.nodup_append.mp hnd).1⟩
  · refine st_T (by rw [decide_eq_false hrem]; rfl) ?_
    have hpos : 0 < rem.length := List.length_pos_iff.mpr hrem
    refine ⟨fun σ' H' => ∃ m', m' < rem.length ∧ Eg g.T d c0 H H' ∧ (∃ rem : List Nat, ∃ row : Row, ∃ ys, m' = rem.length ∧ rem.length ≤ 8 ∧ Deck H' d c0 c1 (k + 3 * (8 - m')) ∧ H' lb = some (.lst (rem.map fun n : Nat => V.int n)) ∧ H' fb = some (.lst ys) ∧ TpAll g.K H' ys (row.map eP) ∧ (row.map (·.1) ++ rem).Nodup ∧ (∀ x ∈ row.map (·.1) ++ rem, x ∈ netAt L node) ∧ (∀ x ∈ row, x.2 < w)) ∧ ∃ x7, σ' = [some (.ref d), some (.ref a), some (.int node), some (.int w), some (.int few), some (.ref lb), some (.ref fb), x7], fun σ' H' h => h, ?_⟩
    walk_at "go"
    refine ⟨tyL (.of hlb4), ?_⟩
    walk_at "go"
    refine lenL (.of hlb4) ?_
    walk_at "go"
    refine ⟨d, c0, c1, rem.length, _, by rw [List.length_map]; rfl, ⟨hpos, by omega⟩, ?_, hD4, fun r H5 e5 hD5 hr => ?_⟩
    · omega
    have hlb5 := e5.keep hlb4 nl1 nl2
    have hfb5 := e5.keep hfb4 nf1 nf2
    walk_at "go"
    refine popL (i := r) (y := .int (rem[r] : Nat)) hlb5 (by rw [List.length_map]; exact hr) (by rw [List.length_map]; omega) (by rw [List.getElem?_map, List.getElem?_eq_getElem hr]; rfl) ?_
    have hnt5 : NoTup H5 lb := noTup_of hlb5
    have e6 : Eg g.T d c0 H (upd H5 lb (.lst ((rem.map fun n : Nat => V.int n).eraseIdx r))) := (e34.trans e5).mut nlb nl1 nl2 hlb5 trivial
    have hD6 : Deck (upd H5 lb (.lst ((rem.map fun n : Nat => V.int n).eraseIdx r))) d c0 c1 (k + 3 * (8 - rem.length) + 1) := hD5.up nl1 nl2 nl3
    have hlb6 : (upd H5 lb (.lst ((rem.map fun n : Nat => V.int n).eraseIdx r))) lb = some (.lst ((rem.eraseIdx r).map fun n : Nat => V.int n)) := by rw [upd_same, erase_map]
    have hfb6 : (upd H5 lb (.lst ((rem.map fun n : Nat => V.int n).eraseIdx r))) fb = some (.lst ys) := by rw [upd_ne (Ne.symm nlf)]; exact hfb5
    have hys6 : TpAll g.K (upd H5 lb (.lst ((rem.map fun n : Nat => V.int n).eraseIdx r))) ys (row.map eP) := (e5.tps hD4 hys4).up hnt5
    generalize upd H5 lb (.lst ((rem.map fun n : Nat => V.int n).eraseIdx r)) = H6 at e6 hD6 hlb6 hfb6 hys6
    have hel : (rem.eraseIdx r).length = rem.length - 1 := List.length_eraseIdx_of_lt hr
    generalize hlk : rem[r] = lk
    have hperm : rem.Perm (lk :: rem.eraseIdx r) := by
      rw [← hlk]
      exact (erase_perm hr).symm
    walk_at "go"
    refine ⟨d, c0, c1, few, _, rfl, ⟨hf1, hf2⟩, ?_, hD6, fun r2 H7 e7 hD7 hr2 => ?_⟩
    · omega
    have hlb7 := e7.keep hlb6 nl1 nl2
    have hfb7 := e7.keep hfb6 nf1 nf2
    have hys7 := e7.tps hD6 hys6
    have e67 := e6.trans e7
    walk_at "go"
    by_cases h2 : 0 < r2
    · refine st_T (decide_eq_true (by omega)) ?_
      walk_at "go"
      refine ⟨tyL (.of hfb7), ?_⟩
      walk_at "go"
      refine ⟨d, c0, c1, w, _, rfl, ⟨hw1, by omega⟩, ?_, hD7, fun r3 H8 e8 hD8 hr3 => ?_⟩
      · omega
      walk_at "go"
      refine ⟨szr rfl, fun q hq => ?_⟩
      walk_at "go"
      have hlb8 := e8.keep hlb7 nl1 nl2
      have hfb8 := e8.keep hfb7 nf1 nf2
      have hys8 := e8.tps hD7 hys7
      have e9 : Ex g.T H8 (upd H8 q (.tup [.int lk, .int r3])) := .new hq
      refine appendL (e9.at hfb8) (by omega) ?_
      walk_at "go"
      have nt := noTup_of (e9.at hfb8)
      refine ⟨rem.length - 1, by omega, ((e67.trans e8).then e9).mut nfb nf1 nf2 (e9.at hfb8) trivial, ⟨rem.eraseIdx r, row ++ [(lk, r3)], _, hel.symm, by omega, ((e9.deck hD8).up nf1 nf2 nf3).le (by omega), by rw [upd_ne nlf]; exact e9.at hlb8, upd_same, ?_, ?_, ?_, ?_⟩, _, rfl⟩
      · rw [List.map_append]
        exact ((e9.tps hys8).up nt).app (.one (Tp.up (.tup (.of upd_same) (.cons (.int _) (.cons (.int _) .nil))) nt))
      · rw [List.map_append, List.append_assoc]
        exact ((List.Perm.append_left _ hperm).nodup_iff).mp hnd
      · intro x hx
        rw [List.map_append, List.append_assoc] at hx
        exact hmem x (((List.Perm.append_left _ hperm).mem_iff).mpr hx)
      · intro x hx
        rcases List.mem_append.mp hx with hx | hx
        · exact hmk x hx
        · rw [List.mem_singleton.mp hx]; exact hr3
    · refine st_F (decide_eq_false (by omega)) ?_
      walk_at "go"
      refine ⟨rem.length - 1, by omega, e67, ⟨rem.eraseIdx r, row, ys, hel.symm, by omega, hD7.le (by omega), hlb7, hfb7, hys7, ?_, ?_, hmk⟩, _, rfl⟩
      · have h3 := ((List.Perm.append_left _ hperm).nodup_iff).mp hnd
        rw [List.nodup_append] at h3 ⊢
        refine ⟨h3.1, (List.nodup_cons.mp h3.2.1).2, fun x hx y hy => h3.2.2 x hx y (List.mem_cons_of_mem _ hy)⟩
      · intro x hx
        refine hmem x ?_
        rcases List.mem_append.mp hx with hx | hx
        · exact List.mem_append_left _ hx
        · exact List.mem_append_right _ (hperm.mem_iff.mpr (List.mem_cons_of_mem _ hx))
end Sp
end
section
set_option Elab.async false
set_option linter.all false
set_option maxRecDepth 100000
set_option maxHeartbeats 4000000
set_option autoImplicit false
local macro_rules | `(tactic| walk_at "go") => `(tactic| repeat first
  | (with_reducible first
     | refine Sp.st_var rfl ?_ | refine Sp.st_c ?_ | refine Sp.st_op ?_ | refine Sp.st_seq ?_ | refine Sp.st_asg ?_ | refine Sp.st_name ?_
     | refine Sp.st_ret ?_ | refine Sp.st_drop ?_ | refine Sp.st_next ?_ | refine Sp.st_if ?_ | refine Sp.st_nx ?_ | refine Sp.st_rt ?_
     | refine Sp.st_cons ?_ | refine Sp.st_nil ?_ | refine Sp.st_cb ?_ | refine Sp.st_call ?_ | refine Sp.st_test ?_ | refine Sp.st_B ?_
     | refine Sp.st_not ?_ | refine Sp.st_and ?_ | refine Sp.st_or ?_ | refine Sp.st_andV ?_ | refine Sp.st_orV ?_ | refine Sp.st_notV ?_
     | refine Sp.st_tif ?_ | refine Sp.st_tup ?_ | refine Sp.st_lst ?_ | refine Sp.st_blx ?_ | refine Sp.st_I0 ?_ | refine Sp.st_U ?_
     | refine Sp.st_eqI ?_ | refine Sp.st_neI ?_ | refine Sp.st_chain ?_ | refine Sp.isiI ?_ | refine Sp.isiB ?_ | refine Sp.isiS ?_
     | refine Sp.st_T rfl ?_ | refine Sp.st_F rfl ?_ | refine Sp.st_lc ?_ | refine Sp.st_iT ?_ | refine Sp.st_iL ?_ | refine Sp.st_iR1 ?_
     | refine Sp.st_iR2 ?_ | refine Sp.st_iET ?_ | refine Sp.st_iZA ?_ | refine Sp.st_iZLT ?_ | refine Sp.st_for ?_ | refine Sp.st_fld ?_
     | refine Sp.st_sfld ?_ | refine Sp.st_prop ?_ | refine Sp.st_meth ?_ | refine Sp.st_make ?_ | refine Sp.st_isN ?_ | refine Sp.st_yes ?_
     | refine Sp.isNI ?_ | refine Sp.notNI ?_ | refine Sp.int1I ?_ | refine Sp.int1B ?_ | refine Sp.min2I ?_ | refine Sp.max2I ?_
     | refine Sp.st_dputN ?_ | refine Sp.st_dgetN ?_ | refine Sp.st_revL ?_ | refine Sp.st_din ?_ | refine Sp.st_dnin ?_ | refine Sp.st_dget ?_ | refine Sp.st_dput ?_ | refine Sp.st_dc ?_ | refine Sp.st_dcN ?_
     | refine Sp.st_sortLam ?_ | refine Sp.st_lc2 ?_ | refine Sp.st_un ?_ | refine Sp.st_lenSet ?_ | refine Sp.st_bm ?_ | refine Sp.st_lenO ?_ | refine Sp.st_sl ?_ | refine Sp.st_part ?_ | refine Sp.st_nopart ?_ | refine Sp.st_intx ?_)
  | ((with_reducible refine Sp.st_wp ?_ ?_); (focus rfl)))
namespace Sp
open PySem PySem.Spec L2

section
variable {T : List (Addr × Str)} {K : Fg} {g : TG} {tt : TT} {te : TE} {vs : List Nat} {σ : L2.St} {H : Hp} {Q : VK} {d c0 c1 : Addr} {k s : Nat}
structure DcP (T : List (Addr × Str)) (K : Fg) (H : Hp) (d c0 c1 : Addr) (k : Nat) (L : Addr) (ds : List D) (H' : Hp) : Prop where
  new : New H L
  eg : Eg T d c0 H H'
  dk : Deck H' d c0 c1 k
  at_ : ∃ ys, H' L = some (.lst ys) ∧ TpAll K H' ys ds
/-- a comprehension over a range, each turn of which draws -/
theorem lcRD {lo : Int} {n : Nat} (R : Nat → List D → Prop) (hz : n ≤ 1000) (hD : Deck H d c0 c1 k) (h0 : R 0 []) (hl : ∀ i ds, i ≤ n → R i ds → ds.length ≤ i)
    (turn : ∀ z H1 ds, z < n → Eg T d c0 H H1 → Deck H1 d c0 c1 (k + z * s) → R z ds → ∀ (Yes : V → Hp → Prop) (No : Hp → Prop), (∀ y H4 x, Eg T d c0 H1 H4 → Deck H4 d c0 c1 (k + z * s + s) → Tp K H4 y x → R (z + 1) (ds ++ [x]) → Yes y H4) →
      g (.int (lo + z)) (wipe σ vs) H1 fun σ2 H2 => wipe σ2 vs = wipe σ vs ∧ tt σ2 H2 fun c H3 => if c = true then te σ2 H3 Yes else No H3)
    (fin : ∀ p H' ys ds, New H p → Eg T d c0 H H' → Deck H' d c0 c1 (k + n * s) → H' p = some (.lst ys) → TpAll K H' ys ds → R n ds → Q (.ref p) H') : LcG (Itr lo n) g tt te vs σ H Q := by
  intro L hL
  refine lc_range (lo := lo) (n := n) (fun i H' => ∃ ds, R i ds ∧ DcP T K H d c0 c1 (k + i * s) L ds H') ⟨[], h0, .of hL, (Ex.new hL).eg, ?_, [], upd_same, .nil⟩ (fun i H' hi p => ?_) (fun H' p => ?_)
  · rw [Nat.zero_mul, Nat.add_zero]
    exact (Ex.new (T := T) hL).deck hD
  · obtain ⟨ds, hR, hn, he, hd, ys, h1, h2⟩ := p
    refine turn i H' ds hi he hd hR _ _ fun y H4 x e4 hd4 hy hR4 => ?_
    have h4 := e4.at h1 (hD.new_d hn) (hD.new_c hn)
    have hl4 : ys.length ≤ i := by rw [h2.len]; exact hl i ds (by omega) hR
    have nt : NoTup H4 L := noTup_of h4
    refine ⟨ys, h4, sz_lt (by omega), ds ++ [x], hR4, hn, (he.trans e4).mut hn (hD.new_d hn) (hD.new_c hn) h4 trivial, ?_, _, upd_same, ((e4.tps hd h2).up nt).app (.one (hy.up nt))⟩
    rw [Nat.succ_mul, ← Nat.add_assoc]
    exact hd4.up (hD.new_d hn) (hD.new_c hn) (hD.new_e hn)
  · obtain ⟨ds, hR, hn, he, hd, ys, h1, h2⟩ := p
    exact fin L H' ys ds hn he hd h1 h2 hR
end
structure NtOk (n : Nat) (l : List (Nat × Nat)) : Prop where
  link : ∀ p ∈ l, p.1 < p.2 ∧ p.2 < n
  nd : l.Nodup
/-- the links found so far -/
structure Fnl (g : Gx) (H : Hp) (d c0 c1 : Addr) (k : Nat) (b : Addr) (bs : List V) (n : Nat) (p : Addr) (H' : Hp) : Prop where
  eg : Eg g.T d c0 H H'
  dk : Deck H' d c0 c1 k
  pb : H' b = some (.lst bs)
  ps : TpAll g.K H' bs ((pairsF n).map eP)
  ne : b ≠ p
  new : New H p
  at_ : ∃ ys fl, H' p = some (.lst ys) ∧ TpAll g.K H' ys (fl.map eP) ∧ NtOk n fl
theorem nodup_map_inj {α β : Type} {f : α → β} (h : ∀ a b, f a = f b → a = b) : ∀ {l : List α}, l.Nodup → (l.map f).Nodup
  | [], _ => List.nodup_nil
  | x :: l, hl => by
    rw [List.nodup_cons] at hl
    rw [List.map_cons, List.nodup_cons]
    refine ⟨fun hm => ?_, nodup_map_inj h hl.2⟩
    obtain ⟨y, hy, e⟩ := List.mem_map.mp hm
    exact hl.1 (h _ _ e ▸ hy)
theorem nodup_of_map {α β : Type} {f : α → β} : ∀ {l : List α}, (l.map f).Nodup → l.Nodup
  | [], _ => List.nodup_nil
  | x :: l, hl => by
    rw [List.map_cons, List.nodup_cons] at hl
    rw [List.nodup_cons]
    exact ⟨fun hm => hl.1 (List.mem_map_of_mem hm), nodup_of_map hl.2⟩
theorem NtOk.nil (n : Nat) : NtOk n [] := ⟨fun p h => (nomatch h), List.nodup_nil⟩
theorem mem_pairsF {n : Nat} {p : Nat × Nat} : p ∈ pairsF n ↔ p.1 < p.2 ∧ p.2 < n := by
  unfold pairsF
  rw [List.mem_flatMap]
  constructor
  · rintro ⟨o, ho, h⟩
    obtain ⟨i, hi, rfl⟩ := List.mem_map.mp h
    exact ⟨List.mem_range.mp hi, List.mem_range.mp ho⟩
  · intro h
    exact ⟨p.2, List.mem_range.mpr h.2, List.mem_map.mpr ⟨p.1, List.mem_range.mpr h.1, rfl⟩⟩
theorem NtOk.len {n : Nat} {l : List (Nat × Nat)} (h : NtOk n l) (hn : n ≤ 7) : l.length ≤ 49 := Nat.le_trans (nodup_len h.nd fun p hp => mem_pairsF.mpr (h.link p hp)) (pairsF_len hn)
theorem pairsF_pos {n : Nat} (h : 2 ≤ n) : 0 < (pairsF n).length := List.length_pos_of_mem (mem_pairsF (p := (0, 1)).mpr ⟨by decide, h⟩)
theorem leP_tr (a b c : Nat × Nat) (h1 : leP a b = true) (h2 : leP b c = true) : leP a c = true := by
  unfold leP at *
  simp only [decide_eq_true_eq] at *
  omega
theorem leP_to (a b : Nat × Nat) : (leP a b || leP b a) = true := by
  unfold leP
  simp only [Bool.or_eq_true, decide_eq_true_eq]
  omega
theorem srtP_idem (l : List (Nat × Nat)) : srtP (srtP l) = srtP l := List.mergeSort_of_pairwise (List.pairwise_mergeSort leP_tr leP_to l)
-- _law_net: slots _law_deck_here 0, _law_limit 1, _law_nodes 2, _law_pairs_here 3, _law_kind 4, _law_found 5, _law_k 6, _law_pair 7; cells ['_law_deck_here']
abbrev s__law_net : Stmt := top 64
abbrev N__law_net : List Str := ["_law_deck_here", "_law_limit", "_law_nodes", "_law_pairs_here", "_law_kind", "_law_found", "_law_k", "_law_pair"]
theorem sc__law_net : FnScope N__law_net ["_law_deck_here", "_law_limit"] (defScope s__law_net) := ⟨rfl, rfl, rfl, by decide +kernel, rfl, by decide +kernel, by decide +kernel⟩
def sp__law_net (g : Gx) : Sp := fun vs H Q _ => ∃ d c0 c1, ∃ k lim : Nat, vs = [.ref d, .int lim] ∧ k ≤ 900000 ∧ 1 ≤ lim ∧ lim ≤ 8 ∧ Deck H d c0 c1 k ∧ ∀ q lb H' ls (n : Nat) (L : List (Nat × Nat)), Eg g.T d c0 H H' → Deck H' d c0 c1 (k + 32) → SqT g.K H' q [.int n, .ref lb] → New H lb → H' lb = some (.lst ls) → TpAll g.K H' ls (L.map eP) → NetOk n L → srtP L = L → Q (.ref q) H'
theorem ok__law_net (g : Gx) (T : Blt g.mg) (Z : Fct g) (C__law_next : Cal g.P g.w g.K g.mg g.base 1 "_law_next" ["_law_deck_here", "_law_many"] (sp__law_next g)) (C__law_pairs : Cal g.P g.w g.K g.mg g.base 1 "_law_pairs" ["_law_nodes"] (sp__law_pairs g))  {f : Addr} {fd : FuncData} (F : Fun g.K "_law_net" "_law_net" s__law_net f fd) : FnOk g.P g.w g.K g.mg g.base CX0 2 f fd ["_law_deck_here", "_law_limit"] (sp__law_net g) := by
  refine F.ok sc__law_net (fun vs H Q E h => ?_) (fun cdv A outer s H vs Q E hr h => ?_)
  · first | (obtain ⟨rfl, _⟩ := h; rfl) | (obtain ⟨_, rfl, _⟩ := h; rfl) | (obtain ⟨_, _, rfl, _⟩ := h; rfl) | (obtain ⟨_, _, _, rfl, _⟩ := h; rfl) | (obtain ⟨_, _, _, _, rfl, _⟩ := h; rfl) | (obtain ⟨_, _, _, _, _, rfl, _⟩ := h; rfl) | (obtain ⟨_, _, _, _, _, _, rfl, _⟩ := h; rfl) | (obtain ⟨_, _, _, _, _, _, _, rfl, _⟩ := h; rfl) | (obtain ⟨_, _, _, _, _, _, _, _, rfl, _⟩ := h; rfl) | (obtain ⟨_, _, _, _, _, _, _, _, _, rfl, _⟩ := h; rfl) | (obtain ⟨_, _, _, _, _, _, _, _, _, _, rfl, _⟩ := h; rfl) | (obtain ⟨_, _, _, _, _, _, _, _, _, _, _, rfl, _⟩ := h; rfl) | (obtain ⟨_, _, _, _, _, _, _, _, _, _, _, _, rfl, _⟩ := h; rfl) | (obtain ⟨_, _, _, _, _, _, _, _, _, _, _, _, _, rfl, _⟩ := h; rfl)
  have hu := room_un hr
  obtain ⟨d, c0, c1, k, lim, rfl, hk, hl1, hl2, hD, kk⟩ := h
  refine ⟨_, (pss_cons (ps_set (i := 2) sc__law_net.nd rfl (Or.inl rfl) (pe_ix (ixW g) (pe_lst (pa_cons (pe_op op_add pe_int (pe_cF C__law_next (hr.mono (by decide)) rfl (pa_cons (pv 0) (pa_cons pe_int pa_nil)))) (pa_cons pe_int (pa_cons pe_int (pa_cons pe_int pa_nil))))) (pe_cF C__law_next (hr.mono (by decide)) rfl (pa_cons (pv 0) (pa_cons pe_int pa_nil))) (fun _ _ => rfl)))
      (pss_cons (ps_par3 (i := 3) (j := 4) (l := 5) rfl sc__law_net.nd rfl rfl rfl (by decide) (by decide) (by decide) rfl rfl rfl (pa_cons (pe_cF C__law_pairs (hr.mono (by decide)) rfl (pa_cons (pv 2) pa_nil)) (pa_cons (pe_cF C__law_next (hr.mono (by decide)) rfl (pa_cons (pv 0) (pa_cons pe_int pa_nil))) (pa_cons (pe_lst pa_nil) pa_nil))) rfl)
      (pss_cons (ps_if (PW.pt (pw_and (pt_cmpR op_eq (pv 4) pe_int (nomark _)) (pw_and1 (pt_cmpR op_gt (pv 2) pe_int (nomark _))))) (pss_one (ps_set (i := 5) sc__law_net.nd rfl (Or.inl rfl) (pe_op op_cat (pe_lc (own := [("_law_k", 6)]) rfl sc__law_net.nd (pi_range1 (by rfl) T.b_range (pa_cons (pe_op op_sub (pv 2) pe_int) pa_nil)) (blkOk_by rfl) (fun _ _ _ _ _ => pg_name (i := 6) sc__law_net.nd rfl (Or.inl rfl)) (fun _ _ _ _ _ => pts_nil) (fun _ _ _ _ _ => (pe_tup (pa_cons (pv 6) (pa_cons (pe_op op_add (pv 6) pe_int) pa_nil))))) (pe_lst (pa_cons (pe_tup (pa_cons pe_int (pa_cons (pe_op op_sub (pv 2) pe_int) pa_nil))) pa_nil))))) pss_nil)
      (pss_cons (ps_if (pt_cmpR op_eq (pv 4) pe_int (nomark _)) (pss_one (ps_setLc (i := 5) (own := [("_law_k", 6)]) rfl sc__law_net.nd rfl rfl (sw_true rfl rfl rfl (by decide +kernel)) (pi_range2 (by rfl) T.b_range (pa_cons pe_int (pa_cons (pv 2) pa_nil))) (blkOk_by rfl) (fun _ _ _ _ _ => pg_name (i := 6) sc__law_net.nd rfl (Or.inl rfl)) (fun _ _ _ _ _ => pts_nil) (fun _ _ _ _ _ => (pe_tup (pa_cons (pe_cF C__law_next (hr.mono (by decide)) rfl (pa_cons (pv 0) (pa_cons (pv 6) pa_nil))) (pa_cons (pv 6) pa_nil)))))) pss_nil)
      (pss_cons (ps_for PassesOwn.never rfl (pi_range1 (by rfl) T.b_range (pa_cons (pe_op op_mul (pe_ix (ixW g) (pe_lst (pa_cons (pv 1) (pa_cons (pe_cF C__law_next (hr.mono (by decide)) rfl (pa_cons (pv 0) (pa_cons (pe_op op_add (pv 1) pe_int) pa_nil))) pa_nil))) (pe_cF C__law_next (hr.mono (by decide)) rfl (pa_cons (pv 0) (pa_cons pe_int pa_nil))) (fun _ _ => rfl)) (pe_callTy int1W (by rfl) T.b_int boot_t_int (pa_cons (pe_cmpR op_gt (pv 2) pe_int (nomark _)) pa_nil))) pa_nil)) (pg_name (i := 6) sc__law_net.nd rfl (Or.inl rfl)) (pss_cons (ps_set (i := 7) sc__law_net.nd rfl (Or.inl rfl) (pe_ix (ixW g) (pv 3) (pe_cF C__law_next (hr.mono (by decide)) rfl (pa_cons (pv 0) (pa_cons (pe_callB (lenW g) (by rfl) T.b_len boot_f_len (pa_cons (pv 3) pa_nil)) pa_nil))) (fun _ _ => rfl)))
      (pss_one (ps_if (pt_cmpR (ninDW g hu) (pv 7) (pv 5) rfl) (pss_one (ps_expr (bmW g PySem.F.plainAttrs_list PySem.F.slot_list_append PySem.F.type_list_append mt_append (pv 5) (pa_cons (pv 7) pa_nil)))) pss_nil))))
      (pss_one (ps_ret (pe_tup (pa_cons (pv 2) (pa_cons (pe_callB (sortedDW g hu) (by rfl) T.b_sorted boot_f_sorted (pa_cons (pe_slice (slLW g) (pv 5) po_none (po_some (pv 1))) pa_nil)) pa_nil)))))))))), ?_⟩
  walk_at "go"
  refine ⟨d, c0, c1, 7, k, rfl, ⟨by decide, by decide⟩, by omega, hD, fun r0 H1 e1 hD1 hr0 => ?_⟩
  walk_at "go"
  refine ⟨szr rfl, fun p0 hp0 => ?_⟩
  have e2 : Ex g.T H1 (upd H1 p0 (.lst [.int (1 + r0), .int 4, .int 5, .int 7])) := .new hp0
  have hp1 : (upd H1 p0 (.lst [.int (1 + (r0 : Int)), .int 4, .int 5, .int 7])) p0 = some (.lst [.int (1 + r0), .int 4, .int 5, .int 7]) := upd_same
  have hD2 := e2.deck hD1
  have e12 := e1.then e2
  generalize upd H1 p0 (.lst [.int (1 + (r0 : Int)), .int 4, .int 5, .int 7]) = H2 at hp1 hD2 e12
  walk_at "go"
  refine ⟨d, c0, c1, 4, _, rfl, ⟨by decide, by decide⟩, by omega, hD2, fun r1 H3 e3 hD3 hr1 => ?_⟩
  have np0 : New H p0 := e1.new hD1 (.of hp0)
  have hp3 := e3.keep hp1 (hD.new_d np0) (hD.new_c np0)
  obtain ⟨n, hn1, hn2, hat⟩ : ∃ n : Nat, 1 ≤ n ∧ n ≤ 7 ∧ atI [V.int (1 + (r0 : Int)), .int 4, .int 5, .int 7] (r1 : Int) = some (.int n) := by
    match r1, hr1 with
    | 0, _ => exact ⟨1 + r0, by omega, by omega, by rw [show ((1 + r0 : Nat) : Int) = 1 + (r0 : Int) by omega]; rfl⟩
    | 1, _ => exact ⟨4, by decide, by decide, rfl⟩
    | 2, _ => exact ⟨5, by decide, by decide, rfl⟩
    | 3, _ => exact ⟨7, by decide, by decide, rfl⟩
  refine st_ixL (.of hp3) hat ?_
  have e13 := e12.trans e3
  walk_at "go"
  refine st_par3 ?_
  walk_at "go"
  refine ⟨n, rfl, hn2, fun pb H4 ps npb e4 hpb hps => ?_⟩
  walk_at "go"
  refine ⟨d, c0, c1, 4, _, rfl, ⟨by decide, by decide⟩, by omega, e4.deck hD3, fun kind H5 e5 hD5 hkind => ?_⟩
  walk_at "go"
  have nb : New H pb := e13.new hD3 npb
  have nb1 := hD.new_d nb
  have nb2 := hD.new_c nb
  have hpb5 := e5.keep hpb nb1 nb2
  have hps5 := e5.tps (e4.deck hD3) hps
  have e15 := (e13.then e4).trans e5
  have hpl : ps.length = (pairsF n).length := by rw [hps.len, List.length_map]
  have hpf := pairsF_len hn2
  apply cut_cont (Fnl g H d c0 c1 (k + 9) pb ps n)
  · intro go2
    apply cut_cont (Fnl g H d c0 c1 (k + 3) pb ps n)
    · intro go
      refine ⟨Nat.zero_le _, fun f0 hf0 => ?_⟩
      walk_at "go"
      refine ⟨_, _, _, rfl, ?_⟩
      walk_at "go"
      have e6 : Ex g.T H5 (upd H5 f0 (.lst [])) := .new hf0
      have nf0 : New H f0 := e15.new hD5 (.of hf0)
      have f6 : Fnl g H d c0 c1 (k + 3) pb ps n f0 (upd H5 f0 (.lst [])) := ⟨e15.then e6, e6.deck hD5, e6.at hpb5, e6.tps hps5, (fun z => by rw [← z, hpb5] at hf0; cases hf0), nf0, [], [], upd_same, .nil, .nil n⟩
      generalize upd H5 f0 (.lst []) = H6 at f6
      by_cases hk0 : kind = 0
      case neg =>
        refine st_F (decide_eq_false (by omega)) ?_
        walk_at "go"
        exact go f0 H6 f6
      refine st_T (decide_eq_true (by omega)) ?_
      walk_at "go"
      by_cases h2 : 2 < n
      case neg =>
        refine st_F (decide_eq_false (by omega)) ?_
        walk_at "go"
        exact go f0 H6 f6
      refine st_T (decide_eq_true (by omega)) ?_
      walk_at "go"
      refine ⟨(n : Int) - 1, rfl, by omega, by omega, ?_⟩
      rw [show ((n : Int) - 1).toNat = n - 1 by omega]
      refine lcR (T := g.T) (K := g.K) (fun _ => true) (fun i => eP (i, i + 1)) (by omega) (fun z H7 hz e7 => ?_) fun p1 H7 zs np1 e7 hp1 hy => ?_
      · intro Yes No hY hN
        rw [Int.zero_add]
        walk_at "go"
        exact ⟨szr rfl, fun q3 hq3 => hY rfl _ _ (.new hq3) (.tup (.of upd_same) (.cons (.int _) (.cons (.int (z + 1 : Nat)) .nil)))⟩
      rw [List.filter_eq_self.mpr (fun _ _ => rfl)] at hy
      walk_at "go"
      refine ⟨szr rfl, fun q hq => ?_⟩
      walk_at "go"
      refine ⟨szr rfl, fun q2 hq2 => ?_⟩
      have e8 : Ex g.T H7 (upd H7 q (.tup [.int 0, .int ((n : Int) - 1)])) := .new hq
      have e9 : Ex g.T (upd H7 q (.tup [.int 0, .int ((n : Int) - 1)])) (upd (upd H7 q (.tup [.int 0, .int ((n : Int) - 1)])) q2 (.lst [.ref q])) := .new hq2
      have hone : Tp g.K (upd (upd H7 q (.tup [.int 0, .int ((n : Int) - 1)])) q2 (.lst [.ref q])) (.ref q) (eP (0, n - 1)) := by
        refine Tp.up (.tup (.of upd_same) (.cons (.int _) (.cons ?_ .nil))) (noTup_none hq2)
        rw [show (n : Int) - 1 = ((n - 1 : Nat) : Int) by omega]
        exact .int _
      have e79 := e8.trans e9
      have hq2' : (upd (upd H7 q (.tup [.int 0, .int ((n : Int) - 1)])) q2 (.lst [.ref q])) q2 = some (.lst [.ref q]) := upd_same
      generalize upd (upd H7 q (.tup [.int 0, .int ((n : Int) - 1)])) q2 (.lst [.ref q]) = H9 at hone e79 hq2'
      refine catL (e79.at hp1) hq2' (by rw [hy.len, List.length_map, List.length_range]; show n - 1 + 1 ≤ _; omega) fun p2 hp2 => ?_
      have e610 : Ex g.T H6 (upd H9 p2 (.lst (zs ++ [.ref q]))) := (e7.trans e79).trans (.new hp2)
      have f10 : Fnl g H d c0 c1 (k + 3) pb ps n p2 (upd H9 p2 (.lst (zs ++ [.ref q]))) := by
        refine ⟨f6.eg.then e610, e610.deck f6.dk, e610.at f6.pb, e610.tps f6.ps, (fun z => by rw [← z, (e7.trans e79).at f6.pb] at hp2; cases hp2), (f6.eg.then (e7.trans e79)).new ((e7.trans e79).deck f6.dk) (.of hp2), zs ++ [.ref q], (List.range (n - 1)).map (fun i => (i, i + 1)) ++ [(0, n - 1)], upd_same, ?_, ?_⟩
        · rw [List.map_append, List.map_map]
          exact ((e79.tps hy).app (.one hone)).up (noTup_none hp2)
        · refine ⟨fun x hx => ?_, ?_⟩
          · rcases List.mem_append.mp hx with hx | hx
            · obtain ⟨i, hi, rfl⟩ := List.mem_map.mp hx
              have := List.mem_range.mp hi
              exact ⟨Nat.lt_succ_self _, by omega⟩
            · rw [List.mem_singleton.mp hx]
              exact ⟨by omega, by omega⟩
          · rw [List.nodup_append]
            refine ⟨?_, nd1 _, fun x hx y hy e => ?_⟩
            · exact nodup_map_inj (fun a b e => (Prod.mk.inj e).1) List.nodup_range
            · obtain ⟨i, hi, rfl⟩ := List.mem_map.mp hx
              rw [List.mem_singleton.mp hy] at e
              have e1 := (Prod.mk.inj e).1
              have e2 := (Prod.mk.inj e).2
              omega
      generalize upd H9 p2 (.lst (zs ++ [.ref q])) = H10 at f10
      walk_at "go"
      exact go p2 H10 f10
    · intro p6 H6 f6
      by_cases hk0 : kind = 1
      case neg =>
        refine st_F (decide_eq_false (by omega)) ?_
        walk_at "go"
        exact go2 p6 H6 { f6 with dk := f6.dk.le (by omega) }
      refine st_T (decide_eq_true (by omega)) ?_
      walk_at "go"
      refine ⟨1, n, rfl, ⟨by omega, by omega, by omega, by omega⟩, ?_⟩
      rw [show ((n : Int) - 1).toNat = n - 1 by omega]
      refine lcRD (T := g.T) (K := g.K) (s := 1) (fun i ds => ∃ fl : List (Nat × Nat), ds = fl.map eP ∧ fl.map (·.2) = (List.range i).map (· + 1) ∧ ∀ x ∈ fl, x.1 < x.2) (by omega) f6.dk ⟨[], rfl, rfl, fun x h => (nomatch h)⟩ (fun i ds hi h => ?_) (fun z H7 ds hz e7 hD7 hR Yes No hY => ?_) fun p1 H7 zs ds np1 e7 hD7 hp1 hy hR => ?_
      · obtain ⟨fl, rfl, h2, _⟩ := h
        have := congrArg List.length h2
        rw [List.length_map, List.length_map, List.length_range] at this
        rw [List.length_map]
        omega
      · have hz1 : (1 : Int) + (z : Int) = ((z + 1 : Nat) : Int) := by omega
        rw [hz1]
        walk_at "go"
        refine ⟨d, c0, c1, z + 1, _, rfl, ⟨by omega, by omega⟩, by omega, hD7, fun r H8 e8 hD8 hr => ?_⟩
        walk_at "go"
        refine ⟨szr rfl, fun q hq => ?_⟩
        have e9 : Ex g.T H8 (upd H8 q (.tup [.int r, .int (z + 1 : Nat)])) := .new hq
        obtain ⟨fl, rfl, h2, h3⟩ := hR
        refine hY _ _ (eP (r, z + 1)) (e8.then e9) (e9.deck hD8) (.tup (.of upd_same) (.cons (.int _) (.cons (.int _) .nil))) ⟨fl ++ [(r, z + 1)], by rw [List.map_append]; rfl, by rw [List.map_append, h2, List.range_succ, List.map_append]; rfl, fun x hx => ?_⟩
        rcases List.mem_append.mp hx with hx | hx
        · exact h3 x hx
        · rw [List.mem_singleton.mp hx]; exact hr
      obtain ⟨fl, rfl, h2, h3⟩ := hR
      walk_at "go"
      have np : New H p1 := f6.eg.new f6.dk np1
      refine go2 p1 H7 ⟨f6.eg.trans e7, hD7.le (by omega), e7.keep f6.pb nb1 nb2, e7.tps f6.dk f6.ps, (fun z => by obtain ⟨ps', e⟩ := np1 _ (by rw [← z]; exact f6.pb); cases e), np, zs, fl, hp1, hy, fun x hx => ⟨h3 x hx, ?_⟩, ?_⟩
      · have : x.2 ∈ (List.range (n - 1)).map (· + 1) := by rw [← h2]; exact List.mem_map_of_mem hx
        obtain ⟨i, hi, e⟩ := List.mem_map.mp this
        have := List.mem_range.mp hi
        omega
      · refine nodup_of_map (f := fun x : Nat × Nat => x.2) ?_
        rw [h2]
        exact nodup_map_inj (fun a b e => by omega) List.nodup_range
  rintro p6 H6 ⟨eg6, dk6, pb6, ps6, ne6, new6, ys, fl, hp6, hys, hfl⟩
  refine ⟨d, c0, c1, lim + 1, _, rfl, ⟨by omega, by omega⟩, by omega, dk6, fun r2 H7 e7 hD7 hr2 => ?_⟩
  walk_at "go"
  refine ⟨szr rfl, fun q0 hq0 => ?_⟩
  have e8 : Ex g.T H7 (upd H7 q0 (.lst [.int lim, .int r2])) := .new hq0
  have hq8 : (upd H7 q0 (.lst [.int lim, .int r2])) q0 = some (.lst [.int lim, .int r2]) := upd_same
  have hD8 := e8.deck hD7
  have e68 := e7.then e8
  generalize upd H7 q0 (.lst [.int lim, .int r2]) = H8 at hq8 hD8 e68
  have nq0 : New H q0 := (eg6.trans e7).new hD7 (.of hq0)
  walk_at "go"
  refine ⟨d, c0, c1, 2, _, rfl, ⟨by decide, by decide⟩, by omega, hD8, fun r3 H9 e9 hD9 hr3 => ?_⟩
  have hq9 := e9.keep hq8 (hD.new_d nq0) (hD.new_c nq0)
  obtain ⟨m0, hm0, hat2⟩ : ∃ m : Nat, m ≤ 8 ∧ atI [V.int (lim : Int), .int r2] (r3 : Int) = some (.int m) := by
    match r3, hr3 with
    | 0, _ => exact ⟨lim, hl2, rfl⟩
    | 1, _ => exact ⟨r2, by omega, rfl⟩
  refine st_ixL (.of hq9) hat2 ?_
  walk_at "go"
  obtain ⟨m, hm, hmn, hme⟩ : ∃ m : Nat, m ≤ 8 ∧ (0 < m → 2 ≤ n) ∧ (m0 : Int) * (if (decide ((1 : Int) < n)) = true then 1 else 0) = m := by
    by_cases h : 1 < n
    · rw [if_pos (decide_eq_true (by omega))]
      exact ⟨m0, hm0, fun _ => h, by omega⟩
    · rw [if_neg (by rw [decide_eq_true_eq]; omega)]
      exact ⟨0, Nat.zero_le _, fun h => (nomatch h), by omega⟩
  refine st_I (.inl ⟨by omega, by omega⟩) ?_
  rw [hme]
  walk_at "go"
  refine ⟨m, rfl, by omega, by omega, ?_⟩
  rw [Int.toNat_natCast]
  have e69 := e68.trans e9
  have n61 := hD.new_d new6
  have n62 := hD.new_c new6
  have n63 := hD.new_e new6
  refine forR (fun i σ H1 => Fnl g H d c0 c1 (k + 11 + i) pb ps n p6 H1 ∧ ∃ x6 x7, σ = [some (.ref d), some (.int lim), some (.int n), some (.ref pb), some (.int kind), some (.ref p6), x6, x7])
    ⟨⟨eg6.trans e69, hD9, e69.keep pb6 nb1 nb2, e69.tps dk6 ps6, ne6, new6, ys, fl, e69.keep hp6 n61 n62, e69.tps dk6 hys, hfl⟩, _, _, rfl⟩ (fun i σ H1 hi p => ?_) (fun σ H1 p => ?_)
  · obtain ⟨⟨eg, dk, pb1, ps1, ne1, _, ys, fl, hp, hys, hfl⟩, x6, x7, rfl⟩ := p
    have hn3 := hmn (by omega)
    have hpp := pairsF_pos hn3
    rw [Int.zero_add]
    walk_at "go"
    refine lenL (.of pb1) ?_
    walk_at "go"
    refine ⟨d, c0, c1, ps.length, _, rfl, ⟨by omega, by omega⟩, by omega, dk, fun r H2 e2 hD2 hr => ?_⟩
    have pb2 := e2.keep pb1 nb1 nb2
    have ps2 := e2.tps dk ps1
    have hp2 := e2.keep hp n61 n62
    have hys2 := e2.tps dk hys
    obtain ⟨z, hz⟩ : ∃ z, (pairsF n)[r]? = some z := ⟨_, List.getElem?_eq_getElem (by omega)⟩
    obtain ⟨y, hy1, hy2⟩ := ps2.get (i := r) (d := eP z) (by rw [List.getElem?_map, hz]; rfl)
    have hzm := mem_pairsF.mp (List.mem_of_getElem? hz)
    refine st_ixL (.of pb2) (atI_nat hy1) ?_
    walk_at "go"
    refine ⟨_, _, hy2.dp, .lst (.of hp2) (TpAll.dps hys2), shp1 (eP_pur _) (eP_depth _) (by decide), shp_list (f := eP) 1 eP_pur eP_depth (by decide), ?_⟩
    have hfll := hfl.len hn2
    by_cases hm : z ∈ fl
    · have h0 := any_in (f := eP) (eP_pur z) hm
      rw [h0]
      refine ⟨_, rfl, ?_⟩
      refine st_F rfl ?_
      walk_at "go"
      exact ⟨⟨eg.trans e2, hD2, pb2, ps2, ne1, new6, ys, fl, hp2, hys2, hfl⟩, _, _, rfl⟩
    · have h0 := any_nin (f := eP) eP_pur eP_inj hm
      rw [h0]
      refine ⟨_, rfl, ?_⟩
      refine st_T rfl ?_
      walk_at "go"
      refine ⟨tyL (.of hp2), ?_⟩
      walk_at "go"
      refine appendL hp2 (by rw [hys.len, List.length_map]; omega) ?_
      walk_at "go"
      have nt := noTup_of hp2
      refine ⟨⟨(eg.trans e2).mut new6 n61 n62 hp2 trivial, hD2.up n61 n62 n63, by rw [upd_ne ne1]; exact pb2, ps2.up nt, ne1, new6, _, fl ++ [z], upd_same, ?_, ?_⟩, _, _, rfl⟩
      · rw [List.map_append]
        exact (hys2.up nt).app (.one (hy2.up nt))
      · refine ⟨fun x hx => ?_, ?_⟩
        · rcases List.mem_append.mp hx with hx | hx
          · exact hfl.link x hx
          · rw [List.mem_singleton.mp hx]; exact hzm
        · rw [List.nodup_append]
          exact ⟨hfl.nd, nd1 _, fun x hx y hy e => hm (by rw [← List.mem_singleton.mp hy, ← e]; exact hx)⟩
  · obtain ⟨⟨eg, dk, pb1, ps1, ne1, _, ys, fl, hp, hys, hfl⟩, x6, x7, rfl⟩ := p
    walk_at "go"
    refine ⟨p6, ys, rfl, .of hp, fun s1 hs1 => ?_⟩
    rw [cut_to]
    have e2 : Ex g.T H1 (upd H1 s1 (.lst (ys.take lim))) := .new hs1
    have htk : TpAll g.K (upd H1 s1 (.lst (ys.take lim))) (ys.take lim) ((fl.take lim).map eP) := by
      rw [List.map_take]
      exact (hys.take lim).up (noTup_none hs1)
    have hs1' : (upd H1 s1 (.lst (ys.take lim))) s1 = some (.lst (ys.take lim)) := upd_same
    generalize upd H1 s1 (.lst (ys.take lim)) = H2 at e2 htk hs1'
    walk_at "go"
    refine sortLP (.of hs1') htk fun s2 zs hs2 hzs => ?_
    have hok : NetOk n (srtP (fl.take lim)) := by
      refine NetOk.srt ⟨hn1, hn2, ?_, fun p hp => hfl.link p (List.mem_of_mem_take hp), (List.take_sublist _ _).nodup hfl.nd⟩
      have := List.length_take_le lim fl
      omega
    have e3 : Ex g.T H2 (upd H2 s2 (.lst zs)) := .new hs2
    have ns2 : New H s2 := (eg.then e2).new (e2.deck dk) (.of hs2)
    have hs2' : (upd H2 s2 (.lst zs)) s2 = some (.lst zs) := upd_same
    generalize upd H2 s2 (.lst zs) = H3 at hzs e3 hs2'
    walk_at "go"
    refine ⟨szr rfl, fun q hq => ?_⟩
    have e4 : Ex g.T H3 (upd H3 q (.tup [.int n, .ref s2])) := .new hq
    exact kk q s2 _ zs n (srtP (fl.take lim)) (((eg.then e2).then e3).then e4) ((e4.deck (e3.deck (e2.deck dk))).le (by omega)) (.of upd_same) ns2 (e4.at hs2') (e4.tps hzs) hok (srtP_idem _)
end Sp
end
section
set_option Elab.async false
set_option linter.all false
set_option maxRecDepth 100000
set_option maxHeartbeats 4000000
set_option autoImplicit false
/-! Sp: t[::-1] of a tuple. -/
namespace Sp
open PySem PySem.Spec PyProof.Rows L2 HT
section
variable {prog : Program} {w : World} {A : Around} {E : Value → Shared → Prop} {s : Shared}
theorem sliceApplied_rev {sl : Addr} {vs : Value} {n : Nat} {Q : Int × Int × Nat → Shared → Prop} (hs : s.heap.IsSliceOf sl .none .none vs) (ps : IsPart vs (some (-1)))
    (h : Q ((n : Int) - 1, -1, n) s) : wpAny (model prog w) A (Builtin.Slice.sliceApplied (.ref sl) (pure (n : Int))) Q E s := by
  obtain ⟨os, hos, hcs, hds⟩ := id hs
  unfold Builtin.Slice.sliceApplied Builtin.Slice.sliceFields
  refine wpAny_bind (wpAny_bind (wpAny_field hos hds (x := .none) rfl (wpAny_bind (wpAny_field hos hds (x := .none) rfl (wpAny_bind (wpAny_field hos hds (x := vs) rfl (wpAny_pure ?_)))))))
  refine wpAny_bind (slicePart_ ps ?_)
  show wpAny _ _ (if ((-1 : Int) == 0) = true then _ else _) _ _ s
  rw [if_neg (by decide)]
  refine wpAny_bind (slicePart_ .none (wpAny_bind (slicePart_ .none (wpAny_bind (wpAny_pure ?_)))))
  have e : Builtin.Slice.slicePlaces ((n : Int) - 1) (-1) (-1) = n := by
    unfold Builtin.Slice.slicePlaces
    rw [if_neg (by decide)]
    by_cases hn : (n : Int) - 1 > -1
    · rw [if_pos hn, show (- -1 : Int) = 1 by decide, Int.ediv_one]
      omega
    · rw [if_neg hn]
      omega
  show wpAny _ _ (pure ((n : Int) - 1, (-1 : Int), Builtin.Slice.slicePlaces ((n : Int) - 1) (-1) (-1))) _ _ s
  rw [e]
  exact wpAny_pure h
theorem pick_rev (xs : Array Value) : ((List.range xs.size).filterMap fun (m : Nat) => xs[((xs.size : Int) - 1 + (m : Int) * (-1)).toNat]?).toArray = xs.toList.reverse.toArray := by
  rw [← PySem.W.krv_pick]
  unfold slicePick
  rw [PySem.W.krv_bounds]
  show _ = ((sliceRange ((xs.size : Int) - 1) (-1) (-1)).filterMap (xs[·]?)).toArray
  rw [PySem.W.krv_sliceRange, List.filterMap_map]
  congr 2
  funext m
  show _ = xs[xs.size - 1 - m]?
  congr 1
  omega
theorem getItem_tuple_rev {t sl : Addr} {items : Array Value} {vs : Value} {Q : Value → Shared → Prop} (ht : IsTup s.heap t items) (hs : s.heap.IsSliceOf sl .none .none vs) (ps : IsPart vs (some (-1)))
    (h : Q (.ref s.heap.objs.size) { s with heap := s.heap.push { cls := .type "tuple", data := .seq items.toList.reverse.toArray } })
    (hsz : items.size ≤ sizeLine) : wpAny (model prog w) A (getItem (.ref t) (.ref sl)) Q E s := by
  have htake : sizeOk (.seq items.toList.reverse.toArray) := by
    show items.toList.reverse.toArray.size ≤ sizeLine
    rw [List.size_toArray, List.length_reverse, Array.length_toList]
    exact hsz
  obtain ⟨os, hos, hcs, hds⟩ := id hs
  have hTs : s.TypeIs (.ref sl) "slice" := ⟨os, hos, hcs⟩
  unfold getItem
  try with_reducible refine wpAny_holding ?_
  first | refine wpAny_bind (wpAny_pure ?_) | skip
  refine wpAny_bind (wpAny_sequenceKey ht.typeIs (by decide) ?_)
  refine wpAny_bind (wpAny_callSpecial?_slot (name := Str.ofString "__getitem__") ht.typeIs PyProof.Rows.slot_tuple_getitem
    (wpAny_call_entry PyProof.Rows.slot_tuple_getitem ht.typeIs entry_tuple_getitem ?_ (args_tuple_getitem _ _)))
  show wpAny _ _ (Builtin.Tuple.tupleItemsOf (.ref t) >>= _) _ _ s
  refine wpAny_bind (tupleItemsOf_ ht ?_)
  refine wpAny_bind (wpAny_typeOf hTs ?_)
  rw [if_pos (by decide)]
  refine wpAny_bind (sliceApplied_rev hs ps ?_)
  have hno : ¬ (((((items.size : Int) - 1) == 0 && (-1 : Int) == 1) && (items.size == items.size)) = true) := by
    intro q
    rw [Bool.and_eq_true, Bool.and_eq_true] at q
    exact absurd q.1.2 (by decide)
  show wpAny _ _ (if ((((items.size : Int) - 1) == 0 && (-1 : Int) == 1) && (items.size == items.size)) = true then _ else _) _ _ s
  rw [if_neg hno, pick_rev]
  first
    | exact wpAny_bind (m := Builtin.Tuple.tupleExact _) (wpAny_newObj_type (wpAny_pure ⟨_, rfl, wpAny_pure h⟩) htake)
    | exact wpAny_bind (m := Builtin.Tuple.tupleExact _) (wpAny_newObj_type (wpAny_bind (wpAny_pure (wpAny_pure ⟨_, rfl, wpAny_pure h⟩))) htake)
    | exact wpAny_bind (wpAny_bind (m := Builtin.Tuple.tupleExact _) (wpAny_newObj_type (wpAny_pure (wpAny_pure ⟨_, rfl, wpAny_pure h⟩)) htake))
    | exact wpAny_bind (wpAny_bind (m := Builtin.Tuple.tupleExact _) (wpAny_newObj_type (wpAny_pure ⟨_, rfl, wpAny_pure h⟩) htake))
end
def tRevT (K : Fg) (te : TE) : TE := fun σ H Q => te σ H fun x H1 => ∃ a xs, x = .ref a ∧ SqT K H1 a xs ∧ ∀ p, H1 p = none → Q (.ref p) (upd H1 p (.tup xs.reverse))
theorem pe_revT {X : Cx} {e : Expr} {te : TE} {k : Nat} {p1 p2 p3 pos : Pos} (he : PE X e te) : PE X (.Subscript e (.Slice none none (some (.UnaryOp .USub (.Constant (.int 1) k p1) p2)) p3) pos) (tRevT X.K te) := by
  refine ⟨fun pins s σ H Q I h => ?_⟩
  refine Subscript_ (thn (he.run pins s σ H _ I h) fun v s1 ⟨x, H1, I1, r1, q1⟩ => ?_)
  obtain ⟨a, xs, ex, hx, q⟩ := q1
  subst ex
  cases r1
  have hst : PO X (some (.UnaryOp .USub (.Constant (.int 1) k p1) p2)) (tPart (tUn (rU fun i => .int (-i)) (tC (.int 1)))) := po_some (pe_un un_neg pe_int)
  refine wpAny_Slice (thn (po_none.run pins s1 σ H1 (fun o H2 => o = none ∧ H2 = H1) I1 ⟨rfl, rfl⟩) fun vl s2 ⟨l, H2, I2, pl, el, e2⟩ => ?_)
  subst el e2
  refine thn (po_none.run pins s2 σ H2 (fun o H3 => o = none ∧ H3 = H2) I2 ⟨rfl, rfl⟩) fun vu s3 ⟨u, H3, I3, pu, eu, e3⟩ => ?_
  subst eu e3
  refine thn (hst.run pins s3 σ H3 (fun o H4 => o = some (-1) ∧ H4 = H3) I3 ⟨1, rfl, -1, rfl, rfl, rfl⟩) fun vs s4 ⟨o, H4, I4, ps, eo, e4⟩ => ?_
  subst eo e4
  cases pl
  cases pu
  have I5 : Inv X pins σ H4 { s4 with heap := s4.heap.push { cls := .type "slice", data := .fields #[.none, .none, vs] } } := I4.kept (t' := s4.toks) fun b ob q => Heap.get?_push_of_some _ q
  obtain ⟨its, r, ht, hz⟩ := I5.tuple hx
  have hlen := r.length
  show wpAny (model X.prog X.w) X.A (subscriptTail e (.Slice none none (some (.UnaryOp .USub (.Constant (.int 1) k p1) p2)) p3) (.ref a) (.ref s4.heap.objs.size)) (EP X pins σ Q) X.xe { s4 with heap := s4.heap.push { cls := .type "slice", data := .fields #[.none, .none, vs] } }
  refine tail_any (ops := [.ref a, .ref s4.heap.objs.size]) ht.typeIs PyProof.Rows.slot_tuple_getitem.lookup ?_ (by with_unfolding_all rfl)
  refine getItem_tuple_rev ht (Heap.IsSliceOf.new _ .none .none vs) ps ?_ (by rw [List.size_toArray]; omega)
  refine ⟨.ref _, _, I5.laid (t' := s4.toks) (o := .tup xs.reverse) (fun b ob q => Heap.get?_push_of_some _ q) (Nat.le_refl _) ?_, rfl, q _ (I5.hok.fresh (Nat.le_refl _))⟩
  exact ⟨by rw [List.length_reverse]; exact hz, _, r.reverse, IsTup.new _ _⟩
theorem revTW {X : Cx} (g : Gx) {e : Expr} {te : TE} {k : Nat} {p1 p2 p3 pos : Pos} (he : PE X e te) (h : X.K = g.K := by rfl) : PE X (.Subscript e (.Slice none none (some (.UnaryOp .USub (.Constant (.int 1) k p1) p2)) p3) pos) (tRevT g.K te) := h ▸ pe_revT he
theorem st_revT {K : Fg} {te : TE} {σ : L2.St} {H : Hp} {Q : VK} (q : te σ H fun x H1 => ∃ a xs, x = .ref a ∧ SqT K H1 a xs ∧ ∀ p, H1 p = none → Q (.ref p) (upd H1 p (.tup xs.reverse))) : tRevT K te σ H Q := q
theorem TpAll.rev {K : Fg} {H : Hp} : ∀ {xs : List V} {ds : List D}, TpAll K H xs ds → TpAll K H xs.reverse ds.reverse
  | _, _, .nil => .nil
  | _, _, .cons h1 h2 => by
    rw [List.reverse_cons, List.reverse_cons]
    exact (TpAll.rev h2).app (.one h1)
end Sp
end
section
set_option Elab.async false
set_option linter.all false
set_option maxRecDepth 100000
set_option maxHeartbeats 4000000
set_option autoImplicit false
local macro_rules | `(tactic| walk_at "go") => `(tactic| repeat first
  | (with_reducible first
     | refine Sp.st_var rfl ?_ | refine Sp.st_c ?_ | refine Sp.st_op ?_ | refine Sp.st_seq ?_ | refine Sp.st_asg ?_ | refine Sp.st_name ?_
     | refine Sp.st_ret ?_ | refine Sp.st_drop ?_ | refine Sp.st_next ?_ | refine Sp.st_if ?_ | refine Sp.st_nx ?_ | refine Sp.st_rt ?_
     | refine Sp.st_cons ?_ | refine Sp.st_nil ?_ | refine Sp.st_cb ?_ | refine Sp.st_call ?_ | refine Sp.st_test ?_ | refine Sp.st_B ?_
     | refine Sp.st_not ?_ | refine Sp.st_and ?_ | refine Sp.st_or ?_ | refine Sp.st_andV ?_ | refine Sp.st_orV ?_ | refine Sp.st_notV ?_
     | refine Sp.st_tif ?_ | refine Sp.st_tup ?_ | refine Sp.st_lst ?_ | refine Sp.st_blx ?_ | refine Sp.st_I0 ?_ | refine Sp.st_U ?_
     | refine Sp.st_eqI ?_ | refine Sp.st_neI ?_ | refine Sp.st_chain ?_ | refine Sp.isiI ?_ | refine Sp.isiB ?_ | refine Sp.isiS ?_
     | refine Sp.st_T rfl ?_ | refine Sp.st_F rfl ?_ | refine Sp.st_lc ?_ | refine Sp.st_iT ?_ | refine Sp.st_iL ?_ | refine Sp.st_iR1 ?_
     | refine Sp.st_iR2 ?_ | refine Sp.st_iET ?_ | refine Sp.st_iZA ?_ | refine Sp.st_iZLT ?_ | refine Sp.st_for ?_ | refine Sp.st_fld ?_
     | refine Sp.st_sfld ?_ | refine Sp.st_prop ?_ | refine Sp.st_meth ?_ | refine Sp.st_make ?_ | refine Sp.st_isN ?_ | refine Sp.st_yes ?_
     | refine Sp.isNI ?_ | refine Sp.notNI ?_ | refine Sp.int1I ?_ | refine Sp.int1B ?_ | refine Sp.min2I ?_ | refine Sp.max2I ?_
     | refine Sp.st_dputN ?_ | refine Sp.st_dgetN ?_ | refine Sp.st_revL ?_ | refine Sp.st_din ?_ | refine Sp.st_dnin ?_ | refine Sp.st_dget ?_ | refine Sp.st_dput ?_ | refine Sp.st_dc ?_ | refine Sp.st_dcN ?_
     | refine Sp.st_sortLam ?_ | refine Sp.st_lc2 ?_ | refine Sp.st_un ?_ | refine Sp.st_lenSet ?_ | refine Sp.st_bm ?_ | refine Sp.st_lenO ?_ | refine Sp.st_sl ?_ | refine Sp.st_part ?_ | refine Sp.st_nopart ?_ | refine Sp.st_intx ?_)
  | ((with_reducible refine Sp.st_wp ?_ ?_); (focus rfl)))
namespace Sp
open PySem PySem.Spec L2

/-- the scene's list -/
structure SceneAt (g : Gx) (H : Hp) (sc : Addr) (n : Nat) (L : List (Nat × Nat)) (t w : Nat) : Prop where
  ex : ∃ lb ls x y, H sc = some (.lst [.int n, .ref lb, .int t, .int w, x, y]) ∧ H lb = some (.lst ls) ∧ TpAll g.K H ls (L.map eP)
/-- the rows' dict -/
structure RowsAt (g : Gx) (H : Hp) (d : Addr) (rows : List (Ky × Row)) : Prop where
  ex : ∃ kvs, DicD g.P g.w g.K H d kvs ∧ ∀ k, dval kvs (ko k) = (lookR rows k).map eR
-- _law_book: slots _law_scene 0, _law_rows 1, _law_pairs_here 2, _law_key 3; cells ['_law_rows']
abbrev s__law_book : Stmt := top 70
abbrev N__law_book : List Str := ["_law_scene", "_law_rows", "_law_pairs_here", "_law_key"]
theorem sc__law_book : FnScope N__law_book ["_law_scene", "_law_rows"] (defScope s__law_book) := ⟨rfl, rfl, rfl, by decide +kernel, rfl, by decide +kernel, by decide +kernel⟩
def sp__law_book (g : Gx) : Sp := fun vs H Q _ => ∃ sc rd, ∃ n t w : Nat, ∃ L : List (Nat × Nat), ∃ rows : List (Ky × Row), vs = [.ref sc, .ref rd] ∧ SceneAt g H sc n L t w ∧ RowsAt g H rd rows ∧ NetOk n L ∧ srtP L = L ∧ (t < n ∧ 1 ≤ w ∧ w ≤ 2) ∧ rows.map (·.1) = keysOf n L t w ∧ (∀ x ∈ rows, RowOk L x.1.1 w x.2) ∧ ∀ b H', Ex g.T H H' → BookAt g H' b ⟨n, L, t, w, rowF rows⟩ → Q (.ref b) H'
theorem ok__law_book (g : Gx) (T : Blt g.mg) (Z : Fct g) (C__law_keys : Cal g.P g.w g.K g.mg g.base 2 "_law_keys" ["_law_nodes", "_law_links", "_law_target", "_law_marks"] (sp__law_keys g)) (C_Book : CalK g.P g.w g.K g.mg g.base 5 g.bc "Book" ["self", "net", "target", "marks", "rows"] (sp_Book___init__ g)) (C_Net : CalK g.P g.w g.K g.mg g.base 5 g.nc "Net" ["self", "nodes", "links"] (sp_Net___init__ g))  {f : Addr} {fd : FuncData} (F : Fun g.K "_law_book" "_law_book" s__law_book f fd) : FnOk g.P g.w g.K g.mg g.base CX0 7 f fd ["_law_scene", "_law_rows"] (sp__law_book g) := by
  refine F.ok sc__law_book (fun vs H Q E h => ?_) (fun cdv A outer s H vs Q E hr h => ?_)
  · first | (obtain ⟨rfl, _⟩ := h; rfl) | (obtain ⟨_, rfl, _⟩ := h; rfl) | (obtain ⟨_, _, rfl, _⟩ := h; rfl) | (obtain ⟨_, _, _, rfl, _⟩ := h; rfl) | (obtain ⟨_, _, _, _, rfl, _⟩ := h; rfl) | (obtain ⟨_, _, _, _, _, rfl, _⟩ := h; rfl) | (obtain ⟨_, _, _, _, _, _, rfl, _⟩ := h; rfl) | (obtain ⟨_, _, _, _, _, _, _, rfl, _⟩ := h; rfl) | (obtain ⟨_, _, _, _, _, _, _, _, rfl, _⟩ := h; rfl) | (obtain ⟨_, _, _, _, _, _, _, _, _, rfl, _⟩ := h; rfl) | (obtain ⟨_, _, _, _, _, _, _, _, _, _, rfl, _⟩ := h; rfl) | (obtain ⟨_, _, _, _, _, _, _, _, _, _, _, rfl, _⟩ := h; rfl) | (obtain ⟨_, _, _, _, _, _, _, _, _, _, _, _, rfl, _⟩ := h; rfl) | (obtain ⟨_, _, _, _, _, _, _, _, _, _, _, _, _, rfl, _⟩ := h; rfl)
  have hu := room_un hr
  obtain ⟨sc, rd, n, t, w, L, rows, rfl, ⟨lb, ls, x, y, hsc, hlb, hls⟩, ⟨kvs, hkv, hkl⟩, nok, hsrt, ⟨ht, hw1, hw2⟩, hkeys, hrows, kk⟩ := h
  refine ⟨_, (pss_cons (ps_set (i := 2) sc__law_book.nd rfl (Or.inl rfl) (pe_callTy (tupOfW g) (by rfl) T.b_tuple boot_t_tuple (pa_cons (pe_lc (own := [("_law_key", 3)]) rfl sc__law_book.nd (iLW g (pe_cF C__law_keys (hr.mono (by decide)) rfl (pa_cons (pe_ix (ixW g) (pv 0) pe_int (fun _ _ => rfl)) (pa_cons (pe_ix (ixW g) (pv 0) pe_int (fun _ _ => rfl)) (pa_cons (pe_ix (ixW g) (pv 0) pe_int (fun _ _ => rfl)) (pa_cons (pe_ix (ixW g) (pv 0) pe_int (fun _ _ => rfl)) pa_nil)))))) (blkOk_by rfl) (fun _ _ _ _ _ => pg_name (i := 3) sc__law_book.nd rfl (Or.inl rfl)) (fun _ _ _ _ _ => pts_one (pt_cmpR (inNW g hu) (pv 3) (pv 1) rfl)) (fun _ _ _ _ _ => (pe_tup (pa_cons (pv 3) (pa_cons (ixNW g hu (pv 1) (pv 3) (fun _ _ => rfl)) pa_nil))))) pa_nil)))
      (pss_one (ps_ret (pe_kF C_Book (hr.mono (by decide)) rfl (pa_cons (pe_kF C_Net (hr.mono (by decide)) rfl (pa_cons (pe_ix (ixW g) (pv 0) pe_int (fun _ _ => rfl)) (pa_cons (pe_callTy (tupOfW g) (by rfl) T.b_tuple boot_t_tuple (pa_cons (pe_ix (ixW g) (pv 0) pe_int (fun _ _ => rfl)) pa_nil)) pa_nil))) (pa_cons (pe_ix (ixW g) (pv 0) pe_int (fun _ _ => rfl)) (pa_cons (pe_ix (ixW g) (pv 0) pe_int (fun _ _ => rfl)) (pa_cons (pv 2) pa_nil)))))))), ?_⟩
  have hn := nok.hi
  have hL := nok.few
  walk_at "go"
  refine st_ixL (.of hsc) rfl ?_
  walk_at "go"
  refine st_ixL (.of hsc) rfl ?_
  walk_at "go"
  refine st_ixL (.of hsc) rfl ?_
  walk_at "go"
  refine st_ixL (.of hsc) rfl ?_
  walk_at "go"
  refine ⟨lb, ls, n, t, w, L, rfl, .of hlb, hls, hL, hn, hw2, fun p H1 ks np e1 hp hks => ?_⟩
  walk_at "go"
  refine ⟨p, rfl, ⟨ks, .of hp⟩, ?_⟩
  have hkf : (keysOf n L t w).length ≤ 119 := by
    have := keysTo_len (n := n) (t := t) hL hw2 (List.range n)
    rw [List.length_range] at this
    unfold keysOf
    omega
  refine lcL (T := g.T) (l := keysOf n L t w) (enc := eK) (fun _ => true) (fun k => eO (k, rowF rows k)) (.of hp) hks (by omega) (fun k x H2 hk e2 hx => ?_) fun q H2 zs nq e2 hq hz => ?_
  · intro Yes No hY hN
    have e12 := e1.trans e2
    obtain ⟨r, hr⟩ : ∃ r, lookR rows k = some r := by
      rw [← hkeys] at hk
      exact lookR_some hk
    have hF : rowF rows k = r := by unfold rowF; rw [hr]; rfl
    have hv : dval kvs (ko k) = some (eR r) := by rw [hkl, hr]; rfl
    walk_at "go"
    refine ⟨rd, kvs, ko k, rfl, e12.dic hkv, hx, ?_⟩
    rw [hv]
    refine ⟨true, rfl, ?_⟩
    rw [if_pos rfl]
    walk_at "go"
    refine ⟨rd, kvs, ko k, eR r, rfl, e12.dic hkv, hx, hv, fun v hv2 => ?_⟩
    walk_at "go"
    refine ⟨szr rfl, fun q hq => ?_⟩
    have e6 : Ex g.T H2 (upd H2 q (.tup [x, v])) := .new hq
    exact hY rfl _ _ e6 (.tup (.of upd_same) (.cons (e6.tp hx) (.cons (by rw [hF]; exact e6.tp hv2) .nil)))
  rw [List.filter_eq_self.mpr (fun _ _ => rfl)] at hz
  have e12 := e1.trans e2
  walk_at "go"
  refine tupL (.of hq) fun q2 hq2 => ?_
  have hz2 : Tp g.K (upd H2 q2 (.tup zs)) (.ref q2) (.tuple (rows.map eO)) := by
    refine .tup (.of upd_same) ?_
    have h0 : (keysOf n L t w).map (fun k => eO (k, rowF rows k)) = rows.map eO := by
      rw [← hkeys, List.map_map]
      refine List.map_congr_left fun z hz => ?_
      show eO (z.1, rowF rows z.1) = eO z
      unfold rowF
      rw [lookR_at (by rw [hkeys]; exact keysOf_nodup _ _ _ _) hz]
      rfl
    rw [← h0]
    exact hz.up (noTup_none hq2)
  have e3 : Ex g.T H (upd H2 q2 (.tup zs)) := e12.trans (.new hq2)
  generalize upd H2 q2 (.tup zs) = H3 at hz2 e3
  walk_at "go"
  refine st_ixL (.of (e3.at hsc)) rfl ?_
  walk_at "go"
  refine st_ixL (.of (e3.at hsc)) rfl ?_
  walk_at "go"
  refine tupL (.of (e3.at hlb)) fun q4 hq4 => ?_
  have hL4 : Tp g.K (upd H3 q4 (.tup ls)) (.ref q4) (.tuple (L.map eP)) := .tup (.of upd_same) ((e3.tps hls).up (noTup_none hq4))
  have e4 : Ex g.T H3 (upd H3 q4 (.tup ls)) := .new hq4
  generalize upd H3 q4 (.tup ls) = H4 at hL4 e4
  have e04 := e3.trans e4
  walk_at "go"
  intro x1 dx1 hx1 hdx1 hne1
  have e5 : Ex g.T H4 (upd (upd H4 dx1 (.own x1)) x1 (.ins g.nc dx1 [])) := (Ex.new hdx1).trans (.new (by rw [upd_ne (Ne.symm hne1)]; exact hx1))
  refine ⟨x1, _, n, L, rfl, ⟨dx1, upd_same⟩, e5.tp hL4, nok, fun H7 b7 hb7 => ⟨rfl, ?_⟩⟩
  rw [hsrt] at hb7
  have e47 : Ex g.T H4 H7 := ExB.made hx1 hdx1 hne1 b7
  have e07 := e04.trans e47
  walk_at "go"
  refine st_ixL (.of (e07.at hsc)) rfl ?_
  walk_at "go"
  refine st_ixL (.of (e07.at hsc)) rfl ?_
  walk_at "go"
  intro x2 dx2 hx2 hdx2 hne2
  have e8 : Ex g.T H7 (upd (upd H7 dx2 (.own x2)) x2 (.ins g.bc dx2 [])) := (Ex.new hdx2).trans (.new (by rw [upd_ne (Ne.symm hne2)]; exact hx2))
  have rok : RowsOk n L t w rows := by
    refine ⟨fun z hz => ?_, hrows, by rw [hkeys]; exact keysOf_nodup _ _ _ _, ?_⟩
    · refine (mem_keysOf hw1).mp ?_
      rw [← hkeys]
      exact List.mem_map_of_mem hz
    · have := congrArg List.length hkeys
      rw [List.length_map] at this
      omega
  refine ⟨x2, x1, _, n, t, w, L, rows, rfl, ⟨dx2, upd_same⟩, e8.net hb7, e8.tp (e47.tp (e4.tp hz2)), ⟨ht, hw1, hw2⟩, rok, fun H9 b9 hb9 => ⟨rfl, ?_⟩⟩
  exact kk x2 H9 (e07.trans (ExB.made hx2 hdx2 hne2 b9)) hb9
end Sp
end
section
set_option Elab.async false
set_option linter.all false
set_option maxRecDepth 100000
set_option maxHeartbeats 4000000
set_option autoImplicit false
local macro_rules | `(tactic| walk_at "go") => `(tactic| repeat first
  | (with_reducible first
     | refine Sp.st_var rfl ?_ | refine Sp.st_c ?_ | refine Sp.st_op ?_ | refine Sp.st_seq ?_ | refine Sp.st_asg ?_ | refine Sp.st_name ?_
     | refine Sp.st_ret ?_ | refine Sp.st_drop ?_ | refine Sp.st_next ?_ | refine Sp.st_if ?_ | refine Sp.st_nx ?_ | refine Sp.st_rt ?_
     | refine Sp.st_cons ?_ | refine Sp.st_nil ?_ | refine Sp.st_cb ?_ | refine Sp.st_call ?_ | refine Sp.st_test ?_ | refine Sp.st_B ?_
     | refine Sp.st_not ?_ | refine Sp.st_and ?_ | refine Sp.st_or ?_ | refine Sp.st_andV ?_ | refine Sp.st_orV ?_ | refine Sp.st_notV ?_
     | refine Sp.st_tif ?_ | refine Sp.st_tup ?_ | refine Sp.st_lst ?_ | refine Sp.st_blx ?_ | refine Sp.st_I0 ?_ | refine Sp.st_U ?_
     | refine Sp.st_eqI ?_ | refine Sp.st_neI ?_ | refine Sp.st_chain ?_ | refine Sp.isiI ?_ | refine Sp.isiB ?_ | refine Sp.isiS ?_
     | refine Sp.st_T rfl ?_ | refine Sp.st_F rfl ?_ | refine Sp.st_lc ?_ | refine Sp.st_iT ?_ | refine Sp.st_iL ?_ | refine Sp.st_iR1 ?_
     | refine Sp.st_iR2 ?_ | refine Sp.st_iET ?_ | refine Sp.st_iZA ?_ | refine Sp.st_iZLT ?_ | refine Sp.st_for ?_ | refine Sp.st_fld ?_
     | refine Sp.st_sfld ?_ | refine Sp.st_prop ?_ | refine Sp.st_meth ?_ | refine Sp.st_make ?_ | refine Sp.st_isN ?_ | refine Sp.st_yes ?_
     | refine Sp.isNI ?_ | refine Sp.notNI ?_ | refine Sp.int1I ?_ | refine Sp.int1B ?_ | refine Sp.min2I ?_ | refine Sp.max2I ?_
     | refine Sp.st_dputN ?_ | refine Sp.st_dgetN ?_ | refine Sp.st_revL ?_ | refine Sp.st_din ?_ | refine Sp.st_dnin ?_ | refine Sp.st_dget ?_ | refine Sp.st_dput ?_ | refine Sp.st_dc ?_ | refine Sp.st_dcN ?_
     | refine Sp.st_sortLam ?_ | refine Sp.st_lc2 ?_ | refine Sp.st_un ?_ | refine Sp.st_lenSet ?_ | refine Sp.st_bm ?_ | refine Sp.st_lenO ?_ | refine Sp.st_sl ?_ | refine Sp.st_part ?_ | refine Sp.st_nopart ?_ | refine Sp.st_intx ?_)
  | ((with_reducible refine Sp.st_wp ?_ ?_); (focus rfl)))
namespace Sp
open PySem PySem.Spec L2

theorem eqv_nilO (l : List (Ky × Row)) : PyData.eqv (.list (l.map eO)) (.list []) = decide (l = []) := by
  cases l with
  | nil => rw [PyData.eqv]; rfl
  | cons x l =>
    rw [PyData.eqv, List.map_cons, PyData.eqvAll]
    rfl
structure ROk (n : Nat) (L : List (Nat × Nat)) (t w : Nat) (R : List (Ky × Row)) : Prop where
  keys : R.map (·.1) = keysOf n L t w
  row : ∀ x ∈ R, RowOk L x.1.1 w x.2
structure FOk (n : Nat) (L : List (Nat × Nat)) (t w : Nat) (O : List (Ky × Row)) : Prop where
  key : ∀ x ∈ O, KeyOk n L t w x.1
  row : ∀ x ∈ O, RowOk L x.1.1 w x.2
theorem RowOk.nil {L : List (Nat × Nat)} {node w : Nat} : RowOk L node w [] := ⟨fun p h => (nomatch h), List.nodup_nil⟩
theorem RowOk.rev {L : List (Nat × Nat)} {node w : Nat} {r : Row} (h : RowOk L node w r) : RowOk L node w r.reverse :=
  ⟨fun p hp => h.link p (List.mem_reverse.mp hp), by rw [List.map_reverse]; exact (List.reverse_perm _).nodup_iff.mpr h.nd⟩
theorem RowOk.drop {L : List (Nat × Nat)} {node w : Nat} {r : Row} (h : RowOk L node w r) (i : Nat) : RowOk L node w (r.drop i) :=
  ⟨fun p hp => h.link p (List.mem_of_mem_drop hp), by rw [List.map_drop]; exact (List.drop_sublist _ _).nodup h.nd⟩
/-- the lists of the mending's making -/
structure Mco (H : Hp) (lb rb ob mb : Addr) : Prop where
  l : New H lb
  r : New H rb
  o : New H ob
  m : New H mb
  lr : lb ≠ rb
  lo : lb ≠ ob
  lm : lb ≠ mb
  ro : rb ≠ ob
  rm : rb ≠ mb
  om : ob ≠ mb
def LAt (K : Fg) (H : Hp) (p : Addr) (ds : List D) : Prop := ∃ ys, H p = some (.lst ys) ∧ TpAll K H ys ds
structure Mst (g : Gx) (H : Hp) (d c0 c1 : Addr) (lb rb ob mb : Addr) (L : List (Nat × Nat)) (k : Nat) (R O M : List (Ky × Row)) (H' : Hp) : Prop where
  eg : Eg g.T d c0 H H'
  dk : Deck H' d c0 c1 k
  l : LAt g.K H' lb (L.map eP)
  r : LAt g.K H' rb (R.map eO)
  o : LAt g.K H' ob (O.map eO)
  m : LAt g.K H' mb (M.map eO)
section
variable {g : Gx} {H H1 H2 : Hp} {d c0 c1 lb rb ob mb p : Addr} {L : List (Nat × Nat)} {k j k0 : Nat} {R O M : List (Ky × Row)} {ds : List D}
theorem LAt.ex (e : Ex g.T H1 H2) (h : LAt g.K H1 p ds) : LAt g.K H2 p ds := by
  obtain ⟨ys, h1, h2⟩ := h
  exact ⟨ys, e.at h1, e.tps h2⟩
theorem LAt.eg (e : Eg g.T d c0 H1 H2) (hd : Deck H1 d c0 c1 k) (n1 : p ≠ d) (n2 : p ≠ c0) (h : LAt g.K H1 p ds) : LAt g.K H2 p ds := by
  obtain ⟨ys, h1, h2⟩ := h
  exact ⟨ys, e.at h1 n1 n2, e.tps hd h2⟩
theorem LAt.up {q : Addr} {o : HO} (n : p ≠ q) (nt : NoTup H1 q) (h : LAt g.K H1 p ds) : LAt g.K (upd H1 q o) p ds := by
  obtain ⟨ys, h1, h2⟩ := h
  exact ⟨ys, by rw [upd_ne n]; exact h1, h2.up nt⟩
theorem Mst.le (s : Mst g H d c0 c1 lb rb ob mb L k R O M H1) (h : k ≤ j) : Mst g H d c0 c1 lb rb ob mb L j R O M H1 := { s with dk := s.dk.le h }
theorem Mst.ex (s : Mst g H d c0 c1 lb rb ob mb L k R O M H1) (e : Ex g.T H1 H2) : Mst g H d c0 c1 lb rb ob mb L k R O M H2 :=
  ⟨s.eg.then e, e.deck s.dk, s.l.ex e, s.r.ex e, s.o.ex e, s.m.ex e⟩
theorem Mst.step (s : Mst g H d c0 c1 lb rb ob mb L k R O M H1) (hD : Deck H d c0 c1 k0) (c : Mco H lb rb ob mb) (e : Eg g.T d c0 H1 H2) (hd : Deck H2 d c0 c1 j) : Mst g H d c0 c1 lb rb ob mb L j R O M H2 :=
  ⟨s.eg.trans e, hd, s.l.eg e s.dk (hD.new_d c.l) (hD.new_c c.l), s.r.eg e s.dk (hD.new_d c.r) (hD.new_c c.r), s.o.eg e s.dk (hD.new_d c.o) (hD.new_c c.o), s.m.eg e s.dk (hD.new_d c.m) (hD.new_c c.m)⟩
theorem Mst.chR (s : Mst g H d c0 c1 lb rb ob mb L k R O M H1) (hD : Deck H d c0 c1 k0) (c : Mco H lb rb ob mb) {ys ys' : List V} {R' : List (Ky × Row)} (h : H1 rb = some (.lst ys)) (t : TpAll g.K H1 ys' (R'.map eO)) : Mst g H d c0 c1 lb rb ob mb L k R' O M (upd H1 rb (.lst ys')) :=
  have nt := noTup_of h
  ⟨s.eg.mut c.r (hD.new_d c.r) (hD.new_c c.r) h trivial, s.dk.up (hD.new_d c.r) (hD.new_c c.r) (hD.new_e c.r), s.l.up c.lr nt, ⟨_, upd_same, t.up nt⟩, s.o.up (Ne.symm c.ro) nt, s.m.up (Ne.symm c.rm) nt⟩
theorem Mst.chO (s : Mst g H d c0 c1 lb rb ob mb L k R O M H1) (hD : Deck H d c0 c1 k0) (c : Mco H lb rb ob mb) {ys ys' : List V} {O' : List (Ky × Row)} (h : H1 ob = some (.lst ys)) (t : TpAll g.K H1 ys' (O'.map eO)) : Mst g H d c0 c1 lb rb ob mb L k R O' M (upd H1 ob (.lst ys')) :=
  have nt := noTup_of h
  ⟨s.eg.mut c.o (hD.new_d c.o) (hD.new_c c.o) h trivial, s.dk.up (hD.new_d c.o) (hD.new_c c.o) (hD.new_e c.o), s.l.up c.lo nt, s.r.up c.ro nt, ⟨_, upd_same, t.up nt⟩, s.m.up (Ne.symm c.om) nt⟩
theorem Mst.chM (s : Mst g H d c0 c1 lb rb ob mb L k R O M H1) (hD : Deck H d c0 c1 k0) (c : Mco H lb rb ob mb) {ys ys' : List V} {M' : List (Ky × Row)} (h : H1 mb = some (.lst ys)) (t : TpAll g.K H1 ys' (M'.map eO)) : Mst g H d c0 c1 lb rb ob mb L k R O M' (upd H1 mb (.lst ys')) :=
  have nt := noTup_of h
  ⟨s.eg.mut c.m (hD.new_d c.m) (hD.new_c c.m) h trivial, s.dk.up (hD.new_d c.m) (hD.new_c c.m) (hD.new_e c.m), s.l.up c.lm nt, s.r.up c.rm nt, s.o.up c.om nt, ⟨_, upd_same, t.up nt⟩⟩
theorem TpAll.set {K : Fg} {H : Hp} : ∀ (i : Nat) {xs : List V} {ds : List D} {v : V} {d : D}, TpAll K H xs ds → Tp K H v d → TpAll K H (xs.set i v) (ds.set i d)
  | _, _, _, _, _, .nil, _ => .nil
  | 0, _, _, _, _, .cons _ h, hv => .cons hv h
  | i + 1, _, _, _, _, .cons h0 h, hv => .cons h0 (TpAll.set i h hv)
theorem TpAll.erase {K : Fg} {H : Hp} : ∀ (i : Nat) {xs : List V} {ds : List D}, TpAll K H xs ds → TpAll K H (xs.eraseIdx i) (ds.eraseIdx i)
  | _, _, _, .nil => .nil
  | 0, _, _, .cons _ h => h
  | i + 1, _, _, .cons h0 h => .cons h0 (TpAll.erase i h)
theorem ROk.set {n : Nat} {t w : Nat} {x : Ky × Row} {r : Row} {i : Nat} (h : ROk n L t w R) (hx : R[i]? = some x) (hr : RowOk L x.1.1 w r) : ROk n L t w (R.set i (x.1, r)) := by
  refine ⟨?_, fun y hy => ?_⟩
  · rw [← h.keys]
    refine List.ext_getElem? fun j => ?_
    rw [List.getElem?_map, List.getElem?_map, List.getElem?_set]
    by_cases e : i = j
    · subst e
      have hl := (List.getElem?_eq_some_iff.mp hx).1
      rw [if_pos rfl, if_pos hl, hx]
      rfl
    · rw [if_neg e]
  · rcases List.mem_or_eq_of_mem_set hy with hy | hy
    · exact h.row y hy
    · rw [hy]; exact hr
theorem ROk.key {n : Nat} {t w : Nat} {x : Ky × Row} (h : ROk n L t w R) (hw : 1 ≤ w) (hx : x ∈ R) : KeyOk n L t w x.1 := (mem_keysOf hw).mp (by rw [← h.keys]; exact List.mem_map_of_mem hx)
theorem FOk.add {n : Nat} {t w : Nat} {x : Ky × Row} (h : FOk n L t w O) (hk : KeyOk n L t w x.1) (hr : RowOk L x.1.1 w x.2) : FOk n L t w (O ++ [x]) := by
  refine ⟨fun y hy => ?_, fun y hy => ?_⟩ <;> rcases List.mem_append.mp hy with hy | hy
  · exact h.key y hy
  · rw [List.mem_singleton.mp hy]; exact hk
  · exact h.row y hy
  · rw [List.mem_singleton.mp hy]; exact hr
end
end Sp
end
section
set_option Elab.async false
set_option linter.all false
set_option maxRecDepth 100000
set_option maxHeartbeats 4000000
set_option autoImplicit false
local macro_rules | `(tactic| walk_at "go") => `(tactic| repeat first
  | (with_reducible first
     | refine Sp.st_var rfl ?_ | refine Sp.st_c ?_ | refine Sp.st_op ?_ | refine Sp.st_seq ?_ | refine Sp.st_asg ?_ | refine Sp.st_name ?_
     | refine Sp.st_ret ?_ | refine Sp.st_drop ?_ | refine Sp.st_next ?_ | refine Sp.st_if ?_ | refine Sp.st_nx ?_ | refine Sp.st_rt ?_
     | refine Sp.st_cons ?_ | refine Sp.st_nil ?_ | refine Sp.st_cb ?_ | refine Sp.st_call ?_ | refine Sp.st_test ?_ | refine Sp.st_B ?_
     | refine Sp.st_not ?_ | refine Sp.st_and ?_ | refine Sp.st_or ?_ | refine Sp.st_andV ?_ | refine Sp.st_orV ?_ | refine Sp.st_notV ?_
     | refine Sp.st_tif ?_ | refine Sp.st_tup ?_ | refine Sp.st_lst ?_ | refine Sp.st_blx ?_ | refine Sp.st_I0 ?_ | refine Sp.st_U ?_
     | refine Sp.st_eqI ?_ | refine Sp.st_neI ?_ | refine Sp.st_chain ?_ | refine Sp.isiI ?_ | refine Sp.isiB ?_ | refine Sp.isiS ?_
     | refine Sp.st_T rfl ?_ | refine Sp.st_F rfl ?_ | refine Sp.st_lc ?_ | refine Sp.st_iT ?_ | refine Sp.st_iL ?_ | refine Sp.st_iR1 ?_
     | refine Sp.st_iR2 ?_ | refine Sp.st_iET ?_ | refine Sp.st_iZA ?_ | refine Sp.st_iZLT ?_ | refine Sp.st_for ?_ | refine Sp.st_fld ?_
     | refine Sp.st_sfld ?_ | refine Sp.st_prop ?_ | refine Sp.st_meth ?_ | refine Sp.st_make ?_ | refine Sp.st_isN ?_ | refine Sp.st_yes ?_
     | refine Sp.isNI ?_ | refine Sp.notNI ?_ | refine Sp.int1I ?_ | refine Sp.int1B ?_ | refine Sp.min2I ?_ | refine Sp.max2I ?_
     | refine Sp.st_dputN ?_ | refine Sp.st_dgetN ?_ | refine Sp.st_revL ?_ | refine Sp.st_din ?_ | refine Sp.st_dnin ?_ | refine Sp.st_dget ?_ | refine Sp.st_dput ?_ | refine Sp.st_dc ?_ | refine Sp.st_dcN ?_
     | refine Sp.st_sortLam ?_ | refine Sp.st_lc2 ?_ | refine Sp.st_un ?_ | refine Sp.st_lenSet ?_ | refine Sp.st_bm ?_ | refine Sp.st_lenO ?_ | refine Sp.st_sl ?_ | refine Sp.st_part ?_ | refine Sp.st_nopart ?_ | refine Sp.st_intx ?_)
  | ((with_reducible refine Sp.st_wp ?_ ?_); (focus rfl)))
namespace Sp
open PySem PySem.Spec L2

theorem times {α : Type} [DecidableEq α] {m0 : Nat} {l : List α} (h : m0 ≤ 3) : ∃ m : Nat, m ≤ 3 ∧ (0 < m → l ≠ []) ∧ (m0 : Int) * (if (!decide (l = [])) = true then 1 else 0) = m := by
  by_cases e : l = []
  · subst e
    exact ⟨0, Nat.zero_le _, fun h => (nomatch h), by simp⟩
  · exact ⟨m0, h, fun _ => e, by simp [e]⟩
theorem eO_depth (x : Ky × Row) : (eO x).depth ≤ 3 := by
  have h1 := eK_depth x.1
  have h2 : (eR x.2).depth ≤ 2 := Nat.le_trans (depth_tup (depth_map eP_depth)) (by decide)
  refine depth_tup (n := 2) ?_
  simp only [PyData.depthAll]
  omega
theorem RowsAt.mv {g : Gx} {H H' : Hp} {d : Addr} {rows : List (Ky × Row)} (h : RowsAt g H d rows) (e : Ex g.T H H') : RowsAt g H' d rows := by
  obtain ⟨kvs, h1, h2⟩ := h
  exact ⟨kvs, e.dic h1, h2⟩
theorem dval_rows : ∀ (R : List (Ky × Row)) (k : Ky), dval (R.map fun x : Ky × Row => (ko x.1, eR x.2)) (ko k) = (lookR R k).map eR
  | [], _ => rfl
  | x :: R, k => by
    rw [List.map_cons]
    by_cases e : x.1 = k
    · rw [dval_pos (by rw [← e]), lookR_pos e]
      rfl
    · rw [dval_neg (fun z => e (ko_inj z)), lookR_neg e]
      exact dval_rows R k
-- _law_mending: slots _law_deck_here 0, _law_limit 1, _law_nodes 2, _law_links 3, _law_target 4, _law_marks 5, _law_rows 6, _law_offers 7, _law_mixed 8, _law_turn 9, _law_at_here 10, _law_key 11, _law_row_here 12, _law_scene 13; cells []
abbrev s__law_mending : Stmt := top 71
abbrev N__law_mending : List Str := ["_law_deck_here", "_law_limit", "_law_nodes", "_law_links", "_law_target", "_law_marks", "_law_rows", "_law_offers", "_law_mixed", "_law_turn", "_law_at_here", "_law_key", "_law_row_here", "_law_scene"]
theorem sc__law_mending : FnScope N__law_mending ["_law_deck_here", "_law_limit"] (defScope s__law_mending) := ⟨rfl, rfl, rfl, by decide +kernel, rfl, by decide +kernel, by decide +kernel⟩
def sp__law_mending (g : Gx) : Sp := fun vs H Q _ => ∃ d c0 c1, ∃ k lim : Nat, vs = [.ref d, .int lim] ∧ k ≤ 800000 ∧ 1 ≤ lim ∧ lim ≤ 8 ∧ Deck H d c0 c1 k ∧ ∀ q sc b mv x0 x1 x2 x3 x4 H' B (ofs : List (Ky × Row)), Eg g.T d c0 H H' → Deck H' d c0 c1 (k + 256) → SqT g.K H' q [.ref sc, mv] → H' sc = some (.lst [x0, x1, x2, x3, x4, .ref b]) → New H sc → BookAt g H' b B → Tp g.K H' mv (.tuple (ofs.map eO)) → OfOk B.n B.L B.t B.w ofs → Q (.ref q) H'
theorem ok__law_mending (g : Gx) (T : Blt g.mg) (Z : Fct g) (C__law_net : Cal g.P g.w g.K g.mg g.base 2 "_law_net" ["_law_deck_here", "_law_limit"] (sp__law_net g)) (C__law_next : Cal g.P g.w g.K g.mg g.base 1 "_law_next" ["_law_deck_here", "_law_many"] (sp__law_next g)) (C__law_wise : Cal g.P g.w g.K g.mg g.base 3 "_law_wise" ["_law_deck_here", "_law_nodes", "_law_links", "_law_target", "_law_marks"] (sp__law_wise g)) (C__law_row : Cal g.P g.w g.K g.mg g.base 2 "_law_row" ["_law_deck_here", "_law_links", "_law_node", "_law_marks", "_law_few"] (sp__law_row g)) (C__law_book : Cal g.P g.w g.K g.mg g.base 7 "_law_book" ["_law_scene", "_law_rows"] (sp__law_book g))  {f : Addr} {fd : FuncData} (F : Fun g.K "_law_mending" "_law_mending" s__law_mending f fd) : FnOk g.P g.w g.K g.mg g.base CX0 8 f fd ["_law_deck_here", "_law_limit"] (sp__law_mending g) := by
  refine F.ok sc__law_mending (fun vs H Q E h => ?_) (fun cdv A outer s H vs Q E hr h => ?_)
  · first | (obtain ⟨rfl, _⟩ := h; rfl) | (obtain ⟨_, rfl, _⟩ := h; rfl) | (obtain ⟨_, _, rfl, _⟩ := h; rfl) | (obtain ⟨_, _, _, rfl, _⟩ := h; rfl) | (obtain ⟨_, _, _, _, rfl, _⟩ := h; rfl) | (obtain ⟨_, _, _, _, _, rfl, _⟩ := h; rfl) | (obtain ⟨_, _, _, _, _, _, rfl, _⟩ := h; rfl) | (obtain ⟨_, _, _, _, _, _, _, rfl, _⟩ := h; rfl) | (obtain ⟨_, _, _, _, _, _, _, _, rfl, _⟩ := h; rfl) | (obtain ⟨_, _, _, _, _, _, _, _, _, rfl, _⟩ := h; rfl) | (obtain ⟨_, _, _, _, _, _, _, _, _, _, rfl, _⟩ := h; rfl) | (obtain ⟨_, _, _, _, _, _, _, _, _, _, _, rfl, _⟩ := h; rfl) | (obtain ⟨_, _, _, _, _, _, _, _, _, _, _, _, rfl, _⟩ := h; rfl) | (obtain ⟨_, _, _, _, _, _, _, _, _, _, _, _, _, rfl, _⟩ := h; rfl)
  have hu := room_un hr
  obtain ⟨d, c0, c1, k, lim, rfl, hk, hl1, hl2, hD, kk⟩ := h
  refine ⟨_, (pss_cons (ps_asg (pe_cF C__law_net (hr.mono (by decide)) rfl (pa_cons (pv 0) (pa_cons (pv 1) pa_nil))) (gTW g (n := 2) rfl (pgs_cons (pg_name (i := 2) sc__law_mending.nd rfl (Or.inl rfl)) (pgs_cons (pg_name (i := 3) sc__law_mending.nd rfl (Or.inl rfl)) pgs_nil))))
      (pss_cons (ps_par (i := 4) (j := 5) rfl sc__law_mending.nd rfl rfl (by decide) rfl rfl (pa_cons (pe_cF C__law_next (hr.mono (by decide)) rfl (pa_cons (pv 0) (pa_cons (pv 2) pa_nil))) (pa_cons (pe_op op_add pe_int (pe_cF C__law_next (hr.mono (by decide)) rfl (pa_cons (pv 0) (pa_cons pe_int pa_nil)))) pa_nil)) rfl)
      (pss_cons (ps_par3 (i := 6) (j := 7) (l := 8) rfl sc__law_mending.nd rfl rfl rfl (by decide) (by decide) (by decide) rfl rfl rfl (pa_cons (pe_cF C__law_wise (hr.mono (by decide)) rfl (pa_cons (pv 0) (pa_cons (pv 2) (pa_cons (pv 3) (pa_cons (pv 4) (pa_cons (pv 5) pa_nil)))))) (pa_cons (pe_lst pa_nil) (pa_cons (pe_lst pa_nil) pa_nil))) rfl)
      (pss_cons (ps_for PassesOwn.never rfl (pi_range1 (by rfl) T.b_range (pa_cons (pe_op op_mul (pe_cF C__law_next (hr.mono (by decide)) rfl (pa_cons (pv 0) (pa_cons pe_int pa_nil))) (pe_callTy int1W (by rfl) T.b_int boot_t_int (pa_cons (pe_cmpR (neDW g hu) (pv 6) (pe_lst pa_nil) (nomark _)) pa_nil))) pa_nil)) (pg_name (i := 9) sc__law_mending.nd rfl (Or.inl rfl)) (pss_cons (ps_set (i := 10) sc__law_mending.nd rfl (Or.inl rfl) (pe_cF C__law_next (hr.mono (by decide)) rfl (pa_cons (pv 0) (pa_cons (pe_callB (lenW g) (by rfl) T.b_len boot_f_len (pa_cons (pv 6) pa_nil)) pa_nil))))
      (pss_cons (ps_asg (pe_ix (ixW g) (pv 6) (pv 10) (fun _ _ => rfl)) (gTW g (n := 2) rfl (pgs_cons (pg_name (i := 11) sc__law_mending.nd rfl (Or.inl rfl)) (pgs_cons (pg_name (i := 12) sc__law_mending.nd rfl (Or.inl rfl)) pgs_nil))))
      (pss_cons (ps_expr (bmW g PySem.F.plainAttrs_list PySem.F.slot_list_append PySem.F.type_list_append mt_append (pv 7) (pa_cons (pe_tup (pa_cons (pv 11) (pa_cons (pv 12) pa_nil))) pa_nil)))
      (pss_one (ps_asg (pe_tup (pa_cons (pv 11) (pa_cons (pe_ix (ixW g) (pe_lst (pa_cons (pe_tup pa_nil) (pa_cons (revTW g (pv 12)) (pa_cons (pe_slice (slTW g) (pv 12) (po_some pe_int) po_none) (pa_cons (pe_cF C__law_row (hr.mono (by decide)) rfl (pa_cons (pv 0) (pa_cons (pv 3) (pa_cons (pe_ix (ixW g) (pv 11) pe_int (fun _ _ => rfl)) (pa_cons (pv 5) (pa_cons pe_int pa_nil)))))) pa_nil))))) (pe_cF C__law_next (hr.mono (by decide)) rfl (pa_cons (pv 0) (pa_cons pe_int pa_nil))) (fun _ _ => rfl)) pa_nil))) (pg_sub (pv 6) (pv 10) set_list)))))))
      (pss_cons (ps_for PassesOwn.never rfl (pi_range1 (by rfl) T.b_range (pa_cons (pe_op op_mul (pe_cF C__law_next (hr.mono (by decide)) rfl (pa_cons (pv 0) (pa_cons pe_int pa_nil))) (pe_callTy int1W (by rfl) T.b_int boot_t_int (pa_cons (pe_cmpR (neDW g hu) (pv 6) (pe_lst pa_nil) (nomark _)) pa_nil))) pa_nil)) (pg_name (i := 9) sc__law_mending.nd rfl (Or.inl rfl)) (pss_cons (ps_set (i := 11) sc__law_mending.nd rfl (Or.inl rfl) (pe_ix (ixW g) (pe_ix (ixW g) (pv 6) (pe_cF C__law_next (hr.mono (by decide)) rfl (pa_cons (pv 0) (pa_cons (pe_callB (lenW g) (by rfl) T.b_len boot_f_len (pa_cons (pv 6) pa_nil)) pa_nil))) (fun _ _ => rfl)) pe_int (fun _ _ => rfl)))
      (pss_one (ps_expr (bmW g PySem.F.plainAttrs_list PySem.F.slot_list_append PySem.F.type_list_append mt_append (pv 7) (pa_cons (pe_tup (pa_cons (pv 11) (pa_cons (pe_cF C__law_row (hr.mono (by decide)) rfl (pa_cons (pv 0) (pa_cons (pv 3) (pa_cons (pe_ix (ixW g) (pv 11) pe_int (fun _ _ => rfl)) (pa_cons (pv 5) (pa_cons pe_int pa_nil)))))) pa_nil))) pa_nil))))))
      (pss_cons (ps_while PassesOwn.never (pt_cmpR (neDW g hu) (pv 7) (pe_lst pa_nil) (nomark _)) (pss_one (ps_expr (bmW g PySem.F.plainAttrs_list PySem.F.slot_list_append PySem.F.type_list_append mt_append (pv 8) (pa_cons (bmW g PySem.F.plainAttrs_list PySem.F.slot_list_pop PySem.F.type_list_pop mt_popAt (pv 7) (pa_cons (pe_cF C__law_next (hr.mono (by decide)) rfl (pa_cons (pv 0) (pa_cons (pe_callB (lenW g) (by rfl) T.b_len boot_f_len (pa_cons (pv 7) pa_nil)) pa_nil))) pa_nil)) pa_nil)))))
      (pss_cons (ps_set (i := 13) sc__law_mending.nd rfl (Or.inl rfl) (pe_lst (pa_cons (pv 2) (pa_cons (pv 3) (pa_cons (pv 4) (pa_cons (pv 5) (pa_cons (pe_callTy (dictNW g hu) (by rfl) T.b_dict boot_t_dict (pa_cons (pv 6) pa_nil)) (pa_cons pe_non pa_nil))))))))
      (pss_one (ps_ret (pe_tup (pa_cons (pe_op op_cat (pe_slice (slLW g) (pv 13) po_none (po_some pe_int)) (pe_lst (pa_cons (pe_cF C__law_book (hr.mono (by decide)) rfl (pa_cons (pv 13) (pa_cons (pe_ix (ixW g) (pv 13) pe_int (fun _ _ => rfl)) pa_nil))) pa_nil))) (pa_cons (pe_callTy (tupOfW g) (by rfl) T.b_tuple boot_t_tuple (pa_cons (pv 8) pa_nil)) pa_nil)))))))))))), ?_⟩
  walk_at "go"
  refine ⟨d, c0, c1, k, lim, rfl, by omega, hl1, hl2, hD, fun q0 lb H1 ls n L e1 hD1 hq0 nlb hlb hls nok hsrt => ?_⟩
  refine st_g2 hq0 ?_
  walk_at "go"
  have hn := nok.hi
  have hn1 := nok.lo
  have hL := nok.few
  refine st_par ?_
  walk_at "go"
  refine ⟨d, c0, c1, n, _, rfl, ⟨hn1, by omega⟩, by omega, hD1, fun t H2 e2 hD2 ht => ?_⟩
  walk_at "go"
  refine ⟨d, c0, c1, 2, _, rfl, ⟨by decide, by decide⟩, by omega, hD2, fun w0 H3 e3 hD3 hw0 => ?_⟩
  walk_at "go"
  refine ⟨_, _, rfl, ?_⟩
  have hw : (1 : Int) + (w0 : Int) = ((1 + w0 : Nat) : Int) := by omega
  rw [hw]
  have hw1 : 1 ≤ 1 + w0 := by omega
  have hw2 : 1 + w0 ≤ 2 := by omega
  generalize 1 + w0 = w at hw1 hw2
  walk_at "go"
  refine st_par3 ?_
  walk_at "go"
  have e13 := e2.trans e3
  have hlb3 := e13.keep hlb (hD.new_d nlb) (hD.new_c nlb)
  have hls3 := e13.tps hD1 hls
  refine ⟨d, c0, c1, lb, ls, _, n, t, w, L, rfl, by omega, hD3, hD.new_d nlb, hD.new_c nlb, hlb3, hls3, nok, hw1, hw2, fun rb H4 ys rows nrb e4 hD4 hrb hys hkeys hrows => ?_⟩
  have e14 := (e1.trans e13).trans e4
  walk_at "go"
  refine ⟨Nat.zero_le _, fun ob hob => ?_⟩
  walk_at "go"
  refine ⟨Nat.zero_le _, fun mb hmb => ?_⟩
  walk_at "go"
  refine ⟨_, _, _, rfl, ?_⟩
  have nrb' : New H rb := (e1.trans e13).new hD3 nrb
  have nob : New H ob := e14.new hD4 (.of hob)
  have e45 : Ex g.T H4 (upd H4 ob (.lst [])) := .new hob
  have nmb : New H mb := (e14.then e45).new (e45.deck hD4) (.of hmb)
  have hlb4 := e4.keep hlb3 (hD.new_d nlb) (hD.new_c nlb)
  have n1 : lb ≠ rb := fun z => by
    obtain ⟨ps, e⟩ := nrb _ (by rw [← z]; exact hlb3)
    cases e
  have c : Mco H lb rb ob mb := by
    refine ⟨nlb, nrb', nob, nmb, n1, fun z => ?_, fun z => ?_, fun z => ?_, fun z => ?_, fun z => ?_⟩
    · rw [← z, hlb4] at hob; cases hob
    · rw [← z, e45.at hlb4] at hmb; cases hmb
    · rw [← z, hrb] at hob; cases hob
    · rw [← z, e45.at hrb] at hmb; cases hmb
    · rw [← z, upd_same] at hmb; cases hmb
  have e56 : Ex g.T (upd H4 ob (.lst [])) (upd (upd H4 ob (.lst [])) mb (.lst [])) := .new hmb
  have e46 := e45.trans e56
  have s0 : Mst g H d c0 c1 lb rb ob mb L (k + 35) rows [] [] (upd (upd H4 ob (.lst [])) mb (.lst [])) := by
    refine ⟨e14.then e46, (e46.deck hD4).le (by omega), ⟨ls, e46.at hlb4, e46.tps (e4.tps hD3 hls3)⟩, ⟨ys, e46.at hrb, e46.tps hys⟩, ⟨[], e56.at upd_same, .nil⟩, ⟨[], upd_same, .nil⟩⟩
  have r0 : ROk n L t w rows := ⟨hkeys, hrows⟩
  generalize upd (upd H4 ob (.lst [])) mb (.lst []) = H6 at s0
  walk_at "go"
  have hkf : (keysOf n L t w).length ≤ 119 := by
    have := keysTo_len (n := n) (t := t) hL hw2 (List.range n)
    rw [List.length_range] at this
    unfold keysOf
    omega
  have hRl : ∀ R, ROk n L t w R → R.length = (keysOf n L t w).length := fun R h => by rw [← h.keys, List.length_map]
  refine ⟨d, c0, c1, 4, _, rfl, ⟨by decide, by decide⟩, by omega, s0.dk, fun m0 H7 e7 hD7 hm0 => ?_⟩
  have s7 := s0.step hD c e7 hD7
  walk_at "go"
  refine ⟨Nat.zero_le _, fun p hp => ?_⟩
  have s8 := s7.ex (Ex.new (o := .lst []) hp)
  obtain ⟨rs8, hr8, hrs8⟩ := s8.r
  refine ⟨.list (rows.map eO), .list [], .lst (.of hr8) hrs8.dps, .lst (.of upd_same) .nil, shp_list (f := eO) 3 eO_pur eO_depth (by decide), rfl, ?_⟩
  rw [eqv_nilO]
  generalize upd H7 p (.lst []) = H8 at s8 hr8 hrs8
  walk_at "go"
  obtain ⟨m, hm, hmn, hme⟩ := times (m0 := m0) (l := rows) (by omega : m0 ≤ 3)
  refine st_I (.inl ⟨by omega, by omega⟩) ?_
  rw [hme]
  walk_at "go"
  refine ⟨m, rfl, by omega, by omega, ?_⟩
  rw [Int.toNat_natCast]
  refine forR (fun i σ H1 => (∃ R O, Mst g H d c0 c1 lb rb ob mb L (k + 36 + 26 * i) R O [] H1 ∧ ROk n L t w R ∧ FOk n L t w O ∧ O.length ≤ i) ∧ ∃ x9 x10 x11 x12 x13, σ = [some (.ref d), some (.int lim), some (.int n), some (.ref lb), some (.int t), some (.int w), some (.ref rb), some (.ref ob), some (.ref mb), x9, x10, x11, x12, x13])
    ⟨⟨rows, [], s8, r0, ⟨fun x h => (nomatch h), fun x h => (nomatch h)⟩, Nat.zero_le _⟩, _, _, _, _, _, rfl⟩ (fun i σ H1 hi p => ?_) (fun σ H1 p => ?_)
  · obtain ⟨⟨R, O, s1, rok, fok, hO⟩, x9, x10, x11, x12, x13, rfl⟩ := p
    have hR := hRl R rok
    have hRp : 0 < R.length := by
      rw [hR, ← hRl rows r0]
      exact List.length_pos_iff.mpr (hmn (by omega))
    obtain ⟨rs, hr1, hrs1⟩ := s1.r
    have hrl : rs.length = R.length := by rw [hrs1.len, List.length_map]
    walk_at "go"
    refine lenL (.of hr1) ?_
    walk_at "go"
    refine ⟨d, c0, c1, R.length, _, by rw [hrl]; rfl, ⟨hRp, by omega⟩, by omega, s1.dk, fun at_ H2 e2 hD2 hat => ?_⟩
    have s2 := s1.step hD c e2 hD2
    obtain ⟨rs2, hr2, hrs2⟩ := s2.r
    obtain ⟨z, hz⟩ : ∃ z, R[at_]? = some z := ⟨_, List.getElem?_eq_getElem hat⟩
    have hzm := List.mem_of_getElem? hz
    obtain ⟨y, hy1, hy2⟩ := hrs2.get (i := at_) (d := eO z) (by rw [List.getElem?_map, hz]; rfl)
    walk_at "go"
    refine st_ixL (.of hr2) (atI_nat hy1) ?_
    obtain ⟨ya, ka, ra, rfl, hya, hka, hra⟩ := tp_eO hy2
    refine st_g2 hya ?_
    walk_at "go"
    obtain ⟨os2, ho2, hos2⟩ := s2.o
    have hol : os2.length ≤ i := by rw [hos2.len, List.length_map]; exact hO
    refine ⟨tyL (.of ho2), ?_⟩
    walk_at "go"
    refine ⟨szr rfl, fun q hq => ?_⟩
    walk_at "go"
    have e3 : Ex g.T H2 (upd H2 q (.tup [ka, ra])) := .new hq
    refine appendL (e3.at ho2) (by omega) ?_
    have s3 := (s2.ex e3).chO hD c (O' := O ++ [z]) (ys' := os2 ++ [.ref q]) (e3.at ho2) (by
      rw [List.map_append]
      exact (e3.tps hos2).app (.one (.tup (.of upd_same) (.cons (e3.tp hka) (.cons (e3.tp hra) .nil)))))
    have nto : NoTup (upd H2 q (.tup [ka, ra])) ob := noTup_of (e3.at ho2)
    have hka3 : Tp g.K (upd (upd H2 q (.tup [ka, ra])) ob (.lst (os2 ++ [.ref q]))) ka (eK z.1) := (e3.tp hka).up nto
    have hra3 : Tp g.K (upd (upd H2 q (.tup [ka, ra])) ob (.lst (os2 ++ [.ref q]))) ra (eR z.2) := (e3.tp hra).up nto
    generalize upd (upd H2 q (.tup [ka, ra])) ob (.lst (os2 ++ [.ref q])) = H3 at s3 hka3 hra3
    have hzr := rok.row z hzm
    have hzk := rok.key hw1 hzm
    have hO3 : (O ++ [z]).length ≤ i + 1 := by rw [List.length_append]; show O.length + 1 ≤ _; omega
    have fok3 := fok.add hzk hzr
    generalize O ++ [z] = O3 at s3 hO3 fok3
    obtain ⟨kb, rfl, hkb⟩ := tp_eK hka3
    obtain ⟨rb2, rv, rfl, hrb2, hrv⟩ := tp_tup hra3
    walk_at "go"
    refine ⟨Nat.zero_le _, fun q1 hq1 => ?_⟩
    have e4 : Ex g.T H3 (upd H3 q1 (.tup [])) := .new hq1
    have ht1 : Tp g.K (upd H3 q1 (.tup [])) (.ref q1) (eR []) := .tup (.of upd_same) .nil
    generalize upd H3 q1 (.tup []) = H4 at e4 ht1
    walk_at "go"
    refine st_revT ?_
    walk_at "go"
    refine ⟨rb2, rv, rfl, e4.st hrb2, fun q2 hq2 => ?_⟩
    have e5 : Ex g.T H4 (upd H4 q2 (.tup rv.reverse)) := .new hq2
    have ht2 : Tp g.K (upd H4 q2 (.tup rv.reverse)) (.ref q2) (eR z.2.reverse) := by
      refine .tup (.of upd_same) ?_
      rw [List.map_reverse]
      exact ((e4.tps hrv).rev).up (noTup_none hq2)
    generalize upd H4 q2 (.tup rv.reverse) = H5 at e5 ht2
    have e35 := e4.trans e5
    walk_at "go"
    refine slA (e35.st hrb2) fun q3 H6 hH6 hq3 => ?_
    have e6 : Ex g.T H5 H6 := by
      rcases hH6 with rfl | ⟨h1, rfl⟩
      · exact .refl _
      · exact .new h1
    have ht3 : Tp g.K H6 (.ref q3) (eR (z.2.drop 1)) := by
      refine .tup hq3 ?_
      have := cut_from rv 1
      rw [show ((1 : Nat) : Int) = 1 from rfl] at this
      rw [this, List.map_drop]
      exact ((e35.trans e6).tps hrv).drop 1
    have e36 := e35.trans e6
    walk_at "go"
    refine st_ixT (e36.st hkb) rfl ?_
    walk_at "go"
    have s6 := s3.ex e36
    obtain ⟨ls6, hl6, hls6⟩ := s6.l
    refine ⟨d, c0, c1, lb, ls6, _, z.1.1, w, 4, L, rfl, by omega, s6.dk, .of hl6, hls6, hL, hw1, hw2, by decide, by decide, fun v4 H7 row7 e7 hD7 hv4 hrow7 => ?_⟩
    have s7 := s6.step hD c e7 hD7
    walk_at "go"
    refine ⟨szr rfl, fun q5 hq5 => ?_⟩
    have e8 : Ex g.T H7 (upd H7 q5 (.lst [.ref q1, .ref q2, .ref q3, v4])) := .new hq5
    have s8 := s7.ex e8
    have nq5 : New H q5 := s7.eg.new s7.dk (.of hq5)
    have hq5' : (upd H7 q5 (.lst [.ref q1, .ref q2, .ref q3, v4])) q5 = some (.lst [.ref q1, .ref q2, .ref q3, v4]) := upd_same
    have ht17 := e8.tp (e7.tp s6.dk ((e5.trans e6).tp ht1))
    have ht27 := e8.tp (e7.tp s6.dk (e6.tp ht2))
    have ht37 := e8.tp (e7.tp s6.dk ht3)
    have ht47 := e8.tp hv4
    have hka8 := e8.tp (e7.tp s6.dk (e36.tp hka3))
    generalize upd H7 q5 (.lst [.ref q1, .ref q2, .ref q3, v4]) = H8 at s8 hq5' ht17 ht27 ht37 ht47 hka8
    walk_at "go"
    refine ⟨d, c0, c1, 4, _, rfl, ⟨by decide, by decide⟩, by omega, s8.dk, fun r9 H9 e9 hD9 hr9 => ?_⟩
    have s9 := s8.step hD c e9 hD9
    have hq9 := e9.keep hq5' (hD.new_d nq5) (hD.new_c nq5)
    have hka9 := e9.tp s8.dk hka8
    obtain ⟨v, row, hat9, htv, hrowv⟩ : ∃ v row, atI [V.ref q1, V.ref q2, V.ref q3, v4] (r9 : Int) = some v ∧ Tp g.K H9 v (eR row) ∧ RowOk L z.1.1 w row := by
      match r9, hr9 with
      | 0, _ => exact ⟨_, [], rfl, e9.tp s8.dk ht17, .nil⟩
      | 1, _ => exact ⟨_, _, rfl, e9.tp s8.dk ht27, hzr.rev⟩
      | 2, _ => exact ⟨_, _, rfl, e9.tp s8.dk ht37, hzr.drop 1⟩
      | 3, _ => exact ⟨_, row7, rfl, e9.tp s8.dk ht47, hrow7⟩
    refine st_ixL (.of hq9) hat9 ?_
    walk_at "go"
    refine ⟨szr rfl, fun q10 hq10 => ?_⟩
    have e10 : Ex g.T H9 (upd H9 q10 (.tup [.ref kb, v])) := .new hq10
    have s10 := s9.ex e10
    have hnew : Tp g.K (upd H9 q10 (.tup [.ref kb, v])) (.ref q10) (eO (z.1, row)) := .tup (.of upd_same) (.cons (e10.tp hka9) (.cons (e10.tp htv) .nil))
    generalize upd H9 q10 (.tup [.ref kb, v]) = H10 at s10 hnew
    refine st_gsub ?_
    walk_at "go"
    obtain ⟨rs10, hr10, hrs10⟩ := s10.r
    refine ⟨rb, rs10, at_, at_, rfl, rfl, hr10, ixN_nat (by rw [hrs10.len, List.length_map]; exact hat), ?_⟩
    have s11 := s10.chR hD c (R' := R.set at_ (z.1, row)) (ys' := rs10.set at_ (.ref q10)) hr10 (by
      rw [List.map_set]
      exact hrs10.set at_ hnew)
    exact ⟨⟨R.set at_ (z.1, row), O3, s11.le (by omega), rok.set hz hrowv, fok3, hO3⟩, _, _, _, _, _, rfl⟩
  obtain ⟨⟨R, O, s1, rok, fok, hO⟩, x9, x10, x11, x12, x13, rfl⟩ := p
  have hR := hRl R rok
  walk_at "go"
  refine ⟨d, c0, c1, 4, _, rfl, ⟨by decide, by decide⟩, by omega, s1.dk, fun m1 H9 e9 hD9 hm1 => ?_⟩
  have s9 := s1.step hD c e9 hD9
  walk_at "go"
  refine ⟨Nat.zero_le _, fun p hp => ?_⟩
  have s10 := s9.ex (Ex.new (o := .lst []) hp)
  obtain ⟨rs10, hr10, hrs10⟩ := s10.r
  refine ⟨.list (R.map eO), .list [], .lst (.of hr10) hrs10.dps, .lst (.of upd_same) .nil, shp_list (f := eO) 3 eO_pur eO_depth (by decide), rfl, ?_⟩
  rw [eqv_nilO]
  generalize upd H9 p (.lst []) = H10 at s10 hr10 hrs10
  walk_at "go"
  obtain ⟨m', hm', hmn', hme'⟩ := times (m0 := m1) (l := R) (by omega : m1 ≤ 3)
  refine st_I (.inl ⟨by omega, by omega⟩) ?_
  rw [hme']
  walk_at "go"
  refine ⟨m', rfl, by omega, by omega, ?_⟩
  rw [Int.toNat_natCast]
  refine forR (fun i σ H1 => (∃ O, Mst g H d c0 c1 lb rb ob mb L (k + 37 + 26 * 3 + 25 * i) R O [] H1 ∧ FOk n L t w O ∧ O.length ≤ 3 + i) ∧ ∃ x9 x10 x11 x12 x13, σ = [some (.ref d), some (.int lim), some (.int n), some (.ref lb), some (.int t), some (.int w), some (.ref rb), some (.ref ob), some (.ref mb), x9, x10, x11, x12, x13])
    ⟨⟨O, s10.le (by omega), fok, by omega⟩, _, _, _, _, _, rfl⟩ (fun i σ H1 hi p => ?_) (fun σ H1 p => ?_)
  · clear s1 s9 s10 fok hO
    obtain ⟨⟨O, s1, fok, hO⟩, x9, x10, x11, x12, x13, rfl⟩ := p
    have hRp : 0 < R.length := List.length_pos_iff.mpr (hmn' (by omega))
    obtain ⟨rs, hr1, hrs1⟩ := s1.r
    have hrl : rs.length = R.length := by rw [hrs1.len, List.length_map]
    walk_at "go"
    refine lenL (.of hr1) ?_
    walk_at "go"
    refine ⟨d, c0, c1, R.length, _, by rw [hrl]; rfl, ⟨hRp, by omega⟩, by omega, s1.dk, fun at_ H2 e2 hD2 hat => ?_⟩
    have s2 := s1.step hD c e2 hD2
    obtain ⟨rs2, hr2, hrs2⟩ := s2.r
    obtain ⟨z, hz⟩ : ∃ z, R[at_]? = some z := ⟨_, List.getElem?_eq_getElem hat⟩
    have hzm := List.mem_of_getElem? hz
    obtain ⟨y, hy1, hy2⟩ := hrs2.get (i := at_) (d := eO z) (by rw [List.getElem?_map, hz]; rfl)
    walk_at "go"
    refine st_ixL (.of hr2) (atI_nat hy1) ?_
    obtain ⟨ya, ka, ra, rfl, hya, hka, hra⟩ := tp_eO hy2
    walk_at "go"
    refine st_ixT hya rfl ?_
    walk_at "go"
    obtain ⟨os2, ho2, hos2⟩ := s2.o
    refine ⟨tyL (.of ho2), ?_⟩
    walk_at "go"
    obtain ⟨kb, rfl, hkb⟩ := tp_eK hka
    refine st_ixT hkb rfl ?_
    walk_at "go"
    obtain ⟨ls6, hl6, hls6⟩ := s2.l
    refine ⟨d, c0, c1, lb, ls6, _, z.1.1, w, 4, L, rfl, by omega, s2.dk, .of hl6, hls6, hL, hw1, hw2, by decide, by decide, fun v4 H7 row7 e7 hD7 hv4 hrow7 => ?_⟩
    have s7 := s2.step hD c e7 hD7
    walk_at "go"
    refine ⟨szr rfl, fun q hq => ?_⟩
    walk_at "go"
    have e8 : Ex g.T H7 (upd H7 q (.tup [.ref kb, v4])) := .new hq
    have s8 := s7.ex e8
    obtain ⟨os8, ho8, hos8⟩ := s8.o
    have hol : os8.length ≤ 6 := by rw [hos8.len, List.length_map]; omega
    refine appendL ho8 (by omega) ?_
    walk_at "go"
    have s9 := s8.chO hD c (O' := O ++ [(z.1, row7)]) (ys' := os8 ++ [.ref q]) ho8 (by
      rw [List.map_append]
      exact hos8.app (.one (.tup (.of upd_same) (.cons (e8.tp (e7.tp s2.dk hka)) (.cons (e8.tp hv4) .nil)))))
    exact ⟨⟨O ++ [(z.1, row7)], s9.le (by omega), fok.add (show KeyOk n L t w z.1 from rok.key hw1 hzm) hrow7, by rw [List.length_append]; show O.length + 1 ≤ _; omega⟩, _, _, _, _, _, rfl⟩
  clear s1 s9 s10 fok hO
  obtain ⟨⟨O, s1, fok, hO⟩, x9, x10, x11, x12, x13, rfl⟩ := p
  have hO6 : O.length ≤ 6 := by omega
  have s1 := s1.le (show _ ≤ k + 200 by omega)
  clear hO
  walk_at "go"
  refine ⟨fun m σ H1 => (∃ O M, m = O.length ∧ Mst g H d c0 c1 lb rb ob mb L (k + 200 + (6 - m)) R O M H1 ∧ FOk n L t w O ∧ FOk n L t w M ∧ O.length + M.length ≤ 6) ∧ σ = [some (.ref d), some (.int lim), some (.int n), some (.ref lb), some (.int t), some (.int w), some (.ref rb), some (.ref ob), some (.ref mb), x9, x10, x11, x12, x13], ?_, ?_⟩
  · exact ⟨_, ⟨O, [], rfl, s1.le (by omega), fok, ⟨fun x h => (nomatch h), fun x h => (nomatch h)⟩, hO6⟩, rfl⟩
  clear s1 fok hO6
  rintro m2 σ H2 ⟨⟨O, M, rfl, s2, fok, fokM, hOM⟩, rfl⟩
  walk_at "go"
  refine ⟨Nat.zero_le _, fun p hp => ?_⟩
  have s3 := s2.ex (Ex.new (o := .lst []) hp)
  obtain ⟨os3, ho3, hos3⟩ := s3.o
  refine ⟨.list (O.map eO), .list [], .lst (.of ho3) hos3.dps, .lst (.of upd_same) .nil, shp_list (f := eO) 3 eO_pur eO_depth (by decide), rfl, ?_⟩
  rw [eqv_nilO]
  refine ⟨_, rfl, ?_⟩
  generalize upd H2 p (.lst []) = H3 at s3 ho3 hos3
  by_cases hO : O = []
  case neg =>
    refine st_T (by rw [decide_eq_false hO]; rfl) ?_
    have hpos : 0 < O.length := List.length_pos_iff.mpr hO
    have hol : os3.length = O.length := by rw [hos3.len, List.length_map]
    refine ⟨fun σ' H' => ∃ m', m' < O.length ∧ (∃ O M, m' = O.length ∧ Mst g H d c0 c1 lb rb ob mb L (k + 200 + (6 - m')) R O M H' ∧ FOk n L t w O ∧ FOk n L t w M ∧ O.length + M.length ≤ 6) ∧ σ' = [some (.ref d), some (.int lim), some (.int n), some (.ref lb), some (.int t), some (.int w), some (.ref rb), some (.ref ob), some (.ref mb), x9, x10, x11, x12, x13], fun σ' H' h => h, ?_⟩
    walk_at "go"
    obtain ⟨ms3, hm3, hms3⟩ := s3.m
    refine ⟨tyL (.of hm3), ?_⟩
    walk_at "go"
    refine ⟨tyL (.of ho3), ?_⟩
    walk_at "go"
    refine lenL (.of ho3) ?_
    walk_at "go"
    refine ⟨d, c0, c1, O.length, _, by rw [hol]; rfl, ⟨hpos, by omega⟩, by omega, s3.dk, fun r H4 e4 hD4 hr => ?_⟩
    have s4 := s3.step hD c e4 hD4
    obtain ⟨os4, ho4, hos4⟩ := s4.o
    obtain ⟨z, hz⟩ : ∃ z, O[r]? = some z := ⟨_, List.getElem?_eq_getElem hr⟩
    have hzm := List.mem_of_getElem? hz
    obtain ⟨y, hy1, hy2⟩ := hos4.get (i := r) (d := eO z) (by rw [List.getElem?_map, hz]; rfl)
    have hol4 : os4.length = O.length := by rw [hos4.len, List.length_map]
    walk_at "go"
    refine popL (i := r) ho4 (by omega) (by omega) hy1 ?_
    have s5 := s4.chO hD c (O' := O.eraseIdx r) (ys' := os4.eraseIdx r) ho4 (by rw [← erase_map]; exact hos4.erase r)
    have nto : NoTup H4 ob := noTup_of ho4
    have hy5 : Tp g.K (upd H4 ob (.lst (os4.eraseIdx r))) y (eO z) := hy2.up nto
    generalize upd H4 ob (.lst (os4.eraseIdx r)) = H5 at s5 hy5
    walk_at "go"
    obtain ⟨ms5, hm5, hms5⟩ := s5.m
    refine appendL hm5 (by rw [hms5.len, List.length_map]; omega) ?_
    walk_at "go"
    have s6 := s5.chM hD c (M' := M ++ [z]) (ys' := ms5 ++ [y]) hm5 (by
      rw [List.map_append]
      exact hms5.app (.one hy5))
    have hel : (O.eraseIdx r).length = O.length - 1 := List.length_eraseIdx_of_lt hr
    refine ⟨O.length - 1, by omega, ⟨O.eraseIdx r, M ++ [z], hel.symm, s6.le (by omega), ⟨fun x hx => fok.key x (List.mem_of_mem_eraseIdx hx), fun x hx => fok.row x (List.mem_of_mem_eraseIdx hx)⟩, fokM.add (fok.key z hzm) (fok.row z hzm), by rw [List.length_append, hel]; show O.length - 1 + (M.length + 1) ≤ 6; omega⟩, rfl⟩
  subst hO
  refine st_F rfl ?_
  walk_at "go"
  obtain ⟨rs3, hr3, hrs3⟩ := s3.r
  have hR119 : R.length ≤ 119 := by omega
  have hdic : TpAll g.K H3 rs3 ((R.map fun x : Ky × Row => (ko x.1, eR x.2)).map fun x : KO × D => PyData.tuple [kD x.1, x.2]) := by
    rw [List.map_map]
    exact hrs3
  refine ⟨rb, rs3, R.map fun x : Ky × Row => (ko x.1, eR x.2), rfl, .of hr3, hdic, fun rd Ln hrd hd => ?_⟩
  have hnd : (R.map (·.1)).Nodup := by rw [rok.keys]; exact keysOf_nodup _ _ _ _
  have hra : RowsAt g (upd H3 rd (DicN g.P g.w rd Ln)) rd R := by
    refine ⟨_, hd, fun key => ?_⟩
    rw [dputs_nodup _ [] (by
      rw [List.nil_append, List.map_map]
      have : (R.map ((fun x : KO × D => x.1) ∘ fun x : Ky × Row => (ko x.1, eR x.2))) = (R.map (·.1)).map ko := by rw [List.map_map]; rfl
      rw [this]
      exact nodup_map_inj (fun a b e => ko_inj e) hnd), List.nil_append]
    exact dval_rows R key
  have s4 := s3.ex (Ex.new (o := DicN g.P g.w rd Ln) hrd)
  generalize upd H3 rd (DicN g.P g.w rd Ln) = H4 at s4 hra
  walk_at "go"
  refine ⟨szr rfl, fun sc hsc => ?_⟩
  have e5 : Ex g.T H4 (upd H4 sc (.lst [.int n, .ref lb, .int t, .int w, .ref rd, .non])) := .new hsc
  have s5 := s4.ex e5
  have hra5 : RowsAt g (upd H4 sc (.lst [.int n, .ref lb, .int t, .int w, .ref rd, .non])) rd R := hra.mv e5
  have hsc5 : (upd H4 sc (.lst [.int n, .ref lb, .int t, .int w, .ref rd, .non])) sc = some (.lst [.int n, .ref lb, .int t, .int w, .ref rd, .non]) := upd_same
  generalize upd H4 sc (.lst [.int n, .ref lb, .int t, .int w, .ref rd, .non]) = H5 at s5 hra5 hsc5
  walk_at "go"
  refine ⟨sc, _, rfl, .of hsc5, fun p5 hp5 => ?_⟩
  rw [show (5 : Int) = ((5 : Nat) : Int) from rfl, cut_to]
  have e6 : Ex g.T H5 (upd H5 p5 (.lst (([.int n, .ref lb, .int t, .int w, .ref rd, .non] : List V).take 5))) := .new hp5
  have s6 := s5.ex e6
  have hp6 : (upd H5 p5 (.lst (([.int n, .ref lb, .int t, .int w, .ref rd, .non] : List V).take 5))) p5 = some (.lst [.int n, .ref lb, .int t, .int w, .ref rd]) := upd_same
  have hra6 := hra5.mv e6
  have hsc6 := e6.at hsc5
  generalize upd H5 p5 (.lst (([.int n, .ref lb, .int t, .int w, .ref rd, .non] : List V).take 5)) = H6 at s6 hp6 hra6 hsc6
  walk_at "go"
  refine st_ixL (.of hsc6) rfl ?_
  walk_at "go"
  obtain ⟨ls6, hl6, hls6⟩ := s6.l
  refine ⟨sc, rd, n, t, w, L, R, rfl, ⟨lb, ls6, _, _, hsc6, hl6, hls6⟩, hra6, nok, hsrt, ⟨ht, hw1, hw2⟩, rok.keys, rok.row, fun b H7 e7 hb => ?_⟩
  have s7 := s6.ex e7
  walk_at "go"
  refine ⟨szr rfl, fun q8 hq8 => ?_⟩
  have e8 : Ex g.T H7 (upd H7 q8 (.lst [.ref b])) := .new hq8
  refine catL ((e7.trans e8).at hp6) upd_same (Nat.le_of_ble_eq_true rfl) fun sc9 hsc9 => ?_
  have e9 : Ex g.T (upd H7 q8 (.lst [.ref b])) (upd (upd H7 q8 (.lst [.ref b])) sc9 (.lst ([.int n, .ref lb, .int t, .int w, .ref rd] ++ [.ref b]))) := .new hsc9
  have s9 := (s7.ex e8).ex e9
  have nsc9 : New H sc9 := (s7.ex e8).eg.new (s7.ex e8).dk (.of hsc9)
  have hb9 := (e8.trans e9).book hb
  have hsc9' : (upd (upd H7 q8 (.lst [.ref b])) sc9 (.lst ([.int n, .ref lb, .int t, .int w, .ref rd] ++ [.ref b]))) sc9 = some (.lst [.int n, .ref lb, .int t, .int w, .ref rd, .ref b]) := upd_same
  generalize upd (upd H7 q8 (.lst [.ref b])) sc9 (.lst ([.int n, .ref lb, .int t, .int w, .ref rd] ++ [.ref b])) = H9 at s9 hb9 hsc9'
  walk_at "go"
  obtain ⟨ms9, hm9, hms9⟩ := s9.m
  refine tupL (.of hm9) fun q10 hq10 => ?_
  have e10 : Ex g.T H9 (upd H9 q10 (.tup ms9)) := .new hq10
  have s10 := s9.ex e10
  have hmv : Tp g.K (upd H9 q10 (.tup ms9)) (.ref q10) (.tuple (M.map eO)) := .tup (.of upd_same) (hms9.up (noTup_none hq10))
  have hb10 := e10.book hb9
  have hsc10 := e10.at hsc9'
  generalize upd H9 q10 (.tup ms9) = H10 at s10 hmv hb10 hsc10
  walk_at "go"
  refine ⟨szr rfl, fun q11 hq11 => ?_⟩
  have e11 : Ex g.T H10 (upd H10 q11 (.tup [.ref sc9, .ref q10])) := .new hq11
  have s11 := s10.ex e11
  exact kk q11 sc9 b (.ref q10) _ _ _ _ _ _ ⟨n, L, t, w, rowF R⟩ M s11.eg (s11.dk.le (by omega)) (.of upd_same) (e11.at hsc10) nsc9 (e11.book hb10) (e11.tp hmv) ⟨fokM.key, fokM.row, by omega⟩
end Sp
end
section
set_option Elab.async false
set_option linter.all false
set_option maxRecDepth 100000
set_option maxHeartbeats 4000000
set_option autoImplicit false
local macro_rules | `(tactic| walk_at "go") => `(tactic| repeat first
  | (with_reducible first
     | refine Sp.st_var rfl ?_ | refine Sp.st_c ?_ | refine Sp.st_op ?_ | refine Sp.st_seq ?_ | refine Sp.st_asg ?_ | refine Sp.st_name ?_
     | refine Sp.st_ret ?_ | refine Sp.st_drop ?_ | refine Sp.st_next ?_ | refine Sp.st_if ?_ | refine Sp.st_nx ?_ | refine Sp.st_rt ?_
     | refine Sp.st_cons ?_ | refine Sp.st_nil ?_ | refine Sp.st_cb ?_ | refine Sp.st_call ?_ | refine Sp.st_test ?_ | refine Sp.st_B ?_
     | refine Sp.st_not ?_ | refine Sp.st_and ?_ | refine Sp.st_or ?_ | refine Sp.st_andV ?_ | refine Sp.st_orV ?_ | refine Sp.st_notV ?_
     | refine Sp.st_tif ?_ | refine Sp.st_tup ?_ | refine Sp.st_lst ?_ | refine Sp.st_blx ?_ | refine Sp.st_I0 ?_ | refine Sp.st_U ?_
     | refine Sp.st_eqI ?_ | refine Sp.st_neI ?_ | refine Sp.st_chain ?_ | refine Sp.isiI ?_ | refine Sp.isiB ?_ | refine Sp.isiS ?_
     | refine Sp.st_T rfl ?_ | refine Sp.st_F rfl ?_ | refine Sp.st_lc ?_ | refine Sp.st_iT ?_ | refine Sp.st_iL ?_ | refine Sp.st_iR1 ?_
     | refine Sp.st_iR2 ?_ | refine Sp.st_iET ?_ | refine Sp.st_iZA ?_ | refine Sp.st_iZLT ?_ | refine Sp.st_for ?_ | refine Sp.st_fld ?_
     | refine Sp.st_sfld ?_ | refine Sp.st_prop ?_ | refine Sp.st_meth ?_ | refine Sp.st_make ?_ | refine Sp.st_isN ?_ | refine Sp.st_yes ?_
     | refine Sp.isNI ?_ | refine Sp.notNI ?_ | refine Sp.int1I ?_ | refine Sp.int1B ?_ | refine Sp.min2I ?_ | refine Sp.max2I ?_
     | refine Sp.st_dputN ?_ | refine Sp.st_dgetN ?_ | refine Sp.st_revL ?_ | refine Sp.st_din ?_ | refine Sp.st_dnin ?_ | refine Sp.st_dget ?_ | refine Sp.st_dput ?_ | refine Sp.st_dc ?_ | refine Sp.st_dcN ?_
     | refine Sp.st_sortLam ?_ | refine Sp.st_lc2 ?_ | refine Sp.st_un ?_ | refine Sp.st_lenSet ?_ | refine Sp.st_bm ?_ | refine Sp.st_lenO ?_ | refine Sp.st_sl ?_ | refine Sp.st_part ?_ | refine Sp.st_nopart ?_ | refine Sp.st_intx ?_)
  | ((with_reducible refine Sp.st_wp ?_ ?_); (focus rfl)))
namespace Sp
open PySem PySem.Spec L2

-- _law_is_good: slots _law_book_here 0, _law_offers 1, _law_choice 2, _law_number 3; cells []
abbrev s__law_is_good : Stmt := top 73
abbrev N__law_is_good : List Str := ["_law_book_here", "_law_offers", "_law_choice", "_law_number"]
theorem sc__law_is_good : FnScope N__law_is_good ["_law_book_here", "_law_offers", "_law_choice", "_law_number"] (defScope s__law_is_good) := ⟨rfl, rfl, rfl, by decide +kernel, rfl, by decide +kernel, by decide +kernel⟩
def sp__law_is_good (g : Gx) : Sp := fun vs H Q _ => ∃ a v c B, ∃ ofs : List (Ky × Row), ∃ ch : List Nat, ∃ num : Nat, vs = [.ref a, v, c, .int num] ∧ LamX.Tabs g.T H ∧ BookAt g H a B ∧ Tp g.K H v (.tuple (ofs.map eO)) ∧ OfOk B.n B.L B.t B.w ofs ∧ Tp g.K H c (ot ch) ∧ ChOk ofs ch ∧ ∀ H', Ex g.T H H' → Q (.bl (decide (min num B.L.length ≤ strF (changedF B ofs ch)))) H'
theorem ok__law_is_good (g : Gx) (T : Blt g.mg) (Z : Fct g) (C_strength : Cal g.P g.w g.K g.mg g.base 12 "strength" ["book"] (sp_strength g)) (C_changed : Cal g.P g.w g.K g.mg g.base 8 "changed" ["book", "offers", "choice"] (sp_changed g)) (C___len__ : CalM g.P g.w g.K g.mg g.base 1 g.nc "__len__" ["self"] (sp_Net___len__ g)) (C_net : CalP g.P g.w g.K g.mg g.base 1 g.bc "net" (sp_Book_net g))  {f : Addr} {fd : FuncData} (F : Fun g.K "_law_is_good" "_law_is_good" s__law_is_good f fd) : FnOk g.P g.w g.K g.mg g.base CX0 13 f fd ["_law_book_here", "_law_offers", "_law_choice", "_law_number"] (sp__law_is_good g) := by
  refine F.ok sc__law_is_good (fun vs H Q E h => ?_) (fun cdv A outer s H vs Q E hr h => ?_)
  · first | (obtain ⟨rfl, _⟩ := h; rfl) | (obtain ⟨_, rfl, _⟩ := h; rfl) | (obtain ⟨_, _, rfl, _⟩ := h; rfl) | (obtain ⟨_, _, _, rfl, _⟩ := h; rfl) | (obtain ⟨_, _, _, _, rfl, _⟩ := h; rfl) | (obtain ⟨_, _, _, _, _, rfl, _⟩ := h; rfl) | (obtain ⟨_, _, _, _, _, _, rfl, _⟩ := h; rfl) | (obtain ⟨_, _, _, _, _, _, _, rfl, _⟩ := h; rfl) | (obtain ⟨_, _, _, _, _, _, _, _, rfl, _⟩ := h; rfl) | (obtain ⟨_, _, _, _, _, _, _, _, _, rfl, _⟩ := h; rfl) | (obtain ⟨_, _, _, _, _, _, _, _, _, _, rfl, _⟩ := h; rfl) | (obtain ⟨_, _, _, _, _, _, _, _, _, _, _, rfl, _⟩ := h; rfl) | (obtain ⟨_, _, _, _, _, _, _, _, _, _, _, _, rfl, _⟩ := h; rfl) | (obtain ⟨_, _, _, _, _, _, _, _, _, _, _, _, _, rfl, _⟩ := h; rfl)
  have hu := room_un hr
  obtain ⟨a, v, c, B, ofs, ch, num, rfl, htab, hB, hv, ok, hc, cok, kk⟩ := h
  refine ⟨_, (pss_one (ps_ret (pe_cmpR op_ge (pe_cF C_strength (hr.mono (by decide)) rfl (pa_cons (pe_cF C_changed (hr.mono (by decide)) rfl (pa_cons (pv 0) (pa_cons (pv 1) (pa_cons (pv 2) pa_nil)))) pa_nil)) (pe_callB min2W (by rfl) T.b_min boot_f_min (pa_cons (pv 3) (pa_cons (pe_lenO C___len__ (hr.mono (by decide)) rfl T.b_len (pe_pF C_net (hr.mono (by decide)) (pv 0) rfl)) pa_nil))) (nomark _)))), ?_⟩
  walk_at "go"
  refine ⟨a, v, c, B, ofs, ch, rfl, hB, hv, ok, hc, cok, fun b H1 e1 hb => ?_⟩
  walk_at "go"
  refine ⟨b, changedF B ofs ch, rfl, hb, e1.tab htab, fun H2 e2 => ?_⟩
  walk_at "go"
  have hB2 := (e1.trans e2).book hB
  obtain ⟨⟨dx, gr, d0, l, kvs, h1, h2, h3, h4⟩, bok⟩ := hB2
  refine ⟨a, _, _, rfl, h1, a, B, rfl, (e1.trans e2).book hB, fun gr2 hgr => ?_⟩
  obtain ⟨dx2, p2, ys2, q1, _⟩ := hgr.ex
  have nf := bok.net.few
  refine ⟨gr2, _, _, rfl, q1, gr2, B.n, B.L, rfl, hgr, B.L.length, rfl, by omega, by omega, ?_⟩
  walk_at "go"
  have hmin : (if (B.L.length : Int) < (num : Int) then (B.L.length : Int) else (num : Int)) = ((min num B.L.length : Nat) : Int) := by
    split <;> omega
  rw [hmin]
  exact kk _ (e1.trans e2)
theorem eqv_nilOT (l : List (Ky × Row)) : PyData.eqv (.tuple (l.map eO)) (.tuple []) = decide (l = []) := by
  cases l with
  | nil => rw [PyData.eqv]; rfl
  | cons x l =>
    rw [PyData.eqv, List.map_cons, PyData.eqvAll]
    rfl
theorem times2 {α : Type} [DecidableEq α] {m0 : Nat} {l : List α} : ∃ m : Nat, m ≤ m0 ∧ m ≤ m0 ∧ (0 < m → l ≠ []) ∧ (m0 : Int) * (if (!decide (l = [])) = true then 1 else 0) = m := by
  by_cases e : l = []
  · subst e
    exact ⟨0, Nat.zero_le _, Nat.zero_le _, fun h => (nomatch h), by simp⟩
  · exact ⟨m0, Nat.le_refl _, Nat.le_refl _, fun _ => e, by simp [e]⟩
theorem srt_lt {l : List Nat} (h : l.Nodup) : (srt l).Pairwise (· < ·) := by
  have h1 : (srt l).Pairwise fun a b => decide (a ≤ b) = true := List.pairwise_mergeSort (fun a b c h1 h2 => by simp only [decide_eq_true_eq] at *; omega) (fun a b => by simp only [Bool.or_eq_true, decide_eq_true_eq]; omega) l
  have h2 : (srt l).Nodup := (List.mergeSort_perm l _).nodup_iff.mpr h
  exact (h1.and h2).imp fun h => by
    have := of_decide_eq_true h.1
    have := h.2
    omega
-- _law_drawn: slots _law_deck_here 0, _law_offers 1, _law_limit 2, _law_found 3, _law_turn 4, _law_k 5, _law_other 6; cells ['_law_offers']
abbrev s__law_drawn : Stmt := top 74
abbrev N__law_drawn : List Str := ["_law_deck_here", "_law_offers", "_law_limit", "_law_found", "_law_turn", "_law_k", "_law_other"]
theorem sc__law_drawn : FnScope N__law_drawn ["_law_deck_here", "_law_offers", "_law_limit"] (defScope s__law_drawn) := ⟨rfl, rfl, rfl, by decide +kernel, rfl, by decide +kernel, by decide +kernel⟩
def sp__law_drawn (g : Gx) : Sp := fun vs H Q _ => ∃ d c0 c1 v, ∃ k lim : Nat, ∃ ofs : List (Ky × Row), vs = [.ref d, v, .int lim] ∧ k ≤ 900000 ∧ lim ≤ 3 ∧ Deck H d c0 c1 k ∧ Tp g.K H v (.tuple (ofs.map eO)) ∧ ofs.length ≤ 6 ∧ ∀ r H' (ch : List Nat), Eg g.T d c0 H H' → Deck H' d c0 c1 (k + 3) → Tp g.K H' r (ot ch) → ChOk ofs ch → ch.Pairwise (· < ·) → ch.length ≤ lim → Q r H'
theorem ok__law_drawn (g : Gx) (T : Blt g.mg) (Z : Fct g) (C__law_next : Cal g.P g.w g.K g.mg g.base 1 "_law_next" ["_law_deck_here", "_law_many"] (sp__law_next g))  {f : Addr} {fd : FuncData} (F : Fun g.K "_law_drawn" "_law_drawn" s__law_drawn f fd) : FnOk g.P g.w g.K g.mg g.base CX0 2 f fd ["_law_deck_here", "_law_offers", "_law_limit"] (sp__law_drawn g) := by
  refine F.ok sc__law_drawn (fun vs H Q E h => ?_) (fun cdv A outer s H vs Q E hr h => ?_)
  · first | (obtain ⟨rfl, _⟩ := h; rfl) | (obtain ⟨_, rfl, _⟩ := h; rfl) | (obtain ⟨_, _, rfl, _⟩ := h; rfl) | (obtain ⟨_, _, _, rfl, _⟩ := h; rfl) | (obtain ⟨_, _, _, _, rfl, _⟩ := h; rfl) | (obtain ⟨_, _, _, _, _, rfl, _⟩ := h; rfl) | (obtain ⟨_, _, _, _, _, _, rfl, _⟩ := h; rfl) | (obtain ⟨_, _, _, _, _, _, _, rfl, _⟩ := h; rfl) | (obtain ⟨_, _, _, _, _, _, _, _, rfl, _⟩ := h; rfl) | (obtain ⟨_, _, _, _, _, _, _, _, _, rfl, _⟩ := h; rfl) | (obtain ⟨_, _, _, _, _, _, _, _, _, _, rfl, _⟩ := h; rfl) | (obtain ⟨_, _, _, _, _, _, _, _, _, _, _, rfl, _⟩ := h; rfl) | (obtain ⟨_, _, _, _, _, _, _, _, _, _, _, _, rfl, _⟩ := h; rfl) | (obtain ⟨_, _, _, _, _, _, _, _, _, _, _, _, _, rfl, _⟩ := h; rfl)
  have hu := room_un hr
  obtain ⟨d, c0, c1, v, k, lim, ofs, rfl, hk, hl, hD, hv, hof, kk⟩ := h
  refine ⟨_, (pss_cons (ps_set (i := 3) sc__law_drawn.nd rfl (Or.inl rfl) (pe_lst pa_nil))
      (pss_cons (ps_for PassesOwn.never rfl (pi_range1 (by rfl) T.b_range (pa_cons (pe_op op_mul (pv 2) (pe_callTy int1W (by rfl) T.b_int boot_t_int (pa_cons (pe_cmpR (neDW g hu) (pv 1) (pe_tup pa_nil) (nomark _)) pa_nil))) pa_nil)) (pg_name (i := 4) sc__law_drawn.nd rfl (Or.inl rfl)) (pss_cons (ps_set (i := 5) sc__law_drawn.nd rfl (Or.inl rfl) (pe_cF C__law_next (hr.mono (by decide)) rfl (pa_cons (pv 0) (pa_cons (pe_callB (lenW g) (by rfl) T.b_len boot_f_len (pa_cons (pv 1) pa_nil)) pa_nil))))
      (pss_one (ps_if (pt_cmpR (ninDW g hu) (pe_ix (ixW g) (pe_ix (ixW g) (pv 1) (pv 5) (fun _ _ => rfl)) pe_int (fun _ _ => rfl)) (pe_lc (own := [("_law_other", 6)]) rfl sc__law_drawn.nd (iLW g (pv 3)) (blkOk_by rfl) (fun _ _ _ _ _ => pg_name (i := 6) sc__law_drawn.nd rfl (Or.inl rfl)) (fun _ _ _ _ _ => pts_nil) (fun _ _ _ _ _ => (pe_ix (ixW g) (pe_ix (ixW g) (pv 1) (pv 6) (fun _ _ => rfl)) pe_int (fun _ _ => rfl)))) rfl) (pss_one (ps_expr (bmW g PySem.F.plainAttrs_list PySem.F.slot_list_append PySem.F.type_list_append mt_append (pv 3) (pa_cons (pv 5) pa_nil)))) pss_nil))))
      (pss_one (ps_ret (pe_callTy (tupOfW g) (by rfl) T.b_tuple boot_t_tuple (pa_cons (pe_callB (sortedDW g hu) (by rfl) T.b_sorted boot_f_sorted (pa_cons (pv 3) pa_nil)) pa_nil)))))), ?_⟩
  obtain ⟨va, vx, rfl, hva, hvx⟩ := tp_tup hv
  have hv' := hv
  have hvl : vx.length = ofs.length := by rw [hvx.len, List.length_map]
  walk_at "go"
  refine ⟨Nat.zero_le _, fun fb hfb => ?_⟩
  walk_at "go"
  refine ⟨Nat.zero_le _, fun p hp => ?_⟩
  have e0 : Ex g.T H (upd (upd H fb (.lst [])) p (.tup [])) := (Ex.new hfb).trans (.new hp)
  have hfb0 : (upd (upd H fb (.lst [])) p (.tup [])) fb = some (.lst []) := by rw [upd_ne (fun z => by rw [z, upd_same] at hp; cases hp)]; exact upd_same
  refine ⟨.tuple (ofs.map eO), .tuple [], (e0.tp hv').dp, .tup (.of upd_same) .nil, shp_tup (f := eO) 3 eO_pur eO_depth (by decide), rfl, ?_⟩
  rw [eqv_nilOT]
  have nfb : New H fb := .of hfb
  generalize upd (upd H fb (.lst [])) p (.tup []) = H1 at e0 hfb0
  walk_at "go"
  obtain ⟨m, hm, hml, hmn, hme⟩ := times2 (m0 := lim) (l := ofs)
  refine st_I (.inl ⟨by omega, by omega⟩) ?_
  rw [hme]
  walk_at "go"
  refine ⟨m, rfl, by omega, by omega, ?_⟩
  rw [Int.toNat_natCast]
  have nf1 := hD.new_d nfb
  have nf2 := hD.new_c nfb
  have nf3 := hD.new_e nfb
  refine forR (fun i σ H1 => (∃ ch : List Nat, Eg g.T d c0 H H1 ∧ Deck H1 d c0 c1 (k + i) ∧ H1 fb = some (.lst (ch.map fun n : Nat => V.int n)) ∧ ch.length ≤ i ∧ (∀ j ∈ ch, j < ofs.length) ∧ (ch.map (keyAt ofs)).Nodup) ∧ ∃ x4 x5, σ = [some (.ref d), some (.ref va), some (.int lim), some (.ref fb), x4, x5, none])
    ⟨⟨[], e0.eg, e0.deck hD, hfb0, Nat.le_refl _, fun j h => (nomatch h), List.nodup_nil⟩, _, _, rfl⟩ (fun i σ H1 hi p => ?_) (fun σ H1 p => ?_)
  · obtain ⟨⟨ch, e1, hD1, hf1, hcl, hcj, hcn⟩, x4, x5, rfl⟩ := p
    have hpos : 0 < ofs.length := List.length_pos_iff.mpr (hmn (by omega))
    walk_at "go"
    refine lenT (e1.st hD.nd hD.nc hva) ?_
    walk_at "go"
    refine ⟨d, c0, c1, ofs.length, _, by rw [hvl]; rfl, ⟨hpos, by omega⟩, by omega, hD1, fun r H2 e2 hD2 hr => ?_⟩
    have e12 := e1.trans e2
    have hva2 := e12.st hD.nd hD.nc hva
    have hvx2 := e12.tps hD hvx
    have hf2 := e2.keep hf1 nf1 nf2
    obtain ⟨y, hy1, hy2⟩ := hvx2.get (i := r) (d := eO (ofs.getD r dflt)) (by rw [List.getElem?_map, List.getD_eq_getElem?_getD, List.getElem?_eq_getElem hr]; rfl)
    obtain ⟨ya, ka, ra, rfl, hya, hka, hra⟩ := tp_eO hy2
    walk_at "go"
    refine st_ixT hva2 (atI_nat hy1) ?_
    walk_at "go"
    refine st_ixT hya rfl ?_
    walk_at "go"
    refine ⟨fb, rfl, ⟨_, .of hf2⟩, ?_⟩
    refine lcL (T := g.T) (l := ch) (enc := eN) (fun _ => true) (fun i => eK (keyAt ofs i)) (.of hf2) (tpOfNats ch) (by omega) (fun z x H3 hz e3 hx => ?_) fun q H3 zs nq e3 hq hzs => ?_
    · intro Yes No hY hN
      cases tp_int hx
      have hzl := hcj z hz
      obtain ⟨y2, hy3, hy4⟩ := (e3.tps hvx2).get (i := z) (d := eO (ofs.getD z dflt)) (by rw [List.getElem?_map, List.getD_eq_getElem?_getD, List.getElem?_eq_getElem hzl]; rfl)
      obtain ⟨ya2, ka2, ra2, rfl, hya2, hka2, hra2⟩ := tp_eO hy4
      walk_at "go"
      refine st_ixT (e3.st hva2) (atI_nat hy3) ?_
      walk_at "go"
      refine st_ixT hya2 rfl ?_
      exact hY rfl _ _ (.refl _) hka2
    rw [List.filter_eq_self.mpr (fun _ _ => rfl)] at hzs
    refine ⟨_, _, (e3.tp hka).dp, .lst (.of hq) hzs.dps, shp1 (eK_pur _) (eK_depth _) (by decide), shp_list (f := fun i => eK (keyAt ofs i)) 1 (fun x => eK_pur _) (fun x => eK_depth _) (by decide), ?_⟩
    have hfq := e3.at hf2
    by_cases hm : keyAt ofs r ∈ ch.map (keyAt ofs)
    · have h0 := any_in (f := eK) (eK_pur _) hm
      rw [List.map_map] at h0
      refine st_blx ?_
      refine st_F (by show (!_) = false; rw [show (List.any (List.map (fun i => eK (keyAt ofs i)) ch) fun z => PyData.eqv z (eK (ofs.getD r dflt).1)) = true from h0]; rfl) ?_
      walk_at "go"
      exact ⟨⟨ch, e12.then e3, (e3.deck hD2).le (by omega), hfq, by omega, hcj, hcn⟩, _, _, rfl⟩
    · have h0 := any_nin (f := eK) eK_pur eK_inj hm
      rw [List.map_map] at h0
      refine st_blx ?_
      refine st_T (by show (!_) = true; rw [show (List.any (List.map (fun i => eK (keyAt ofs i)) ch) fun z => PyData.eqv z (eK (ofs.getD r dflt).1)) = false from h0]; rfl) ?_
      walk_at "go"
      refine ⟨tyL (.of hfq), ?_⟩
      walk_at "go"
      refine appendL hfq (by rw [List.length_map]; omega) ?_
      walk_at "go"
      refine ⟨⟨ch ++ [r], (e12.then e3).mut nfb nf1 nf2 hfq trivial, ((e3.deck hD2).up nf1 nf2 nf3).le (by omega), by rw [upd_same, List.map_append]; rfl, by rw [List.length_append]; show ch.length + 1 ≤ _; omega, fun j hj => ?_, ?_⟩, _, _, rfl⟩
      · rcases List.mem_append.mp hj with hj | hj
        · exact hcj j hj
        · rw [List.mem_singleton.mp hj]; exact hr
      · rw [List.map_append, List.nodup_append]
        refine ⟨hcn, nd1 _, fun x hx y hy e => ?_⟩
        rw [List.map_cons, List.map_nil, List.mem_singleton] at hy
        rw [e, hy] at hx
        exact hm hx
  · obtain ⟨⟨ch, e1, hD1, hf1, hcl, hcj, hcn⟩, x4, x5, rfl⟩ := p
    walk_at "go"
    refine sortL (.of hf1) (tpOfNats ch) fun q ys hq hys => ?_
    have e2 : Ex g.T H1 (upd H1 q (.lst ys)) := .new hq
    have hq2 : (upd H1 q (.lst ys)) q = some (.lst ys) := upd_same
    generalize upd H1 q (.lst ys) = H2 at hys e2 hq2
    walk_at "go"
    refine tupL (.of hq2) fun q3 hq3 => ?_
    have e3 : Ex g.T H2 (upd H2 q3 (.tup ys)) := .new hq3
    have hsp : (srt ch).Perm ch := List.mergeSort_perm _ _
    have hchn : ch.Nodup := nodup_of_map hcn
    refine kk _ _ (srt ch) ((e1.then e2).then e3) ((e3.deck (e2.deck hD1)).le (by omega)) (.tup (.of upd_same) (hys.up (noTup_none hq3))) ⟨fun j hj => hcj j (hsp.mem_iff.mp hj), ((hsp.map _).nodup_iff).mpr hcn, ?_⟩ (srt_lt hchn) ?_
    · rw [hsp.length_eq]; omega
    · rw [hsp.length_eq]; omega
end Sp
end
section
set_option Elab.async false
set_option linter.all false
set_option maxRecDepth 100000
set_option maxHeartbeats 4000000
set_option autoImplicit false
/-! Sp: the plain law: strength, choices, trees. -/
namespace Sp
open PySem PySem.Spec PyProof.Rows L2
/-! ### the short outages come first -/
theorem alike_ot (a b : List Nat) : PySem.W.alike (ot a) (ot b) = true := by
  have h : ∀ a b : List Nat, PySem.W.alikeAll (a.map fun n : Nat => PyData.int n) (b.map fun n : Nat => PyData.int n) = true := fun a => by
    induction a with
    | nil => intro b; cases b <;> rfl
    | cons x a ih =>
      intro b
      cases b with
      | nil => rfl
      | cons y b => simp [PySem.W.alikeAll, PySem.W.alike, ih b]
  simp [PySem.W.alike, h]
theorem allO_sorted (m : Nat) : (allO m).Pairwise fun a b => a.length ≤ b.length := by
  have h := PySem.W.sort_pairwise (PySem.W.sortLe_total (PyProof.Rows.listOrd PyProof.Rows.itemOrd) false fun b => PySem.W.keyToks (ok2 b)) (allM m)
  refine List.Pairwise.imp (fun {a b} (e : PySem.W.dataLe false ok2 a b = true) => ?_) h
  refine Nat.le_of_not_lt fun hlt => ?_
  have e2 : PySem.W.dataLt (ok2 b) (ok2 a) = true := by
    have al := (ok2_alike [b, a])
    rw [PySem.W.dataLt_pair (by simp [PySem.W.alike]) (alike_ot b a)]
    have h1 : PyData.eqv (.int (b.length : Int)) (.int (a.length : Int)) = false := by
      simp only [PyData.eqv, beq_eq_false_iff_ne, ne_eq]
      omega
    rw [h1, if_neg (by decide), PySem.W.dataLt_int]
    exact decide_eq_true (by omega)
  have e3 : (!PySem.W.dataLt (ok2 b) (ok2 a)) = true := e
  rw [e2] at e3
  cases e3
theorem flat_sorted {α β : Type} (r : β → β → Prop) (f : α → List β) : ∀ {l : List α}, (∀ x ∈ l, (f x).Pairwise r) → l.Pairwise (fun a b => ∀ x ∈ f a, ∀ y ∈ f b, r x y) → (l.flatMap f).Pairwise r
  | [], _, _ => .nil
  | a :: l, h1, h2 => by
    rw [List.flatMap_cons, List.pairwise_append]
    rw [List.pairwise_cons] at h2
    refine ⟨h1 a List.mem_cons_self, flat_sorted r f (fun x hx => h1 x (List.mem_cons_of_mem _ hx)) h2.2, fun x hx y hy => ?_⟩
    obtain ⟨b, hb, hy⟩ := List.mem_flatMap.mp hy
    exact h2.1 b hb x hx y hy
theorem cases_sorted (n m : Nat) : (casesF n m).Pairwise fun a b => a.2.length ≤ b.2.length := by
  unfold casesF
  refine flat_sorted _ _ (fun o _ => ?_) ((allO_sorted m).imp fun {a b} h x hx y hy => ?_)
  · rw [List.pairwise_map]
    exact List.pairwise_of_forall fun _ _ => Nat.le_refl _
  · obtain ⟨i, _, rfl⟩ := List.mem_map.mp hx
    obtain ⟨j, _, rfl⟩ := List.mem_map.mp hy
    exact h
theorem find_first {α : Type} {p : α → Bool} {r : α → α → Prop} (hr : ∀ a, r a a) : ∀ {l : List α} {x : α}, l.Pairwise r → l.find? p = some x → ∀ y ∈ l, p y = true → r x y
  | [], _, _, h, _, _, _ => by cases h
  | a :: l, x, hp, h, y, hy, py => by
    rw [List.pairwise_cons] at hp
    rw [List.find?_cons] at h
    cases ha : p a with
    | true =>
      rw [ha] at h
      cases h
      rcases List.mem_cons.mp hy with rfl | hy
      · exact hr _
      · exact hp.1 y hy
    | false =>
      rw [ha] at h
      rcases List.mem_cons.mp hy with rfl | hy
      · rw [py] at ha; cases ha
      · exact find_first hr hp.2 h y hy py
theorem casesF_len {n m : Nat} {c : Cs} (hm : m ≤ 8) (h : c ∈ casesF n m) : c.2.length ≤ m := by
  obtain ⟨h1, h2, _⟩ := casesF_out hm h
  have h3 : c.2.Nodup := h1.imp fun h => by omega
  have := nodup_len (b := List.range m) h3 fun x hx => List.mem_range.mpr (h2 x hx)
  rw [List.length_range] at this
  exact this
/-- the strength, and the first miss within a number -/
theorem str_good (B : Bk) (num : Nat) (h8 : B.L.length ≤ 8) : decide (((min num B.L.length : Nat) : Int) ≤ strF B) = decide (missF B num = none) := by
  have hs := cases_sorted B.n B.L.length
  cases hm : missF B B.L.length with
  | none =>
    have h1 : strF B = B.L.length := by unfold strF; rw [hm]
    have h2 : missF B num = none := by
      unfold missF at hm ⊢
      rw [List.find?_eq_none] at hm ⊢
      intro c hc e
      simp only [Bool.and_eq_true, decide_eq_true_eq] at e
      refine hm c hc ?_
      simp only [Bool.and_eq_true, decide_eq_true_eq]
      exact ⟨casesF_len h8 hc, e.2⟩
    rw [h1, decide_eq_true h2, decide_eq_true (by omega)]
  | some c =>
    have h1 : strF B = (c.2.length : Int) - 1 := by unfold strF; rw [hm]
    unfold missF at hm
    have hp := List.find?_some hm
    have hcm := List.mem_of_find?_eq_some hm
    simp only [Bool.and_eq_true, decide_eq_true_eq] at hp
    have hfirst : ∀ y ∈ casesF B.n B.L.length, missedF B y.1 y.2 = true → c.2.length ≤ y.2.length := fun y hy py =>
      find_first (r := fun a b : Cs => a.2.length ≤ b.2.length) (fun _ => Nat.le_refl _) hs hm y hy (by simp only [Bool.and_eq_true, decide_eq_true_eq]; exact ⟨casesF_len h8 hy, py⟩)
    rw [h1]
    by_cases hn : num < c.2.length
    · have h2 : missF B num = none := by
        unfold missF
        rw [List.find?_eq_none]
        intro y hy e
        simp only [Bool.and_eq_true, decide_eq_true_eq] at e
        have := hfirst y hy e.2
        omega
      rw [decide_eq_true h2, decide_eq_true (by omega)]
    · have h2 : missF B num ≠ none := by
        unfold missF
        intro e
        rw [List.find?_eq_none] at e
        refine e c hcm ?_
        simp only [Bool.and_eq_true, decide_eq_true_eq]
        exact ⟨by omega, hp.2⟩
      rw [decide_eq_false h2, decide_eq_false (by omega)]
end Sp
end
section
set_option Elab.async false
set_option linter.all false
set_option maxRecDepth 100000
set_option maxHeartbeats 4000000
set_option autoImplicit false
/-! Sp: the plain law: trees and choices. -/
namespace Sp
open PySem PySem.Spec PyProof.Rows L2
/-! ### walks that do not come to a changed key -/
theorem walkG_sub {B : Bk} {out : List Nat} : ∀ (f : Nat) (found : List Ky) (last : Ky), ∀ x ∈ found, x ∈ (walkG B out f found last).1
  | 0, _, _, _, h => h
  | f + 1, found, last, x, h => by
    rw [walkG]
    split
    · exact h
    · split
      · exact h
      · split
        · exact List.mem_append_left _ h
        · exact walkG_sub f _ _ x (List.mem_append_left _ h)
theorem walkG_same {B B' : Bk} {out : List Nat} (hL : B'.L = B.L) (ht : B'.t = B.t) : ∀ (f : Nat) (found : List Ky) (last : Ky), last ∈ found → (∀ k ∈ (walkG B out f found last).1, B'.F k = B.F k) → walkG B' out f found last = walkG B out f found last
  | 0, _, _, _, _ => rfl
  | f + 1, found, last, hl, h => by
    have h0 : B'.F last = B.F last := h last (walkG_sub _ _ _ _ hl)
    have hn : nextF B' last out = nextF B last out := by
      unfold nextF
      rw [h0, hL]
    rw [walkG] at h
    rw [walkG, walkG, ht, hn]
    by_cases e : last.1 = B.t
    · rw [if_pos e, if_pos e]
    · rw [if_neg e] at h ⊢
      rw [if_neg e]
      cases hx : nextF B last out with
      | none => rfl
      | some k =>
        rw [hx] at h
        simp only at h ⊢
        by_cases e2 : k ∈ found
        · rw [if_pos e2, if_pos e2]
        · rw [if_neg e2] at h ⊢
          rw [if_neg e2]
          exact walkG_same hL ht f _ _ (List.mem_append_right _ (List.mem_singleton.mpr rfl)) h
theorem walkF_same {B B' : Bk} {out : List Nat} {s : Nat} (hL : B'.L = B.L) (ht : B'.t = B.t) (h : ∀ k ∈ (walkF B s out).1, B'.F k = B.F k) : walkF B' s out = walkF B s out := walkG_same hL ht _ _ _ (List.mem_singleton.mpr rfl) h
/-! ### rows put -/
theorem lookR_perm {a b : List (Ky × Row)} (h : a.Perm b) (hn : (a.map (·.1)).Nodup) (k : Ky) : lookR a k = lookR b k := by
  have hn2 : (b.map (·.1)).Nodup := (h.map _).nodup_iff.mp hn
  by_cases hk : k ∈ a.map (·.1)
  · obtain ⟨x, hx, rfl⟩ := List.mem_map.mp hk
    rw [lookR_at hn hx, lookR_at hn2 (h.mem_iff.mp hx)]
  · rw [lookR_none hk, lookR_none (fun z => hk ((h.map _).mem_iff.mpr z))]
theorem put_perm {B : Bk} {a b : List (Ky × Row)} (h : a.Perm b) (hn : (a.map (·.1)).Nodup) : putRows B a = putRows B b := by
  unfold putRows
  congr 1
  funext k
  rw [lookR_perm h hn]
theorem put_nil (B : Bk) : putRows B [] = B := rfl
theorem put_cons {B : Bk} {o : Ky × Row} {os : List (Ky × Row)} (h : o.1 ∉ os.map (·.1)) : putRows B (o :: os) = putRows (putRows B [o]) os := by
  unfold putRows
  congr 1
  funext k
  by_cases e : o.1 = k
  · subst e
    rw [lookR_pos rfl, lookR_none h]
    show _ = (none : Option Row).getD ((lookR [o] o.1).getD _)
    rw [lookR_pos rfl]
    rfl
  · rw [lookR_neg e]
    show _ = (lookR os k).getD ((lookR [o] k).getD (B.F k))
    rw [lookR_neg e]
    rfl
/-- offers that may be taken -/
structure Tk (ofs : List (Ky × Row)) (dn : List Ky) (l : Nat) (os : List (Ky × Row)) : Prop where
  mem : ∀ x ∈ os, x ∈ ofs
  nd : (os.map (·.1)).Nodup
  off : ∀ x ∈ os, x.1 ∉ dn
  few : os.length ≤ l
theorem kidsF_some {α : Type} (f : α → Option D) : ∀ (l : List α) {ds : List D}, kidsF f l = some ds → ∀ o ∈ l, ∃ d, f o = some d
  | [], _, _, _, h => nomatch h
  | x :: l, ds, e, o, h => by
    rw [kidsF] at e
    cases hx : f x with
    | none => rw [hx] at e; cases e
    | some d =>
      rw [hx] at e
      cases hk : kidsF f l with
      | none => rw [hk] at e; cases e
      | some es =>
        rcases List.mem_cons.mp h with rfl | h
        · exact ⟨d, hx⟩
        · exact kidsF_some f l hk o h
theorem kidsF_of_none {α : Type} (f : α → Option D) : ∀ (l : List α), kidsF f l = none → ∃ o ∈ l, f o = none
  | [], e => by cases e
  | x :: l, e => by
    rw [kidsF] at e
    cases hx : f x with
    | none => exact ⟨x, List.mem_cons_self, hx⟩
    | some d =>
      rw [hx] at e
      cases hk : kidsF f l with
      | none =>
        obtain ⟨o, ho, h⟩ := kidsF_of_none f l hk
        exact ⟨o, List.mem_cons_of_mem _ ho, h⟩
      | some es => rw [hk] at e; cases e
/-- a miss stays where no walked key is changed -/
theorem miss_same {B B' : Bk} {num : Nat} {c : Cs} (hm : missF B num = some c) (hn : B'.n = B.n) (hL : B'.L = B.L) (ht : B'.t = B.t) (h : ∀ k ∈ (walkF B c.1 c.2).1, B'.F k = B.F k) : missF B' num ≠ none := by
  intro e
  unfold missF at e hm
  have hp := List.find?_some hm
  have hc := List.mem_of_find?_eq_some hm
  rw [List.find?_eq_none] at e
  rw [hn, hL] at e
  refine e c hc ?_
  simp only [Bool.and_eq_true, decide_eq_true_eq] at hp ⊢
  refine ⟨hp.1, ?_⟩
  have h2 := hp.2
  unfold missedF homeF at h2 ⊢
  rw [walkF_same hL ht h, ht, hL]
  exact h2
/-- a tree: no offers taken help -/
theorem tree_sound {ofs : List (Ky × Row)} {num : Nat} : ∀ {l : Nat} {B : Bk} {dn : List Ky} {d : D}, treeF ofs num l B dn = some d → ∀ {os : List (Ky × Row)}, Tk ofs dn l os → missF (putRows B os) num ≠ none
  | 0, B, dn, d, ht, os, h => by
    have : os = [] := List.eq_nil_of_length_eq_zero (Nat.le_zero.mp h.few)
    subst this
    rw [put_nil]
    intro e
    rw [treeF, e] at ht
    cases ht
  | l + 1, B, dn, d, ht, os, h => by
    rw [treeF] at ht
    cases hm : missF B num with
    | none => rw [hm] at ht; cases ht
    | some c =>
      rw [hm] at ht
      simp only at ht
      cases hk : kidsF (fun o => treeF ofs num l (putRows B [o]) (dn ++ [o.1])) (fitF B ofs c dn) with
      | none => rw [hk] at ht; cases ht
      | some ks =>
        by_cases hh : ∃ o ∈ os, o.1 ∈ (walkF B c.1 c.2).1
        · obtain ⟨o, ho, hw⟩ := hh
          have hfit : o ∈ fitF B ofs c dn := by
            unfold fitF
            rw [List.mem_filter]
            refine ⟨h.mem o ho, ?_⟩
            simp only [Bool.and_eq_true, decide_eq_true_eq, Bool.not_eq_true', decide_eq_false_iff_not]
            exact ⟨hw, h.off o ho⟩
          obtain ⟨d2, hd2⟩ := kidsF_some _ _ hk o hfit
          obtain ⟨os', hp⟩ : ∃ os', os.Perm (o :: os') := by
            obtain ⟨a, b, rfl⟩ := List.append_of_mem ho
            exact ⟨a ++ b, List.perm_middle⟩
          have hnd : ((o :: os').map (·.1)).Nodup := (hp.map _).nodup_iff.mp h.nd
          rw [List.map_cons, List.nodup_cons] at hnd
          rw [put_perm hp h.nd, put_cons hnd.1]
          refine tree_sound hd2 ⟨fun x hx => h.mem x (hp.mem_iff.mpr (List.mem_cons_of_mem _ hx)), hnd.2, fun x hx hd => ?_, ?_⟩
          · rcases List.mem_append.mp hd with hd | hd
            · exact h.off x (hp.mem_iff.mpr (List.mem_cons_of_mem _ hx)) hd
            · rw [← List.mem_singleton.mp hd] at hnd
              exact hnd.1 (List.mem_map_of_mem hx)
          · have := h.few
            rw [hp.length_eq, List.length_cons] at this
            omega
        · refine miss_same (B' := putRows B os) hm rfl rfl rfl fun k hk => ?_
          show (lookR os k).getD (B.F k) = B.F k
          rw [lookR_none]
          · rfl
          · intro hz
            obtain ⟨x, hx, rfl⟩ := List.mem_map.mp hz
            exact hh ⟨x, hx, hk⟩
/-- no tree: some offers taken help -/
theorem tree_whole {ofs : List (Ky × Row)} {num : Nat} : ∀ {l : Nat} {B : Bk} {dn : List Ky}, treeF ofs num l B dn = none → ∃ os, Tk ofs dn l os ∧ missF (putRows B os) num = none
  | 0, B, dn, ht => by
    refine ⟨[], ⟨fun x h => (nomatch h), List.nodup_nil, fun x h => (nomatch h), Nat.le_refl _⟩, ?_⟩
    rw [put_nil]
    rw [treeF] at ht
    cases hm : missF B num with
    | none => rfl
    | some c => rw [hm] at ht; cases ht
  | l + 1, B, dn, ht => by
    rw [treeF] at ht
    cases hm : missF B num with
    | none =>
      refine ⟨[], ⟨fun x h => (nomatch h), List.nodup_nil, fun x h => (nomatch h), Nat.zero_le _⟩, ?_⟩
      rw [put_nil]
      exact hm
    | some c =>
      rw [hm] at ht
      simp only at ht
      cases hk : kidsF (fun o => treeF ofs num l (putRows B [o]) (dn ++ [o.1])) (fitF B ofs c dn) with
      | some ks => rw [hk] at ht; cases ht
      | none =>
        obtain ⟨o, ho, h2⟩ := kidsF_of_none _ _ hk
        obtain ⟨os, h3, h4⟩ := tree_whole h2
        unfold fitF at ho
        rw [List.mem_filter] at ho
        simp only [Bool.and_eq_true, decide_eq_true_eq, Bool.not_eq_true', decide_eq_false_iff_not] at ho
        have hn : o.1 ∉ os.map (·.1) := fun hz => by
          obtain ⟨x, hx, e⟩ := List.mem_map.mp hz
          exact h3.off x hx (by rw [e]; exact List.mem_append_right _ (List.mem_singleton.mpr rfl))
        refine ⟨o :: os, ⟨fun x hx => ?_, ?_, fun x hx => ?_, ?_⟩, ?_⟩
        · rcases List.mem_cons.mp hx with rfl | hx
          · exact ho.1
          · exact h3.mem x hx
        · rw [List.map_cons, List.nodup_cons]
          exact ⟨hn, h3.nd⟩
        · rcases List.mem_cons.mp hx with rfl | hx
          · exact ho.2.2
          · exact fun z => h3.off x hx (List.mem_append_left _ z)
        · rw [List.length_cons]
          exact Nat.succ_le_succ h3.few
        · rw [put_cons hn]
          exact h4
end Sp
end
section
set_option Elab.async false
set_option linter.all false
set_option maxRecDepth 100000
set_option maxHeartbeats 4000000
set_option autoImplicit false
/-! Sp: the plain law: choices. -/
namespace Sp
open PySem PySem.Spec PyProof.Rows L2
/-- an ascending choice -/
structure Asc (ofs : List (Ky × Row)) (ch : List Nat) : Prop where
  lt : ∀ i ∈ ch, i < ofs.length
  nd : (ch.map (keyAt ofs)).Nodup
  up : ch.Pairwise (· < ·)
theorem last_lt {ch : List Nat} {i : Nat} (h : ch.Pairwise (· < ·)) (hl : ch = [] ∨ lastC ch < i) : ∀ x ∈ ch, x < i := by
  intro x hx
  rcases hl with rfl | hl
  · cases hx
  · have hne : ch ≠ [] := List.ne_nil_of_mem hx
    have e : lastC ch = ch.getLast hne := by
      unfold lastC
      rw [List.getLastD_eq_getLast?, List.getLast?_eq_some_getLast hne]
      rfl
    have e2 : ch = ch.dropLast ++ [ch.getLast hne] := (List.dropLast_concat_getLast hne).symm
    rw [e2] at hx h
    rw [List.pairwise_append] at h
    rcases List.mem_append.mp hx with hx | hx
    · have := h.2.2 x hx _ (List.mem_singleton.mpr rfl)
      omega
    · rw [List.mem_singleton.mp hx]
      omega
theorem choices_asc {ofs : List (Ky × Row)} : ∀ {s : Nat} {ch : List Nat}, ch ∈ choicesF ofs s → Asc ofs ch
  | 0, ch, h => by
    rw [choicesF, List.mem_singleton] at h
    subst h
    exact ⟨fun i hi => (nomatch hi), List.nodup_nil, .nil⟩
  | s + 1, ch, h => by
    have hok := choices_ok h
    rw [choicesF] at h
    obtain ⟨c0, hc0, h⟩ := List.mem_flatMap.mp h
    have h1 := choices_asc hc0
    unfold nextsF at h
    obtain ⟨i, hi, rfl⟩ := List.mem_map.mp h
    obtain ⟨hi1, hi2⟩ := List.mem_filter.mp hi
    unfold laterF at hi1
    have hl := (List.mem_filter.mp hi1).2
    simp only [Bool.or_eq_true, decide_eq_true_eq] at hl
    refine ⟨hok.1, hok.2.1, ?_⟩
    rw [List.pairwise_append]
    refine ⟨h1.up, by simp, fun x hx y hy => ?_⟩
    rw [List.mem_singleton.mp hy]
    exact last_lt h1.up hl x hx
theorem asc_choices {ofs : List (Ky × Row)} : ∀ {s : Nat} {ch : List Nat}, Asc ofs ch → ch.length = s → ch ∈ choicesF ofs s
  | 0, ch, h, hs => by
    rw [choicesF, List.mem_singleton]
    exact List.eq_nil_of_length_eq_zero hs
  | s + 1, ch, h, hs => by
    have hne : ch ≠ [] := fun z => by rw [z] at hs; cases hs
    have e2 : ch = ch.dropLast ++ [ch.getLast hne] := (List.dropLast_concat_getLast hne).symm
    generalize hc0 : ch.dropLast = c0 at e2
    generalize hi : ch.getLast hne = i at e2
    subst e2
    have hup := List.pairwise_append.mp h.up
    have hnd := h.nd
    rw [List.map_append, List.nodup_append] at hnd
    have h0 : Asc ofs c0 := ⟨fun x hx => h.lt x (List.mem_append_left _ hx), hnd.1, hup.1⟩
    have hs0 : c0.length = s := by rw [List.length_append] at hs; exact Nat.succ.inj hs
    rw [choicesF]
    refine List.mem_flatMap.mpr ⟨c0, asc_choices h0 hs0, ?_⟩
    unfold nextsF
    refine List.mem_map.mpr ⟨i, List.mem_filter.mpr ⟨List.mem_filter.mpr ⟨List.mem_range.mpr (h.lt i (List.mem_append_right _ (List.mem_singleton.mpr rfl))), ?_⟩, ?_⟩, rfl⟩
    · simp only [Bool.or_eq_true, decide_eq_true_eq]
      by_cases hz : c0 = []
      · exact .inl hz
      · refine .inr ?_
        have e : lastC c0 = c0.getLast hz := by
          unfold lastC
          rw [List.getLastD_eq_getLast?, List.getLast?_eq_some_getLast hz]
          rfl
        rw [e]
        exact hup.2.2 _ (List.getLast_mem hz) i (List.mem_singleton.mpr rfl)
    · simp only [Bool.not_eq_true', decide_eq_false_iff_not]
      intro hm
      exact hnd.2.2 _ hm _ (List.mem_singleton.mpr rfl) rfl
theorem mem_allCh {ofs : List (Ky × Row)} {most : Nat} {ch : List Nat} : ch ∈ allCh ofs most ↔ Asc ofs ch ∧ ch.length ≤ most := by
  unfold allCh
  rw [List.mem_flatMap]
  constructor
  · rintro ⟨s, hs, h⟩
    have := List.mem_range.mp hs
    have h2 := (choices_ok h).2.2
    exact ⟨choices_asc h, by omega⟩
  · rintro ⟨h, hl⟩
    exact ⟨ch.length, List.mem_range.mpr (by omega), asc_choices h rfl⟩
theorem allCh_sorted (ofs : List (Ky × Row)) (most : Nat) : (allCh ofs most).Pairwise fun a b => a.length ≤ b.length := by
  unfold allCh
  refine flat_sorted _ _ (fun s _ => ?_) (List.pairwise_lt_range.imp fun {a b} h x hx y hy => ?_)
  · have : ∀ l : List (List Nat), (∀ c ∈ l, c.length = s) → l.Pairwise fun a b => a.length ≤ b.length := fun l => by
      induction l with
      | nil => intro _; exact .nil
      | cons c l ih =>
        intro hl
        refine .cons (fun d hd => ?_) (ih fun d hd => hl d (List.mem_cons_of_mem _ hd))
        rw [hl c List.mem_cons_self, hl d (List.mem_cons_of_mem _ hd)]
        exact Nat.le_refl _
    exact this _ fun c hc => (choices_ok hc).2.2
  · rw [(choices_ok hx).2.2, (choices_ok hy).2.2]
    omega
/-- a choice told: good, and none shorter is -/
theorem few_some {B : Bk} {ofs : List (Ky × Row)} {num most : Nat} {ch : List Nat} (h : fewF B ofs num most = some ch) : Asc ofs ch ∧ ch.length ≤ most ∧ goodF B ofs num ch = true ∧ ∀ c, Asc ofs c → c.length < ch.length → goodF B ofs num c = false := by
  unfold fewF at h
  have h1 := mem_allCh.mp (List.mem_of_find?_eq_some h)
  refine ⟨h1.1, h1.2, List.find?_some h, fun c hc hl => ?_⟩
  cases hg : goodF B ofs num c with
  | false => rfl
  | true =>
    have := find_first (r := fun a b : List Nat => a.length ≤ b.length) (fun _ => Nat.le_refl _) (allCh_sorted ofs most) h c (mem_allCh.mpr ⟨hc, by omega⟩) hg
    omega
theorem few_none {B : Bk} {ofs : List (Ky × Row)} {num most : Nat} (h : fewF B ofs num most = none) {c : List Nat} (hc : Asc ofs c) (hl : c.length ≤ most) : goodF B ofs num c = false := by
  unfold fewF at h
  rw [List.find?_eq_none] at h
  exact Bool.eq_false_iff.mpr (h c (mem_allCh.mpr ⟨hc, hl⟩))
theorem Asc.sub {ofs : List (Ky × Row)} {a b : List Nat} (h : Asc ofs b) (s : a.Sublist b) : Asc ofs a :=
  ⟨fun i hi => h.lt i (s.subset hi), (s.map _).nodup h.nd, h.up.sublist s⟩
theorem pick_mem {ofs : List (Ky × Row)} {ch : List Nat} (h : ∀ i ∈ ch, i < ofs.length) : ∀ x ∈ pick ofs ch, x ∈ ofs := fun x hx => by
  unfold pick at hx
  obtain ⟨i, hi, rfl⟩ := List.mem_map.mp hx
  exact getD_mem (h i hi)
/-- what offers taken amount to, as a choice -/
theorem choice_of {ofs : List (Ky × Row)} : ∀ {os : List (Ky × Row)}, (∀ x ∈ os, x ∈ ofs) → ∃ is : List Nat, (∀ i ∈ is, i < ofs.length) ∧ pick ofs is = os
  | [], _ => ⟨[], fun i h => (nomatch h), rfl⟩
  | x :: os, h => by
    obtain ⟨is, h1, h2⟩ := choice_of (os := os) fun y hy => h y (List.mem_cons_of_mem _ hy)
    obtain ⟨i, hi, hx⟩ := List.getElem_of_mem (h x List.mem_cons_self)
    refine ⟨i :: is, fun j hj => ?_, ?_⟩
    · rcases List.mem_cons.mp hj with rfl | hj
      · exact hi
      · exact h1 j hj
    · unfold pick at h2 ⊢
      rw [List.map_cons, h2, List.getD_eq_getElem?_getD, List.getElem?_eq_getElem hi, hx]
      rfl
/-- either a choice or a tree, never both -/
theorem few_tree {B : Bk} {ofs : List (Ky × Row)} {num most : Nat} : fewF B ofs num most = none ↔ ∃ d, treeF ofs num most B [] = some d := by
  constructor
  · intro h
    cases ht : treeF ofs num most B [] with
    | some d => exact ⟨d, rfl⟩
    | none =>
      exfalso
      obtain ⟨os, h1, h2⟩ := tree_whole ht
      obtain ⟨is, h3, rfl⟩ := choice_of h1.mem
      have hnd := h1.nd
      rw [pick_keys] at hnd
      have hp : (srt is).Perm is := List.mergeSort_perm _ _
      have hasc : Asc ofs (srt is) := ⟨fun i hi => h3 i (hp.mem_iff.mp hi), (hp.map _).nodup_iff.mpr hnd, srt_lt (nodup_of_map hnd)⟩
      have hl : (srt is).length ≤ most := by
        have := h1.few
        unfold pick at this
        rw [List.length_map] at this
        rw [hp.length_eq]
        exact this
      have hg := few_none h hasc hl
      have e : changedF B ofs (srt is) = putRows B (pick ofs is) := by
        unfold changedF
        refine put_perm (hp.map _) ?_
        rw [pick_keys]
        exact hasc.nd
      unfold goodF at hg
      rw [e, h2] at hg
      simp at hg
  · rintro ⟨d, ht⟩
    cases hf : fewF B ofs num most with
    | none => rfl
    | some ch =>
      exfalso
      obtain ⟨h1, h2, h3, _⟩ := few_some hf
      have hg : missF (putRows B (pick ofs ch)) num = none := by
        unfold goodF changedF at h3
        exact of_decide_eq_true h3
      refine tree_sound ht (os := pick ofs ch) ⟨pick_mem h1.lt, ?_, fun x _ z => (nomatch z), ?_⟩ hg
      · rw [pick_keys]; exact h1.nd
      · unfold pick; rw [List.length_map]; exact h2
end Sp
end
section
set_option Elab.async false
set_option linter.all false
set_option maxRecDepth 100000
set_option maxHeartbeats 4000000
set_option autoImplicit false
local macro_rules | `(tactic| walk_at "go") => `(tactic| repeat first
  | (with_reducible first
     | refine Sp.st_var rfl ?_ | refine Sp.st_c ?_ | refine Sp.st_op ?_ | refine Sp.st_seq ?_ | refine Sp.st_asg ?_ | refine Sp.st_name ?_
     | refine Sp.st_ret ?_ | refine Sp.st_drop ?_ | refine Sp.st_next ?_ | refine Sp.st_if ?_ | refine Sp.st_nx ?_ | refine Sp.st_rt ?_
     | refine Sp.st_cons ?_ | refine Sp.st_nil ?_ | refine Sp.st_cb ?_ | refine Sp.st_call ?_ | refine Sp.st_test ?_ | refine Sp.st_B ?_
     | refine Sp.st_not ?_ | refine Sp.st_and ?_ | refine Sp.st_or ?_ | refine Sp.st_andV ?_ | refine Sp.st_orV ?_ | refine Sp.st_notV ?_
     | refine Sp.st_tif ?_ | refine Sp.st_tup ?_ | refine Sp.st_lst ?_ | refine Sp.st_blx ?_ | refine Sp.st_I0 ?_ | refine Sp.st_U ?_
     | refine Sp.st_eqI ?_ | refine Sp.st_neI ?_ | refine Sp.st_chain ?_ | refine Sp.isiI ?_ | refine Sp.isiB ?_ | refine Sp.isiS ?_
     | refine Sp.st_T rfl ?_ | refine Sp.st_F rfl ?_ | refine Sp.st_lc ?_ | refine Sp.st_iT ?_ | refine Sp.st_iL ?_ | refine Sp.st_iR1 ?_
     | refine Sp.st_iR2 ?_ | refine Sp.st_iET ?_ | refine Sp.st_iZA ?_ | refine Sp.st_iZLT ?_ | refine Sp.st_for ?_ | refine Sp.st_fld ?_
     | refine Sp.st_sfld ?_ | refine Sp.st_prop ?_ | refine Sp.st_meth ?_ | refine Sp.st_make ?_ | refine Sp.st_isN ?_ | refine Sp.st_yes ?_
     | refine Sp.isNI ?_ | refine Sp.notNI ?_ | refine Sp.int1I ?_ | refine Sp.int1B ?_ | refine Sp.min2I ?_ | refine Sp.max2I ?_
     | refine Sp.st_dputN ?_ | refine Sp.st_dgetN ?_ | refine Sp.st_revL ?_ | refine Sp.st_din ?_ | refine Sp.st_dnin ?_ | refine Sp.st_dget ?_ | refine Sp.st_dput ?_ | refine Sp.st_dc ?_ | refine Sp.st_dcN ?_
     | refine Sp.st_sortLam ?_ | refine Sp.st_lc2 ?_ | refine Sp.st_un ?_ | refine Sp.st_lenSet ?_ | refine Sp.st_bm ?_ | refine Sp.st_lenO ?_ | refine Sp.st_sl ?_ | refine Sp.st_part ?_ | refine Sp.st_nopart ?_ | refine Sp.st_intx ?_)
  | ((with_reducible refine Sp.st_wp ?_ ?_); (focus rfl)))
namespace Sp
open PySem PySem.Spec L2

section
variable {g : Gx} {H H' : Hp} {d c0 c1 a : Addr} {k n : Nat} {L : List (Nat × Nat)} {B : Bk} {kvs : List (KO × D)}
theorem Eg.dic (e : Eg g.T d c0 H H') (hD : Deck H d c0 c1 k) (h : DicD g.P g.w g.K H a kvs) : DicD g.P g.w g.K H' a kvs := by
  obtain ⟨M, h1, h2⟩ := h.ex
  have hD0 := hD
  obtain ⟨⟨ns, ms, t, q1, q2, _⟩, _⟩ := hD0
  refine ⟨M, ⟨e.at h1.at_ (fun z => ?_) (fun z => ?_) (fun ps z => by cases z), fun x hx => e.st hD.nd hD.nc (h1.keys x hx)⟩, h2.mv fun _ _ => e.tp hD⟩
  · rw [← z, h1.at_] at q1
    cases q1
  · rw [← z, h1.at_] at q2
    cases q2
theorem Eg.ins {C dx : Addr} {fs : List (Str × V)} (e : Eg g.T d c0 H H') (hD : Deck H d c0 c1 k) (h : H a = some (.ins C dx fs)) : H' a = some (.ins C dx fs) := by
  obtain ⟨⟨ns, ms, t, q1, q2, _⟩, _⟩ := hD
  refine e.at h (fun z => ?_) (fun z => ?_)
  · rw [← z, h] at q1
    cases q1
  · rw [← z, h] at q2
    cases q2
theorem Eg.net (e : Eg g.T d c0 H H') (hD : Deck H d c0 c1 k) (h : NetAt g H a n L) : NetAt g H' a n L := by
  obtain ⟨⟨dx, p, xs, h1, h2, h3⟩, ok⟩ := h
  exact ⟨⟨dx, p, xs, e.ins hD h1, e.st hD.nd hD.nc h2, e.tps hD h3⟩, ok⟩
theorem Eg.book (e : Eg g.T d c0 H H') (hD : Deck H d c0 c1 k) (h : BookAt g H a B) : BookAt g H' a B := by
  obtain ⟨⟨dx, gr, d, l, kvs, h1, h2, h3, h4⟩, ok⟩ := h
  exact ⟨⟨dx, gr, d, l, kvs, e.ins hD h1, e.net hD h2, e.dic hD h3, h4⟩, ok⟩
end
theorem Asc.ok {ofs : List (Ky × Row)} {ch : List Nat} (h : Asc ofs ch) (hl : ch.length ≤ 6) : ChOk ofs ch := ⟨h.lt, h.nd, hl⟩
theorem treeF_tup {ofs : List (Ky × Row)} {num l : Nat} {B : Bk} {dn : List Ky} {d : D} (h : treeF ofs num l B dn = some d) : ∃ ks, d = .tuple ks := by
  cases l with
  | zero =>
    rw [treeF] at h
    cases hm : missF B num with
    | none => rw [hm] at h; cases h
    | some c => rw [hm] at h; exact ⟨_, (Option.some.inj h).symm⟩
  | succ l =>
    rw [treeF] at h
    cases hm : missF B num with
    | none => rw [hm] at h; cases h
    | some c =>
      rw [hm] at h
      simp only at h
      cases hk : kidsF (fun o => treeF ofs num l (putRows B [o]) (dn ++ [o.1])) (fitF B ofs c dn) with
      | none => rw [hk] at h; cases h
      | some ks => rw [hk] at h; exact ⟨_, (Option.some.inj h).symm⟩
theorem good_of {B : Bk} {ofs : List (Ky × Row)} {num : Nat} {ch : List Nat} (h8 : B.L.length ≤ 8) : decide (((min num B.L.length : Nat) : Int) ≤ strF (changedF B ofs ch)) = goodF B ofs num ch := str_good (changedF B ofs ch) num h8
-- _law_right: slots _law_deck_here 0, _law_book_here 1, _law_offers 2, _law_number 3, _law_limit 4, _law_choice 5, _law_tree 6, _law_some 7, _law_good 8, _law_less 9, _law_k 10, _law_one 11, _law_turn 12; cells ['_law_book_here', '_law_choice', '_law_deck_here', '_law_limit', '_law_number', '_law_offers']
abbrev s__law_right : Stmt := top 75
abbrev N__law_right : List Str := ["_law_deck_here", "_law_book_here", "_law_offers", "_law_number", "_law_limit", "_law_choice", "_law_tree", "_law_some", "_law_good", "_law_less", "_law_k", "_law_one", "_law_turn"]
theorem sc__law_right : FnScope N__law_right ["_law_deck_here", "_law_book_here", "_law_offers", "_law_number", "_law_limit"] (defScope s__law_right) := ⟨rfl, rfl, rfl, by decide +kernel, rfl, by decide +kernel, by decide +kernel⟩
def sp__law_right (g : Gx) : Sp := fun vs H Q _ => ∃ d c0 c1 a v B, ∃ k num lim : Nat, ∃ ofs : List (Ky × Row), vs = [.ref d, .ref a, v, .int num, .int lim] ∧ k ≤ 800000 ∧ lim ≤ 3 ∧ Deck H d c0 c1 k ∧ LamX.Tabs g.T H ∧ BookAt g H a B ∧ Tp g.K H v (.tuple (ofs.map eO)) ∧ OfOk B.n B.L B.t B.w ofs ∧ ∀ H', Eg g.T d c0 H H' → Deck H' d c0 c1 (k + 12) → Q (.bl true) H'
theorem ok__law_right (g : Gx) (T : Blt g.mg) (Z : Fct g) (C__law_told : Cal g.P g.w g.K g.mg g.base 12 "_law_told" ["_law_book_here", "_law_offers", "_law_number", "_law_limit"] (sp__law_told g)) (C_mend_tree : Cal g.P g.w g.K g.mg g.base 16 "mend_tree" ["book", "offers", "number", "left"] (sp_mend_tree g)) (C__law_drawn : Cal g.P g.w g.K g.mg g.base 2 "_law_drawn" ["_law_deck_here", "_law_offers", "_law_limit"] (sp__law_drawn g)) (C__law_is_good : Cal g.P g.w g.K g.mg g.base 13 "_law_is_good" ["_law_book_here", "_law_offers", "_law_choice", "_law_number"] (sp__law_is_good g)) (C_mend_tree_holds : Cal g.P g.w g.K g.mg g.base 14 "mend_tree_holds" ["book", "offers", "number", "left", "value"] (sp_mend_tree_holds g))  {f : Addr} {fd : FuncData} (F : Fun g.K "_law_right" "_law_right" s__law_right f fd) : FnOk g.P g.w g.K g.mg g.base CX0 17 f fd ["_law_deck_here", "_law_book_here", "_law_offers", "_law_number", "_law_limit"] (sp__law_right g) := by
  refine F.ok sc__law_right (fun vs H Q E h => ?_) (fun cdv A outer s H vs Q E hr h => ?_)
  · first | (obtain ⟨rfl, _⟩ := h; rfl) | (obtain ⟨_, rfl, _⟩ := h; rfl) | (obtain ⟨_, _, rfl, _⟩ := h; rfl) | (obtain ⟨_, _, _, rfl, _⟩ := h; rfl) | (obtain ⟨_, _, _, _, rfl, _⟩ := h; rfl) | (obtain ⟨_, _, _, _, _, rfl, _⟩ := h; rfl) | (obtain ⟨_, _, _, _, _, _, rfl, _⟩ := h; rfl) | (obtain ⟨_, _, _, _, _, _, _, rfl, _⟩ := h; rfl) | (obtain ⟨_, _, _, _, _, _, _, _, rfl, _⟩ := h; rfl) | (obtain ⟨_, _, _, _, _, _, _, _, _, rfl, _⟩ := h; rfl) | (obtain ⟨_, _, _, _, _, _, _, _, _, _, rfl, _⟩ := h; rfl) | (obtain ⟨_, _, _, _, _, _, _, _, _, _, _, rfl, _⟩ := h; rfl) | (obtain ⟨_, _, _, _, _, _, _, _, _, _, _, _, rfl, _⟩ := h; rfl) | (obtain ⟨_, _, _, _, _, _, _, _, _, _, _, _, _, rfl, _⟩ := h; rfl)
  have hu := room_un hr
  obtain ⟨d, c0, c1, a, v, B, k, num, lim, ofs, rfl, hk, hl, hD, htab, hB, hv, ok, kk⟩ := h
  refine ⟨_, (pss_cons (ps_asg (pe_tup (pa_cons (pe_cF C__law_told (hr.mono (by decide)) rfl (pa_cons (pv 1) (pa_cons (pv 2) (pa_cons (pv 3) (pa_cons (pv 4) pa_nil))))) (pa_cons (pe_cF C_mend_tree (hr.mono (by decide)) rfl (pa_cons (pv 1) (pa_cons (pv 2) (pa_cons (pv 3) (pa_cons (pv 4) pa_nil))))) pa_nil))) (gTW g (n := 2) rfl (pgs_cons (pg_name (i := 5) sc__law_right.nd rfl (Or.inr rfl)) (pgs_cons (pg_name (i := 6) sc__law_right.nd rfl (Or.inl rfl)) pgs_nil))))
      (pss_cons (ps_if (pt_cmpR op_eq (pe_cmpR isNW (pv 5) pe_non (nomark _)) (pe_cmpR isNW (pv 6) pe_non (nomark _)) (nomark _)) (pss_one (ps_ret pe_bl)) pss_nil)
      (pss_cons (ps_if (pt_cmpR notNW (pv 6) pe_non (nomark _)) (pss_cons (ps_setLc (i := 7) (own := [("_law_turn", 12)]) rfl sc__law_right.nd rfl rfl (sw_true rfl rfl rfl (by decide +kernel)) (pi_range1 (by rfl) T.b_range (pa_cons pe_int pa_nil)) (blkOk_by rfl) (fun _ _ _ _ _ => pg_name (i := 12) sc__law_right.nd rfl (Or.inl rfl)) (fun _ _ _ _ _ => pts_nil) (fun _ _ _ _ _ => (pe_cF C__law_drawn (hr.mono (by decide)) rfl (pa_cons (pv 0) (pa_cons (pv 2) (pa_cons (pv 4) pa_nil))))))
      (pss_cons (ps_setLc (i := 8) (own := [("_law_one", 11)]) rfl sc__law_right.nd rfl rfl (sw_true rfl rfl rfl (by decide +kernel)) (iLW g (pv 7)) (blkOk_by rfl) (fun _ _ _ _ _ => pg_name (i := 11) sc__law_right.nd rfl (Or.inl rfl)) (fun _ _ _ _ _ => pts_one (pt_val (pe_cF C__law_is_good (hr.mono (by decide)) rfl (pa_cons (pv 1) (pa_cons (pv 2) (pa_cons (pv 11) (pa_cons (pv 3) pa_nil))))))) (fun _ _ _ _ _ => (pv 11)))
      (pss_one (ps_ret (pe_and (pe_cF C_mend_tree_holds (hr.mono (by decide)) rfl (pa_cons (pv 1) (pa_cons (pv 2) (pa_cons (pv 3) (pa_cons (pv 4) (pa_cons (pv 6) pa_nil)))))) (pe_one (pe_cmpR (eqDW g hu) (pv 8) (pe_lst pa_nil) (nomark _)))))))) pss_nil)
      (pss_cons (ps_setLc (i := 9) (own := [("_law_k", 10)]) rfl sc__law_right.nd rfl rfl (sw_true rfl rfl rfl (by decide +kernel)) (pi_range1 (by rfl) T.b_range (pa_cons (pe_callB (lenW g) (by rfl) T.b_len boot_f_len (pa_cons (pv 5) pa_nil)) pa_nil)) (blkOk_by rfl) (fun _ _ _ _ _ => pg_name (i := 10) sc__law_right.nd rfl (Or.inl rfl)) (fun _ _ _ _ _ => pts_nil) (fun _ _ _ _ _ => (pe_op (catAW g) (pe_slice (slTW g) (pv 5) po_none (po_some (pv 10))) (pe_slice (slTW g) (pv 5) (po_some (pe_op op_add (pv 10) pe_int)) po_none))))
      (pss_cons (ps_setLc (i := 8) (own := [("_law_one", 11)]) rfl sc__law_right.nd rfl rfl (sw_true rfl rfl rfl (by decide +kernel)) (iLW g (pv 9)) (blkOk_by rfl) (fun _ _ _ _ _ => pg_name (i := 11) sc__law_right.nd rfl (Or.inl rfl)) (fun _ _ _ _ _ => pts_one (pt_val (pe_cF C__law_is_good (hr.mono (by decide)) rfl (pa_cons (pv 1) (pa_cons (pv 2) (pa_cons (pv 11) (pa_cons (pv 3) pa_nil))))))) (fun _ _ _ _ _ => (pv 11)))
      (pss_one (ps_ret (pe_and (pe_cmpR op_le (pe_callB (lenW g) (by rfl) T.b_len boot_f_len (pa_cons (pv 5) pa_nil)) (pv 4) (nomark _)) (pe_and (pe_cmpR (eqDW g hu) (pv 8) (pe_lst pa_nil) (nomark _)) (pe_one (pe_cF C__law_is_good (hr.mono (by decide)) rfl (pa_cons (pv 1) (pa_cons (pv 2) (pa_cons (pv 5) (pa_cons (pv 3) pa_nil))))))))))))))), ?_⟩
  have h8 := hB.ok.net.few
  have hof := ok.few
  walk_at "go"
  refine ⟨a, v, B, ofs, num, lim, rfl, hl, hB, hv, ok, htab, fun r1 H1 e1 hr1 => ?_⟩
  walk_at "go"
  refine ⟨a, v, B, ofs, num, lim, rfl, hl, e1.book hB, e1.tp hv, ok, e1.tab htab, fun r2 H2 e2 hr2 => ?_⟩
  walk_at "go"
  refine ⟨szr rfl, fun q hq => ?_⟩
  refine st_g2 (.of upd_same) ?_
  have e3 : Ex g.T H (upd H2 q (.tup [r1, r2])) := (e1.trans e2).trans (.new hq)
  have e3' : Ex g.T H2 (upd H2 q (.tup [r1, r2])) := .new hq
  have hr1' := e3'.tp (e2.tp hr1)
  have hr2' := e3'.tp hr2
  clear hr1 hr2 hq
  generalize upd H2 q (.tup [r1, r2]) = H3 at e3 hr1' hr2'
  have hB3 := e3.book hB
  have hv3 := e3.tp hv
  have ht3 := e3.tab htab
  have hD3 := e3.deck hD
  walk_at "go"
  cases hf : fewF B ofs num lim with
  | none =>
    obtain ⟨dt, hdt⟩ := few_tree.mp hf
    rw [hf] at hr1'
    rw [hdt] at hr2'
    have h0 := tp_non hr1'
    subst h0
    have hr2'' : Tp g.K H3 r2 dt := hr2'
    obtain ⟨ks, rfl⟩ := treeF_tup hdt
    obtain ⟨ta, tx, rfl, _, _⟩ := tp_tup hr2''
    rw [show decide (V.ref ta = V.non) = false from decide_eq_false (fun e => by cases e)]
    refine ⟨rfl, ?_⟩
    refine ⟨_, rfl, ?_⟩
    rw [if_neg (by decide)]
    walk_at "go"
    refine ⟨4, rfl, by decide, by decide, ?_⟩
    refine lcRD (T := g.T) (K := g.K) (s := 3) (fun i ds => ∃ chs : List (List Nat), ds = chs.map ot ∧ chs.length = i ∧ ∀ c ∈ chs, Asc ofs c ∧ c.length ≤ lim) (by decide) hD3 ⟨[], rfl, rfl, fun c h => (nomatch h)⟩ (fun i ds hi h => ?_) (fun z H4 ds hz e4 hD4 hR Yes No hY => ?_) fun p H4 ys ds np e4 hD4 hp hy hR => ?_
    · obtain ⟨chs, rfl, h1, _⟩ := h
      rw [List.length_map]
      omega
    · walk_at "go"
      refine ⟨d, c0, c1, v, _, lim, ofs, rfl, by omega, hl, hD4, e4.tp hD3 hv3, hof, fun r H5 ch e5 hD5 hr hch hup hcl => ?_⟩
      obtain ⟨chs, rfl, h1, h2⟩ := hR
      refine hY _ _ (ot ch) e5 hD5 hr ⟨chs ++ [ch], by rw [List.map_append]; rfl, by rw [List.length_append, h1]; rfl, fun c hc => ?_⟩
      rcases List.mem_append.mp hc with hc | hc
      · exact h2 c hc
      · rw [List.mem_singleton.mp hc]
        exact ⟨⟨hch.lt, hch.nd, hup⟩, hcl⟩
    obtain ⟨chs, rfl, hc1, hc2⟩ := hR
    have e34 := (e3.eg (d := d) (c := c0)).trans e4
    have hB4 := e4.book hD3 hB3
    have hv4 := e4.tp hD3 hv3
    have ht4 := e4.tab ht3
    have hr4 := e4.tp hD3 hr2''
    walk_at "go"
    refine ⟨p, rfl, ⟨_, .of hp⟩, ?_⟩
    refine lcL (T := g.T) (l := chs) (enc := ot) (fun _ => false) ot (.of hp) hy (by omega) (fun z x H5 hz e5 hx => ?_) fun p2 H5 gs np2 e5 hp2 hgs => ?_
    · intro Yes No hY hN
      walk_at "go"
      obtain ⟨ha, hal⟩ := hc2 z hz
      refine ⟨a, v, x, B, ofs, z, num, rfl, e5.tab ht4, e5.book hB4, e5.tp hv4, ok, hx, ha.ok (by omega), fun H6 e6 => ?_⟩
      rw [good_of h8, few_none hf ha hal]
      refine ⟨_, rfl, ?_⟩
      rw [if_neg (by decide)]
      exact hN rfl _ e6
    rw [List.filter_eq_nil_iff.mpr (fun _ _ => by decide)] at hgs
    have : gs = [] := by cases hgs; rfl
    subst this
    walk_at "go"
    refine ⟨a, v, .ref ta, B, ofs, num, lim, .tuple ks, rfl, hl, e5.book hB4, e5.tp hv4, ok, hdt, e5.tp hr4, fun H6 e6 => ?_⟩
    refine ⟨true, rfl, ?_⟩
    rw [if_pos rfl]
    walk_at "go"
    refine ⟨Nat.zero_le _, fun q9 hq9 => ?_⟩
    have e9 : Ex g.T H6 (upd H6 q9 (.lst [])) := .new hq9
    have h2 := e9.at (e6.at hp2)
    refine ⟨.list [], .list [], .lst (.of h2) .nil, .lst (.of upd_same) .nil, by decide, rfl, ?_⟩
    rw [show PyData.eqv (.list []) (.list []) = true by rw [PyData.eqv]; rfl]
    have e69 := (e5.trans e6).trans e9
    refine kk _ (e34.then e69) (e69.deck hD4)
  | some ch =>
    rw [hf] at hr1'
    have hr1'' : Tp g.K H3 r1 (ot ch) := hr1'
    obtain ⟨hasc, hcl, hgood, hless⟩ := few_some hf
    have htn : treeF ofs num lim B [] = none := by
      cases ht : treeF ofs num lim B [] with
      | none => rfl
      | some d =>
        have := few_tree.mpr ⟨d, ht⟩
        rw [hf] at this
        cases this
    rw [htn] at hr2'
    have h0 := tp_non hr2'
    subst h0
    obtain ⟨ca, cx, rfl, hca, hcx⟩ := tp_tup hr1''
    have hcxl : cx.length = ch.length := by rw [hcx.len, List.length_map]
    rw [show decide (V.ref ca = V.non) = false from decide_eq_false (fun e => by cases e)]
    refine ⟨rfl, ?_⟩
    refine ⟨_, rfl, ?_⟩
    rw [if_neg (by decide)]
    walk_at "go"
    refine lenT hca ?_
    walk_at "go"
    refine ⟨ch.length, by rw [hcxl], by omega, by omega, ?_⟩
    rw [Int.toNat_natCast]
    refine lcR (T := g.T) (K := g.K) (fun _ => true) (fun i => ot (ch.take i ++ ch.drop (i + 1))) (by omega) (fun z H4 hz e4 => ?_) fun p H4 ls np e4 hp hls => ?_
    · intro Yes No hY hN
      rw [Int.zero_add]
      walk_at "go"
      refine slA (e4.st hca) fun q1 H5 h5 hq1 => ?_
      have e5 : Ex g.T H4 H5 := by
        rcases h5 with rfl | ⟨h1, rfl⟩
        · exact .refl _
        · exact .new h1
      walk_at "go"
      rw [show (z : Int) + 1 = ((z + 1 : Nat) : Int) by omega]
      refine slA ((e4.trans e5).st hca) fun q2 H6 h6 hq2 => ?_
      have e6 : Ex g.T H5 H6 := by
        rcases h6 with rfl | ⟨h1, rfl⟩
        · exact .refl _
        · exact .new h1
      rw [cut_to] at hq1
      rw [cut_from] at hq2
      have hq1' := e6.st hq1
      have hl1 := List.length_take_le z cx
      have hl2 := List.length_drop (i := z + 1) (l := cx)
      refine catT hq1' hq2 (by omega) fun q3 H7 h7 hq3 => ?_
      have e7 : Ex g.T H6 H7 := by
        rcases h7 with rfl | ⟨h1, rfl⟩
        · exact .refl _
        · exact .new h1
      refine hY rfl _ _ ((e5.trans e6).trans e7) (.tup hq3 ?_)
      rw [List.map_append, List.map_take, List.map_drop]
      have hcx7 := (((e4.trans e5).trans e6).trans e7).tps hcx
      exact (hcx7.take z).app (hcx7.drop (z + 1))
    rw [List.filter_eq_self.mpr (fun _ _ => rfl)] at hls
    have hls2 : TpAll g.K H4 ls (((List.range ch.length).map fun i => ch.take i ++ ch.drop (i + 1)).map ot) := by rw [List.map_map]; exact hls
    have hB4 := e4.book hB3
    have hv4 := e4.tp hv3
    have ht4 := e4.tab ht3
    walk_at "go"
    refine ⟨p, rfl, ⟨_, .of hp⟩, ?_⟩
    refine lcL (T := g.T) (l := (List.range ch.length).map fun i => ch.take i ++ ch.drop (i + 1)) (enc := ot) (fun _ => false) ot (.of hp) hls2 (by rw [List.length_map, List.length_range]; omega) (fun z x H5 hz e5 hx => ?_) fun p2 H5 gs np2 e5 hp2 hgs => ?_
    · intro Yes No hY hN
      walk_at "go"
      obtain ⟨i, hi, rfl⟩ := List.mem_map.mp hz
      have hi := List.mem_range.mp hi
      have hsub : (ch.take i ++ ch.drop (i + 1)).Sublist ch := by
        conv => rhs; rw [← List.take_append_drop i ch]
        exact List.Sublist.append (List.Sublist.refl _) (by rw [← List.drop_drop]; exact List.drop_sublist _ _)
      have ha := hasc.sub hsub
      have hll : (ch.take i ++ ch.drop (i + 1)).length < ch.length := by
        rw [List.length_append, List.length_take, List.length_drop]
        omega
      refine ⟨a, v, x, B, ofs, _, num, rfl, e5.tab ht4, e5.book hB4, e5.tp hv4, ok, hx, ha.ok (by omega), fun H6 e6 => ?_⟩
      rw [good_of h8, hless _ ha hll]
      refine ⟨_, rfl, ?_⟩
      rw [if_neg (by decide)]
      exact hN rfl _ e6
    rw [List.filter_eq_nil_iff.mpr (fun _ _ => by decide)] at hgs
    have : gs = [] := by cases hgs; rfl
    subst this
    have e35 := e4.trans e5
    walk_at "go"
    refine lenT (e35.st hca) ?_
    walk_at "go"
    refine st_T (decide_eq_true (by omega)) ?_
    walk_at "go"
    refine ⟨Nat.zero_le _, fun q9 hq9 => ?_⟩
    have e9 : Ex g.T H5 (upd H5 q9 (.lst [])) := .new hq9
    refine ⟨.list [], .list [], .lst (.of (e9.at hp2)) .nil, .lst (.of upd_same) .nil, by decide, rfl, ?_⟩
    rw [show PyData.eqv (.list []) (.list []) = true by rw [PyData.eqv]; rfl]
    refine ⟨true, rfl, ?_⟩
    rw [if_pos rfl]
    have e39 := e35.trans e9
    walk_at "go"
    refine ⟨a, v, .ref ca, B, ofs, ch, num, rfl, e39.tab ht3, e39.book hB3, e39.tp hv3, ok, e39.tp hr1'', hasc.ok (by omega), fun H6 e6 => ?_⟩
    rw [good_of h8, hgood]
    have e36 := (e3.trans e39).trans e6
    exact kk _ e36.eg ((e36.deck hD).le (by omega))
end Sp
end
section
set_option Elab.async false
set_option linter.all false
set_option maxRecDepth 100000
set_option maxHeartbeats 4000000
set_option autoImplicit false
/-! Sp: the plain law: the ring. -/
namespace Sp
open PySem PySem.Spec PyProof.Rows L2
/-! ### what a spread reaches lies in each closed set -/
def nbr (L : List (Nat × Nat)) (out : List Nat) (x : Nat) : List Nat := ((netAt L x).filter fun l => decide (l ∉ out)).map fun l => netFar L l x
def closedS (L : List (Nat × Nat)) (out : List Nat) (S : List Nat) : Bool := S.all fun x => (nbr L out x).all fun y => decide (y ∈ S)
theorem beside_in {L : List (Nat × Nat)} {out S : List Nat} (h : closedS L out S = true) {x y : Nat} (hx : x ∈ S) (hy : y ∈ besideF L out x) : y ∈ S := by
  unfold besideF at hy
  rw [srt_mem] at hy
  unfold closedS at h
  rw [List.all_eq_true] at h
  have h2 := h x hx
  rw [List.all_eq_true] at h2
  exact of_decide_eq_true (h2 y hy)
theorem foldO_in {S : List Nat} : ∀ (l : List Nat) (p : List Nat × List Nat), (∀ x ∈ l, x ∈ S) → (∀ x ∈ p.1, x ∈ S) → (∀ x ∈ p.2, x ∈ S) → (∀ x ∈ (l.foldl stepO p).1, x ∈ S) ∧ ∀ x ∈ (l.foldl stepO p).2, x ∈ S
  | [], p, _, h1, h2 => ⟨h1, h2⟩
  | y :: l, p, hl, h1, h2 => by
    rw [List.foldl_cons]
    refine foldO_in l _ (fun x hx => hl x (List.mem_cons_of_mem _ hx)) (fun x hx => ?_) (fun x hx => ?_)
    · unfold stepO at hx
      split at hx
      · exact h1 x hx
      · rcases List.mem_append.mp hx with hx | hx
        · exact h1 x hx
        · rw [List.mem_singleton.mp hx]; exact hl y List.mem_cons_self
    · unfold stepO at hx
      split at hx
      · exact h2 x hx
      · rcases List.mem_append.mp hx with hx | hx
        · exact h2 x hx
        · rw [List.mem_singleton.mp hx]; exact hl y List.mem_cons_self
theorem foldE_in {L : List (Nat × Nat)} {out S : List Nat} (hc : closedS L out S = true) : ∀ (l : List Nat) (p : List Nat × List Nat), (∀ x ∈ l, x ∈ S) → (∀ x ∈ p.1, x ∈ S) → (∀ x ∈ p.2, x ∈ S) → (∀ x ∈ (l.foldl (stepE L out) p).1, x ∈ S) ∧ ∀ x ∈ (l.foldl (stepE L out) p).2, x ∈ S
  | [], p, _, h1, h2 => ⟨h1, h2⟩
  | y :: l, p, hl, h1, h2 => by
    rw [List.foldl_cons]
    have h := foldO_in (S := S) (besideF L out y) p (fun x hx => beside_in hc (hl y List.mem_cons_self) hx) h1 h2
    exact foldE_in hc l _ (fun x hx => hl x (List.mem_cons_of_mem _ hx)) h.1 h.2
theorem spreadG_in {L : List (Nat × Nat)} {out S : List Nat} (hc : closedS L out S = true) : ∀ (f : Nat) (found edge : List Nat), (∀ x ∈ found, x ∈ S) → (∀ x ∈ edge, x ∈ S) → ∀ x ∈ spreadG L out f found edge, x ∈ S
  | 0, _, _, h1, _ => h1
  | f + 1, found, edge, h1, h2 => by
    rw [spreadG]
    split
    · exact h1
    · have h := foldE_in hc edge (found, []) h2 h1 (fun x hx => (nomatch hx))
      exact spreadG_in hc f _ _ h.1 h.2
theorem spreadF_in {L : List (Nat × Nat)} {out S : List Nat} {goal : Nat} (hc : closedS L out S = true) (hg : goal ∈ S) : ∀ x ∈ spreadF L out goal, x ∈ S :=
  spreadG_in hc _ _ _ (fun x hx => by rw [List.mem_singleton.mp hx]; exact hg) (fun x hx => by rw [List.mem_singleton.mp hx]; exact hg)
/-! ### the ring -/
def ringL : Nat → List (Nat × Nat)
  | 3 => [(0, 1), (0, 2), (1, 2)]
  | 4 => [(0, 1), (0, 3), (1, 2), (2, 3)]
  | 5 => [(0, 1), (0, 4), (1, 2), (2, 3), (3, 4)]
  | _ => [(0, 1), (0, 5), (1, 2), (2, 3), (3, 4), (4, 5)]
def ringB (n t : Nat) : Bk := ⟨n, ringL n, t, 1, rowF (turnRows n (ringL n) t)⟩
def growS (L : List (Nat × Nat)) (out : List Nat) : Nat → List Nat → List Nat
  | 0, S => S
  | f + 1, S => growS L out f ((S.flatMap (nbr L out)).foldl (fun acc y => if y ∈ acc then acc else acc ++ [y]) S)
def sureB (B : Bk) (s : Nat) (o : List Nat) : Bool := homeF B s o || (let S := growS B.L o 6 [s]; closedS B.L o S && (decide (s ∈ S) && !decide (B.t ∈ S)))
theorem sure_miss {B : Bk} {s : Nat} {o : List Nat} (h : sureB B s o = true) : missedF B s o = false := by
  unfold sureB at h
  unfold missedF
  cases hh : homeF B s o with
  | true => rfl
  | false =>
    rw [hh] at h
    simp only [Bool.false_or, Bool.and_eq_true, decide_eq_true_eq, Bool.not_eq_true', decide_eq_false_iff_not] at h
    rw [decide_eq_false (fun z => h.2.2 (spreadF_in h.1 h.2.1 _ z))]
    rfl
def ringOk (n : Nat) : Bool := (List.range n).all fun t => (allM n).all fun o => (List.range n).all fun s => sureB (ringB n t) s o
theorem ring3 : ringOk 3 = true := by decide +kernel
theorem ring4 : ringOk 4 = true := by decide +kernel
theorem ring5 : ringOk 5 = true := by decide +kernel
theorem ring6 : ringOk 6 = true := by decide +kernel
end Sp
end
section
set_option Elab.async false
set_option linter.all false
set_option maxRecDepth 100000
set_option maxHeartbeats 4000000
set_option autoImplicit false
/-! Sp: the plain law: rows of a ring taken away and offered. -/
namespace Sp
open PySem PySem.Spec PyProof.Rows L2
theorem ring_miss {n t : Nat} (h3 : 3 ≤ n) (h6 : n ≤ 6) (ht : t < n) (num : Nat) : missF (ringB n t) num = none := by
  have hok : ringOk n = true := by
    match n, h3, h6 with
    | 3, _, _ => exact ring3
    | 4, _, _ => exact ring4
    | 5, _, _ => exact ring5
    | 6, _, _ => exact ring6
  have hl : (ringB n t).L.length = n := by
    match n, h3, h6 with
    | 3, _, _ => rfl
    | 4, _, _ => rfl
    | 5, _, _ => rfl
    | 6, _, _ => rfl
  unfold missF
  rw [List.find?_eq_none]
  intro c hc e
  rw [hl] at hc
  simp only [Bool.and_eq_true, decide_eq_true_eq] at e
  unfold casesF at hc
  obtain ⟨o, ho, hc⟩ := List.mem_flatMap.mp hc
  obtain ⟨s, hs, rfl⟩ := List.mem_map.mp hc
  have ho2 : o ∈ allM n := by
    unfold allO at ho
    exact (List.mergeSort_perm _ _).mem_iff.mp ho
  unfold ringOk at hok
  rw [List.all_eq_true] at hok
  have h1 := hok t (List.mem_range.mpr ht)
  rw [List.all_eq_true] at h1
  have h2 := h1 o ho2
  rw [List.all_eq_true] at h2
  have h4 := sure_miss (h2 s hs)
  rw [h4] at e
  exact absurd e.2 (by decide)
theorem leP_anti (a b : Nat × Nat) (h1 : leP a b = true) (h2 : leP b a = true) : a = b := by
  unfold leP at h1 h2
  simp only [decide_eq_true_eq] at h1 h2
  refine Prod.ext ?_ ?_ <;> omega
theorem sorted_one : ∀ {a b : List (Nat × Nat)}, a.Perm b → a.Pairwise (fun x y => leP x y = true) → b.Pairwise (fun x y => leP x y = true) → a = b
  | [], b, h, _, _ => h.nil_eq
  | x :: a, [], h, _, _ => absurd h.length_eq (by simp)
  | x :: a, y :: b, h, ha, hb => by
    rw [List.pairwise_cons] at ha hb
    have e : x = y := by
      have hx : x ∈ y :: b := h.mem_iff.mp List.mem_cons_self
      have hy : y ∈ x :: a := h.mem_iff.mpr List.mem_cons_self
      rcases List.mem_cons.mp hx with hx | hx
      · exact hx
      · rcases List.mem_cons.mp hy with hy | hy
        · exact hy.symm
        · exact leP_anti _ _ (ha.1 y hy) (hb.1 x hx)
    subst e
    rw [sorted_one (List.Perm.cons_inv h) ha.2 hb.2]
def ring0 (n : Nat) : List (Nat × Nat) := (0, n - 1) :: (List.range (n - 1)).map fun k => (k, k + 1)
theorem ring_srt {n : Nat} (h3 : 3 ≤ n) (h6 : n ≤ 6) : srtP (ring0 n) = ringL n := by
  refine sorted_one ((srtP_perm _).trans ?_) (List.pairwise_mergeSort leP_tr leP_to _) ?_
  · match n, h3, h6 with
    | 3, _, _ => decide
    | 4, _, _ => decide
    | 5, _, _ => decide
    | 6, _, _ => decide
  · match n, h3, h6 with
    | 3, _, _ => decide
    | 4, _, _ => decide
    | 5, _, _ => decide
    | 6, _, _ => decide
theorem ring_net {n : Nat} (h3 : 3 ≤ n) (h6 : n ≤ 6) : NetOk n (ring0 n) := by
  match n, h3, h6 with
  | 3, _, _ => exact ⟨by decide, by decide, by decide, by decide, by decide⟩
  | 4, _, _ => exact ⟨by decide, by decide, by decide, by decide, by decide⟩
  | 5, _, _ => exact ⟨by decide, by decide, by decide, by decide, by decide⟩
  | 6, _, _ => exact ⟨by decide, by decide, by decide, by decide, by decide⟩
/-- some row is there -/
theorem ring_rows {n t : Nat} (h3 : 3 ≤ n) (h6 : n ≤ 6) (ht : t < n) : 0 < (rowsOf (ringB n t)).length := by
  match n, h3, h6 with
  | 3, _, _ => match t, ht with | 0, _ => decide | 1, _ => decide | 2, _ => decide
  | 4, _, _ => match t, ht with | 0, _ => decide | 1, _ => decide | 2, _ => decide | 3, _ => decide
  | 5, _, _ => match t, ht with | 0, _ => decide | 1, _ => decide | 2, _ => decide | 3, _ => decide | 4, _ => decide
  | 6, _, _ => match t, ht with | 0, _ => decide | 1, _ => decide | 2, _ => decide | 3, _ => decide | 4, _ => decide | 5, _ => decide
theorem rowsOf_val {B : Bk} {x : Ky × Row} (h : x ∈ rowsOf B) : x.2 = B.F x.1 := by
  unfold rowsOf at h
  obtain ⟨k, _, rfl⟩ := List.mem_map.mp h
  rfl
/-- the first offer of each key -/
def firsts (ofs : List (Ky × Row)) : List Nat := (List.range ofs.length).filter fun i => !decide (keyAt ofs i ∈ (List.range i).map (keyAt ofs))
theorem firsts_asc (ofs : List (Ky × Row)) : Asc ofs (firsts ofs) := by
  have hp : (firsts ofs).Pairwise (· < ·) := List.pairwise_lt_range.sublist List.filter_sublist
  refine ⟨fun i hi => List.mem_range.mp (List.mem_filter.mp hi).1, ?_, hp⟩
  rw [List.nodup_iff_pairwise_ne, List.pairwise_map]
  refine hp.imp_of_mem fun {a b} _ hb h e => ?_
  have h2 := (List.mem_filter.mp hb).2
  simp only [Bool.not_eq_true', decide_eq_false_iff_not] at h2
  exact h2 (List.mem_map.mpr ⟨a, List.mem_range.mpr h, e⟩)
theorem firsts_all {ofs : List (Ky × Row)} : ∀ (i : Nat), i < ofs.length → keyAt ofs i ∈ (firsts ofs).map (keyAt ofs) := by
  intro i
  induction i using Nat.strongRecOn with
  | ind i ih =>
    intro hi
    by_cases h : keyAt ofs i ∈ (List.range i).map (keyAt ofs)
    · obtain ⟨j, hj, e⟩ := List.mem_map.mp h
      have hj := List.mem_range.mp hj
      rw [← e]
      exact ih j hj (by omega)
    · refine List.mem_map_of_mem (List.mem_filter.mpr ⟨List.mem_range.mpr hi, ?_⟩)
      simp only [Bool.not_eq_true', decide_eq_false_iff_not]
      exact h
theorem keyAt_mem {ofs : List (Ky × Row)} {x : Ky × Row} (h : x ∈ ofs) : ∃ i, i < ofs.length ∧ keyAt ofs i = x.1 := by
  obtain ⟨i, hi, e⟩ := List.getElem_of_mem h
  refine ⟨i, hi, ?_⟩
  unfold keyAt
  rw [List.getD_eq_getElem?_getD, List.getElem?_eq_getElem hi, e]
  rfl
def goneB (B : Bk) (sp : List Ky) : Bk := putRows B (sp.map fun k => (k, []))
section
variable {B : Bk} {ofs : List (Ky × Row)} {sp : List Ky}
theorem gone_in {k : Ky} (h : k ∈ sp) : lookR (sp.map fun k => ((k, []) : Ky × Row)) k = some [] := by
  obtain ⟨r, hr⟩ := lookR_some (rs := sp.map fun k => ((k, []) : Ky × Row)) (k := k) (by rw [List.map_map]; exact List.mem_map.mpr ⟨k, h, rfl⟩)
  obtain ⟨k2, _, e⟩ := List.mem_map.mp (lookR_mem hr)
  rw [hr, ← (Prod.mk.inj e).2]
theorem gone_out {k : Ky} (h : k ∉ sp) : lookR (sp.map fun k => ((k, []) : Ky × Row)) k = none := lookR_none fun z => by
  rw [List.map_map] at z
  obtain ⟨k2, hk, e⟩ := List.mem_map.mp z
  exact h (by rw [← show k2 = k from e]; exact hk)
theorem restored (ho : ∀ x ∈ ofs, x ∈ rowsOf B) (hs : ∀ k, k ∈ sp ↔ k ∈ ofs.map (·.1)) : changedF (goneB B sp) ofs (firsts ofs) = B := by
  unfold changedF goneB putRows
  have hF : (fun k => (lookR (pick ofs (firsts ofs)) k).getD ((lookR (sp.map fun k => ((k, []) : Ky × Row)) k).getD (B.F k))) = B.F := by
    funext k
    by_cases hk : k ∈ ofs.map (·.1)
    · obtain ⟨x, hx, rfl⟩ := List.mem_map.mp hk
      obtain ⟨i, hi, e⟩ := keyAt_mem hx
      have h1 := firsts_all i hi
      rw [e, ← pick_keys] at h1
      obtain ⟨r, hr⟩ := lookR_some h1
      have h2 := rowsOf_val (ho _ (pick_mem (firsts_asc ofs).lt _ (lookR_mem hr)))
      rw [hr]
      exact h2
    · rw [gone_out (fun z => hk ((hs k).mp z)), lookR_none]
      · rfl
      · intro z
        rw [pick_keys] at z
        obtain ⟨i, hi, e⟩ := List.mem_map.mp z
        refine hk ?_
        rw [← e]
        exact List.mem_map_of_mem (getD_mem ((firsts_asc ofs).lt i hi))
  cases B
  simp only [Bk.mk.injEq, true_and]
  exact hF
/-- what the first offer's key has, whatever is chosen -/
theorem first_row {x : Ky × Row} {ch : List Nat} (ho : ∀ x ∈ ofs, x ∈ rowsOf B) (hs : ∀ k, k ∈ sp ↔ k ∈ ofs.map (·.1)) (hx : x ∈ ofs) (hc : ∀ i ∈ ch, i < ofs.length) : (changedF (goneB B sp) ofs ch).F x.1 = x.2 ∨ (changedF (goneB B sp) ofs ch).F x.1 = [] := by
  unfold changedF goneB putRows
  show (lookR (pick ofs ch) x.1).getD ((lookR (sp.map fun k => ((k, []) : Ky × Row)) x.1).getD (B.F x.1)) = _ ∨ (lookR (pick ofs ch) x.1).getD ((lookR (sp.map fun k => ((k, []) : Ky × Row)) x.1).getD (B.F x.1)) = _
  cases hr : lookR (pick ofs ch) x.1 with
  | some r =>
    left
    rw [rowsOf_val (ho x hx)]
    exact rowsOf_val (ho _ (pick_mem hc _ (lookR_mem hr)))
  | none =>
    right
    rw [gone_in ((hs x.1).mpr (List.mem_map_of_mem hx))]
    rfl
end
theorem ring_few {n t : Nat} {ofs : List (Ky × Row)} {sp : List Ky} (h3 : 3 ≤ n) (h6 : n ≤ 6) (ht : t < n) (ho : ∀ x ∈ ofs, x ∈ rowsOf (ringB n t)) (hs : ∀ k, k ∈ sp ↔ k ∈ ofs.map (·.1)) (hl : ofs.length ≤ 3) : ∃ ch, fewF (goneB (ringB n t) sp) ofs n 3 = some ch ∧ Asc ofs ch ∧ ch.length ≤ 3 := by
  cases hf : fewF (goneB (ringB n t) sp) ofs n 3 with
  | some ch => exact ⟨ch, rfl, (few_some hf).1, (few_some hf).2.1⟩
  | none =>
    exfalso
    have hlen : (firsts ofs).length ≤ 3 := by
      have := List.length_filter_le (fun i => !decide (keyAt ofs i ∈ (List.range i).map (keyAt ofs))) (List.range ofs.length)
      rw [List.length_range] at this
      unfold firsts
      omega
    have hg := few_none hf (firsts_asc ofs) hlen
    unfold goodF at hg
    rw [restored ho hs, ring_miss h3 h6 ht] at hg
    exact absurd hg (by simp)
end Sp
end
section
set_option Elab.async false
set_option linter.all false
set_option maxRecDepth 100000
set_option maxHeartbeats 4000000
set_option autoImplicit false
local macro_rules | `(tactic| walk_at "go") => `(tactic| repeat first
  | (with_reducible first
     | refine Sp.st_var rfl ?_ | refine Sp.st_c ?_ | refine Sp.st_op ?_ | refine Sp.st_seq ?_ | refine Sp.st_asg ?_ | refine Sp.st_name ?_
     | refine Sp.st_ret ?_ | refine Sp.st_drop ?_ | refine Sp.st_next ?_ | refine Sp.st_if ?_ | refine Sp.st_nx ?_ | refine Sp.st_rt ?_
     | refine Sp.st_cons ?_ | refine Sp.st_nil ?_ | refine Sp.st_cb ?_ | refine Sp.st_call ?_ | refine Sp.st_test ?_ | refine Sp.st_B ?_
     | refine Sp.st_not ?_ | refine Sp.st_and ?_ | refine Sp.st_or ?_ | refine Sp.st_andV ?_ | refine Sp.st_orV ?_ | refine Sp.st_notV ?_
     | refine Sp.st_tif ?_ | refine Sp.st_tup ?_ | refine Sp.st_lst ?_ | refine Sp.st_blx ?_ | refine Sp.st_I0 ?_ | refine Sp.st_U ?_
     | refine Sp.st_eqI ?_ | refine Sp.st_neI ?_ | refine Sp.st_chain ?_ | refine Sp.isiI ?_ | refine Sp.isiB ?_ | refine Sp.isiS ?_
     | refine Sp.st_T rfl ?_ | refine Sp.st_F rfl ?_ | refine Sp.st_lc ?_ | refine Sp.st_iT ?_ | refine Sp.st_iL ?_ | refine Sp.st_iR1 ?_
     | refine Sp.st_iR2 ?_ | refine Sp.st_iET ?_ | refine Sp.st_iZA ?_ | refine Sp.st_iZLT ?_ | refine Sp.st_for ?_ | refine Sp.st_fld ?_
     | refine Sp.st_sfld ?_ | refine Sp.st_prop ?_ | refine Sp.st_meth ?_ | refine Sp.st_make ?_ | refine Sp.st_isN ?_ | refine Sp.st_yes ?_
     | refine Sp.isNI ?_ | refine Sp.notNI ?_ | refine Sp.int1I ?_ | refine Sp.int1B ?_ | refine Sp.min2I ?_ | refine Sp.max2I ?_
     | refine Sp.st_dputN ?_ | refine Sp.st_dgetN ?_ | refine Sp.st_revL ?_ | refine Sp.st_din ?_ | refine Sp.st_dnin ?_ | refine Sp.st_dget ?_ | refine Sp.st_dput ?_ | refine Sp.st_dc ?_ | refine Sp.st_dcN ?_
     | refine Sp.st_sortLam ?_ | refine Sp.st_lc2 ?_ | refine Sp.st_un ?_ | refine Sp.st_lenSet ?_ | refine Sp.st_bm ?_ | refine Sp.st_lenO ?_ | refine Sp.st_sl ?_ | refine Sp.st_part ?_ | refine Sp.st_nopart ?_ | refine Sp.st_intx ?_)
  | ((with_reducible refine Sp.st_wp ?_ ?_); (focus rfl)))
namespace Sp
open PySem PySem.Spec L2

abbrev goneE (k : Ky) : KO × D := (ko k, eR [])
theorem dval_gone {sp : List Ky} {k : Ky} (h : k ∈ sp) : dval (sp.map goneE) (ko k) = some (eR []) := by
  induction sp with
  | nil => cases h
  | cons a sp ih =>
    rw [List.map_cons]
    by_cases e : a = k
    · rw [dval_pos (by rw [e])]
    · rw [dval_neg (fun z => e (ko_inj z))]
      rcases List.mem_cons.mp h with h | h
      · exact absurd h.symm e
      · exact ih h
theorem dputs_gone : ∀ (l acc : List Ky), acc.Nodup → ∃ sp : List Ky, sp.Nodup ∧ dputs (acc.map goneE) (l.map goneE) = sp.map goneE ∧ ∀ k, k ∈ sp ↔ k ∈ acc ∨ k ∈ l
  | [], acc, h => ⟨acc, h, rfl, fun k => ⟨.inl, fun z => z.elim id (fun y => nomatch y)⟩⟩
  | x :: l, acc, h => by
    by_cases hx : x ∈ acc
    · obtain ⟨sp, h1, h2, h3⟩ := dputs_gone l acc h
      refine ⟨sp, h1, ?_, fun k => ?_⟩
      · rw [← h2]
        show dputs (dput (acc.map goneE) (ko x) (eR [])) (l.map goneE) = _
        congr 1
        unfold dput
        rw [dval_gone hx, if_pos (show (some (eR [])).isSome = true from rfl)]
        rw [List.map_map]
        refine List.map_congr_left fun a _ => ?_
        show (if ko a = ko x then (ko a, eR []) else (ko a, eR [])) = _
        split <;> rfl
      · rw [h3 k, List.mem_cons]
        constructor
        · rintro (h | h)
          · exact .inl h
          · exact .inr (.inr h)
        · rintro (h | rfl | h)
          · exact .inl h
          · exact .inl hx
          · exact .inr h
    · obtain ⟨sp, h1, h2, h3⟩ := dputs_gone l (acc ++ [x]) (by
        rw [List.nodup_append]
        exact ⟨h, nd1 _, fun a ha b hb e => hx (by rw [← List.mem_singleton.mp hb, ← e]; exact ha)⟩)
      refine ⟨sp, h1, ?_, fun k => ?_⟩
      · rw [← h2, List.map_append]
        show dputs (dput (acc.map goneE) (ko x) (eR [])) (l.map goneE) = _
        rw [dput_new]
        · rfl
        · rw [List.map_map]
          intro z
          obtain ⟨a, ha, e⟩ := List.mem_map.mp z
          exact hx (by rw [← ko_inj e]; exact ha)
      · rw [h3 k]
        simp [or_assoc]
-- _law_is_ring_mended: slots _law_deck_here 0, _law_nodes 1, _law_net_here 2, _law_whole 3, _law_rows 4, _law_offers 5, _law_gone 6, _law_book_here 7, _law_choice 8, _law_turn 9, _law_offer 10, _law_spot 11, _law_k 12; cells ['_law_deck_here', '_law_gone', '_law_rows']
abbrev s__law_is_ring_mended : Stmt := top 76
abbrev N__law_is_ring_mended : List Str := ["_law_deck_here", "_law_nodes", "_law_net_here", "_law_whole", "_law_rows", "_law_offers", "_law_gone", "_law_book_here", "_law_choice", "_law_turn", "_law_offer", "_law_spot", "_law_k"]
theorem sc__law_is_ring_mended : FnScope N__law_is_ring_mended ["_law_deck_here"] (defScope s__law_is_ring_mended) := ⟨rfl, rfl, rfl, by decide +kernel, rfl, by decide +kernel, by decide +kernel⟩
def sp__law_is_ring_mended (g : Gx) : Sp := fun vs H Q _ => ∃ d c0 c1, ∃ k : Nat, vs = [.ref d] ∧ k ≤ 800000 ∧ Deck H d c0 c1 k ∧ LamX.Tabs g.T H ∧ ∀ H', Eg g.T d c0 H H' → Deck H' d c0 c1 (k + 5) → Q (.bl true) H'
theorem ok__law_is_ring_mended (g : Gx) (T : Blt g.mg) (Z : Fct g) (C__law_next : Cal g.P g.w g.K g.mg g.base 1 "_law_next" ["_law_deck_here", "_law_many"] (sp__law_next g)) (C_Net : CalK g.P g.w g.K g.mg g.base 5 g.nc "Net" ["self", "nodes", "links"] (sp_Net___init__ g)) (C_turning : CalC g.P g.w g.K g.mg g.base 7 g.bc "turning" (sp_Book_turning g)) (C_rows : CalP g.P g.w g.K g.mg g.base 4 g.bc "rows" (sp_Book_rows g)) (C_with_rows : CalM g.P g.w g.K g.mg g.base 7 g.bc "with_rows" ["self", "rows"] (sp_Book_with_rows g)) (C__law_told : Cal g.P g.w g.K g.mg g.base 12 "_law_told" ["_law_book_here", "_law_offers", "_law_number", "_law_limit"] (sp__law_told g)) (C_row_at : CalM g.P g.w g.K g.mg g.base 1 g.bc "row_at" ["self", "key"] (sp_Book_row_at g)) (C_changed : Cal g.P g.w g.K g.mg g.base 8 "changed" ["book", "offers", "choice"] (sp_changed g)) (m_Book : g.mg "Book" = some (.ref g.bc)) {f : Addr} {fd : FuncData} (F : Fun g.K "_law_is_ring_mended" "_law_is_ring_mended" s__law_is_ring_mended f fd) : FnOk g.P g.w g.K g.mg g.base CX0 13 f fd ["_law_deck_here"] (sp__law_is_ring_mended g) := by
  refine F.ok sc__law_is_ring_mended (fun vs H Q E h => ?_) (fun cdv A outer s H vs Q E hr h => ?_)
  · first | (obtain ⟨rfl, _⟩ := h; rfl) | (obtain ⟨_, rfl, _⟩ := h; rfl) | (obtain ⟨_, _, rfl, _⟩ := h; rfl) | (obtain ⟨_, _, _, rfl, _⟩ := h; rfl) | (obtain ⟨_, _, _, _, rfl, _⟩ := h; rfl) | (obtain ⟨_, _, _, _, _, rfl, _⟩ := h; rfl) | (obtain ⟨_, _, _, _, _, _, rfl, _⟩ := h; rfl) | (obtain ⟨_, _, _, _, _, _, _, rfl, _⟩ := h; rfl) | (obtain ⟨_, _, _, _, _, _, _, _, rfl, _⟩ := h; rfl) | (obtain ⟨_, _, _, _, _, _, _, _, _, rfl, _⟩ := h; rfl) | (obtain ⟨_, _, _, _, _, _, _, _, _, _, rfl, _⟩ := h; rfl) | (obtain ⟨_, _, _, _, _, _, _, _, _, _, _, rfl, _⟩ := h; rfl) | (obtain ⟨_, _, _, _, _, _, _, _, _, _, _, _, rfl, _⟩ := h; rfl) | (obtain ⟨_, _, _, _, _, _, _, _, _, _, _, _, _, rfl, _⟩ := h; rfl)
  have hu := room_un hr
  obtain ⟨d, c0, c1, k, rfl, hk, hD, htab, kk⟩ := h
  refine ⟨_, (pss_cons (ps_set (i := 1) sc__law_is_ring_mended.nd rfl (Or.inl rfl) (pe_op op_add pe_int (pe_cF C__law_next (hr.mono (by decide)) rfl (pa_cons (pv 0) (pa_cons pe_int pa_nil)))))
      (pss_cons (ps_set (i := 2) sc__law_is_ring_mended.nd rfl (Or.inl rfl) (pe_kF C_Net (hr.mono (by decide)) rfl (pa_cons (pv 1) (pa_cons (pe_callTy (tupOfW g) (by rfl) T.b_tuple boot_t_tuple (pa_cons (pe_op op_cat (pe_lst (pa_cons (pe_tup (pa_cons pe_int (pa_cons (pe_op op_sub (pv 1) pe_int) pa_nil))) pa_nil)) (pe_lc (own := [("_law_k", 12)]) rfl sc__law_is_ring_mended.nd (pi_range1 (by rfl) T.b_range (pa_cons (pe_op op_sub (pv 1) pe_int) pa_nil)) (blkOk_by rfl) (fun _ _ _ _ _ => pg_name (i := 12) sc__law_is_ring_mended.nd rfl (Or.inl rfl)) (fun _ _ _ _ _ => pts_nil) (fun _ _ _ _ _ => (pe_tup (pa_cons (pv 12) (pa_cons (pe_op op_add (pv 12) pe_int) pa_nil)))))) pa_nil)) pa_nil))))
      (pss_cons (ps_set (i := 3) sc__law_is_ring_mended.nd rfl (Or.inl rfl) (pe_clF C_turning (hr.mono (by decide)) (pe_glob (v := .ref g.bc) rfl m_Book rfl) (pa_cons (pv 2) (pa_cons (pe_cF C__law_next (hr.mono (by decide)) rfl (pa_cons (pv 0) (pa_cons (pv 1) pa_nil))) pa_nil))))
      (pss_cons (ps_set (i := 4) sc__law_is_ring_mended.nd rfl (Or.inr rfl) (pe_callTy (listOfW g) (by rfl) T.b_list boot_t_list (pa_cons (pe_pF C_rows (hr.mono (by decide)) (pv 3) rfl) pa_nil)))
      (pss_cons (ps_set (i := 5) sc__law_is_ring_mended.nd rfl (Or.inl rfl) (pe_callTy (tupOfW g) (by rfl) T.b_tuple boot_t_tuple (pa_cons (pe_lc (own := [("_law_turn", 9)]) rfl sc__law_is_ring_mended.nd (pi_range1 (by rfl) T.b_range (pa_cons pe_int pa_nil)) (blkOk_by rfl) (fun _ _ _ _ _ => pg_name (i := 9) sc__law_is_ring_mended.nd rfl (Or.inl rfl)) (fun _ _ _ _ _ => pts_nil) (fun _ _ _ _ _ => (pe_ix (ixW g) (pv 4) (pe_cF C__law_next (hr.mono (by decide)) rfl (pa_cons (pv 0) (pa_cons (pe_callB (lenW g) (by rfl) T.b_len boot_f_len (pa_cons (pv 4) pa_nil)) pa_nil))) (fun _ _ => rfl)))) pa_nil)))
      (pss_cons (ps_set (i := 6) sc__law_is_ring_mended.nd rfl (Or.inr rfl) (pe_callTy (dictNW g hu) (by rfl) T.b_dict boot_t_dict (pa_cons (pe_lc (own := [("_law_offer", 10)]) rfl sc__law_is_ring_mended.nd (iTW g (pv 5)) (blkOk_by rfl) (fun _ _ _ _ _ => pg_name (i := 10) sc__law_is_ring_mended.nd rfl (Or.inl rfl)) (fun _ _ _ _ _ => pts_nil) (fun _ _ _ _ _ => (pe_tup (pa_cons (pe_ix (ixW g) (pv 10) pe_int (fun _ _ => rfl)) (pa_cons (pe_tup pa_nil) pa_nil))))) pa_nil)))
      (pss_cons (ps_set (i := 7) sc__law_is_ring_mended.nd rfl (Or.inl rfl) (pe_mF C_with_rows (hr.mono (by decide)) (pv 3) (pa_cons (pe_callTy (tupOfW g) (by rfl) T.b_tuple boot_t_tuple (pa_cons (pe_lc (own := [("_law_spot", 11)]) rfl sc__law_is_ring_mended.nd (iLW g (pe_callTy (listNW g) (by rfl) T.b_list boot_t_list (pa_cons (pv 6) pa_nil))) (blkOk_by rfl) (fun _ _ _ _ _ => pg_name (i := 11) sc__law_is_ring_mended.nd rfl (Or.inl rfl)) (fun _ _ _ _ _ => pts_nil) (fun _ _ _ _ _ => (pe_tup (pa_cons (pv 11) (pa_cons (ixNW g hu (pv 6) (pv 11) (fun _ _ => rfl)) pa_nil))))) pa_nil)) pa_nil)))
      (pss_cons (ps_set (i := 8) sc__law_is_ring_mended.nd rfl (Or.inl rfl) (pe_cF C__law_told (hr.mono (by decide)) rfl (pa_cons (pv 7) (pa_cons (pv 5) (pa_cons (pv 1) (pa_cons pe_int pa_nil))))))
      (pss_one (ps_ret (pe_and (pe_cmpR notNW (pv 8) pe_non (nomark _)) (pe_one (pe_cmpR (inDW g hu) (pe_mF C_row_at (hr.mono (by decide)) (pe_cF C_changed (hr.mono (by decide)) rfl (pa_cons (pv 7) (pa_cons (pv 5) (pa_cons (pv 8) pa_nil)))) (pa_cons (pe_ix (ixW g) (pe_ix (ixW g) (pv 5) pe_int (fun _ _ => rfl)) pe_int (fun _ _ => rfl)) pa_nil)) (pe_lst (pa_cons (pe_ix (ixW g) (pe_ix (ixW g) (pv 5) pe_int (fun _ _ => rfl)) pe_int (fun _ _ => rfl)) (pa_cons (pe_tup pa_nil) pa_nil))) rfl))))))))))))), ?_⟩
  walk_at "go"
  refine ⟨d, c0, c1, 4, k, rfl, ⟨by decide, by decide⟩, by omega, hD, fun r0 H1 e1 hD1 hr0 => ?_⟩
  refine st_I0 ?_
  rw [show (3 : Int) + (r0 : Int) = ((3 + r0 : Nat) : Int) by omega]
  have h3 : 3 ≤ 3 + r0 := by omega
  have h6 : 3 + r0 ≤ 6 := by omega
  generalize 3 + r0 = n at h3 h6
  walk_at "go"
  refine ⟨szr rfl, fun q0 hq0 => ?_⟩
  walk_at "go"
  refine ⟨szr rfl, fun l0 hl0 => ?_⟩
  have e2 : Ex g.T H1 (upd (upd H1 q0 (.tup [.int 0, .int ((n : Int) - 1)])) l0 (.lst [.ref q0])) := (Ex.new hq0).trans (.new hl0)
  have hl0' : (upd (upd H1 q0 (.tup [.int 0, .int ((n : Int) - 1)])) l0 (.lst [.ref q0])) l0 = some (.lst [.ref q0]) := upd_same
  have hq0' : Tp g.K (upd (upd H1 q0 (.tup [.int 0, .int ((n : Int) - 1)])) l0 (.lst [.ref q0])) (.ref q0) (eP (0, n - 1)) := by
    refine Tp.up (.tup (.of upd_same) (.cons (.int _) (.cons ?_ .nil))) (noTup_none hl0)
    rw [show (n : Int) - 1 = ((n - 1 : Nat) : Int) by omega]
    exact .int _
  generalize upd (upd H1 q0 (.tup [.int 0, .int ((n : Int) - 1)])) l0 (.lst [.ref q0]) = H2 at e2 hl0' hq0'
  walk_at "go"
  refine ⟨(n : Int) - 1, rfl, by omega, by omega, ?_⟩
  rw [show ((n : Int) - 1).toNat = n - 1 by omega]
  refine lcR (T := g.T) (K := g.K) (fun _ => true) (fun i => eP (i, i + 1)) (by omega) (fun z H3 hz e3 => ?_) fun p1 H3 zs np1 e3 hp1 hzs => ?_
  · intro Yes No hY hN
    rw [Int.zero_add]
    walk_at "go"
    exact ⟨szr rfl, fun q3 hq3 => hY rfl _ _ (.new hq3) (.tup (.of upd_same) (.cons (.int _) (.cons (.int (z + 1 : Nat)) .nil)))⟩
  rw [List.filter_eq_self.mpr (fun _ _ => rfl)] at hzs
  refine catL (e3.at hl0') hp1 (by rw [hzs.len, List.length_map, List.length_range]; show 1 + (n - 1) ≤ _; omega) fun p2 hp2 => ?_
  have hall : TpAll g.K (upd H3 p2 (.lst ([.ref q0] ++ zs))) ([.ref q0] ++ zs) ((ring0 n).map eP) := by
    refine TpAll.up ?_ (noTup_none hp2)
    unfold ring0
    rw [List.map_cons, List.map_map]
    exact .cons (e3.tp hq0') hzs
  have e4 : Ex g.T H1 (upd H3 p2 (.lst ([.ref q0] ++ zs))) := (e2.trans e3).trans (.new hp2)
  have hp2' : (upd H3 p2 (.lst ([.ref q0] ++ zs))) p2 = some (.lst ([.ref q0] ++ zs)) := upd_same
  generalize upd H3 p2 (.lst ([.ref q0] ++ zs)) = H4 at hall e4 hp2'
  walk_at "go"
  refine tupL (.of hp2') fun p3 hp3 => ?_
  have e5 : Ex g.T H1 (upd H4 p3 (.tup ([.ref q0] ++ zs))) := e4.trans (.new hp3)
  have hlk : Tp g.K (upd H4 p3 (.tup ([.ref q0] ++ zs))) (.ref p3) (.tuple ((ring0 n).map eP)) := .tup (.of upd_same) (hall.up (noTup_none hp3))
  generalize upd H4 p3 (.tup ([.ref q0] ++ zs)) = H5 at e5 hlk
  walk_at "go"
  intro x1 dx1 hx1 hdx1 hne1
  have e6 : Ex g.T H5 (upd (upd H5 dx1 (.own x1)) x1 (.ins g.nc dx1 [])) := (Ex.new hdx1).trans (.new (by rw [upd_ne (Ne.symm hne1)]; exact hx1))
  refine ⟨x1, _, n, ring0 n, rfl, ⟨dx1, upd_same⟩, e6.tp hlk, ring_net h3 h6, fun H7 b7 hb7 => ⟨rfl, ?_⟩⟩
  rw [ring_srt h3 h6] at hb7
  have e57 : Ex g.T H1 H7 := e5.trans (ExB.made hx1 hdx1 hne1 b7)
  have hD7 := e57.deck hD1
  walk_at "go"
  refine ⟨rfl, ?_⟩
  walk_at "go"
  refine ⟨d, c0, c1, n, _, rfl, ⟨by omega, by omega⟩, by omega, hD7, fun t H8 e8 hD8 ht => ?_⟩
  walk_at "go"
  refine ⟨x1, n, t, ringL n, rfl, e8.net hD7 hb7, ht, fun wb H9 e9 hwb => ?_⟩
  have hwb : BookAt g H9 wb (ringB n t) := hwb
  have e19 := ((e1.then e57).trans e8).then e9
  have hD9 := e9.deck hD8
  walk_at "go"
  obtain ⟨⟨dxw, grw, dw, lw, kvw, w1, w2, w3, w4⟩, wok⟩ := hwb
  refine ⟨wb, _, _, rfl, w1, wb, ringB n t, rfl, ⟨⟨dxw, grw, dw, lw, kvw, w1, w2, w3, w4⟩, wok⟩, fun rv H10 e10 hrv => ?_⟩
  have hwb : BookAt g H9 wb (ringB n t) := ⟨⟨dxw, grw, dw, lw, kvw, w1, w2, w3, w4⟩, wok⟩
  obtain ⟨ra, rx, rfl, hra, hrx⟩ := tp_tup hrv
  have hrl : rx.length = (rowsOf (ringB n t)).length := by rw [hrx.len, List.length_map]
  have hrp := ring_rows h3 h6 ht
  have hr500 : (rowsOf (ringB n t)).length ≤ 500 := by
    have h1 := congrArg List.length (rowsOf_keys (ringB n t))
    rw [List.length_map] at h1
    have h2 := List.length_filter_le (fun k => decide ((ringB n t).F k ≠ [])) (keysOf (ringB n t).n (ringB n t).L (ringB n t).t (ringB n t).w)
    have h4 := keysTo_len (n := n) (t := t) (w := 1) wok.net.few (by decide) (List.range n)
    rw [List.length_range] at h4
    have h5 : (keysOf (ringB n t).n (ringB n t).L (ringB n t).t (ringB n t).w).length ≤ n * 17 := h4
    omega
  walk_at "go"
  refine lstT hra fun lr hlr => ?_
  have e11 : Ex g.T H9 (upd H10 lr (.lst rx)) := e10.trans (.new hlr)
  have hlr' : (upd H10 lr (.lst rx)) lr = some (.lst rx) := upd_same
  have hrx' : TpAll g.K (upd H10 lr (.lst rx)) rx ((rowsOf (ringB n t)).map eO) := hrx.up (noTup_none hlr)
  have nlr : New H lr := (e19.then e10).new (e10.deck hD9) (.of hlr)
  generalize upd H10 lr (.lst rx) = H11 at e11 hlr' hrx'
  have hD11 := e11.deck hD9
  have hwb11 := e11.book hwb
  have e111 := e19.then e11
  walk_at "go"
  refine ⟨3, rfl, by decide, by decide, ?_⟩
  refine lcRD (T := g.T) (K := g.K) (s := 1) (fun i ds => ∃ ofs : List (Ky × Row), ds = ofs.map eO ∧ ofs.length = i ∧ ∀ x ∈ ofs, x ∈ rowsOf (ringB n t)) (by decide) hD11 ⟨[], rfl, rfl, fun c h => (nomatch h)⟩ (fun i ds hi h => ?_) (fun z H12 ds hz e12 hD12 hR Yes No hY => ?_) fun p5 H12 ys ds np5 e12 hD12 hp5 hys hR => ?_
  · obtain ⟨ofs, rfl, h1, _⟩ := h
    rw [List.length_map]
    omega
  · have hlr12 := e12.keep hlr' (hD.new_d nlr) (hD.new_c nlr)
    walk_at "go"
    refine lenL (.of hlr12) ?_
    walk_at "go"
    refine ⟨d, c0, c1, rx.length, _, rfl, ⟨by omega, by omega⟩, by omega, hD12, fun r H13 e13 hD13 hr => ?_⟩
    obtain ⟨x, hx⟩ : ∃ x, (rowsOf (ringB n t))[r]? = some x := ⟨_, List.getElem?_eq_getElem (by omega)⟩
    obtain ⟨y, hy1, hy2⟩ := ((e12.trans e13).tps hD11 hrx').get (i := r) (d := eO x) (by rw [List.getElem?_map, hx]; rfl)
    refine st_ixL (.of (e13.keep hlr12 (hD.new_d nlr) (hD.new_c nlr))) (atI_nat hy1) ?_
    obtain ⟨ofs, rfl, h1, h2⟩ := hR
    refine hY _ _ (eO x) e13 hD13 hy2 ⟨ofs ++ [x], by rw [List.map_append]; rfl, by rw [List.length_append, h1]; rfl, fun y hy => ?_⟩
    rcases List.mem_append.mp hy with hy | hy
    · exact h2 y hy
    · rw [List.mem_singleton.mp hy]; exact List.mem_of_getElem? hx
  obtain ⟨ofs, rfl, hof3, hofm⟩ := hR
  have e112 := e111.trans e12
  have hwb12 := e12.book hD11 hwb11
  walk_at "go"
  refine tupL (.of hp5) fun ov hov => ?_
  have e13 : Ex g.T H12 (upd H12 ov (.tup ys)) := .new hov
  have hov' : Tp g.K (upd H12 ov (.tup ys)) (.ref ov) (.tuple (ofs.map eO)) := .tup (.of upd_same) (hys.up (noTup_none hov))
  have hov'' : SqT g.K (upd H12 ov (.tup ys)) ov ys := .of upd_same
  have hys' : TpAll g.K (upd H12 ov (.tup ys)) ys (ofs.map eO) := hys.up (noTup_none hov)
  have hD13 := e13.deck hD12
  have hwb13 := e13.book hwb12
  have e113 := e112.then e13
  generalize upd H12 ov (.tup ys) = H13 at e13 hov' hov'' hys' hD13 hwb13 e113
  walk_at "go"
  refine ⟨ov, rfl, ⟨_, hov''⟩, ?_⟩
  refine lcT (T := g.T) (l := ofs) (enc := eO) (fun _ => true) (fun x => eO (x.1, [])) hov'' hys' (by omega) (fun z x H14 hz e14 hx => ?_) fun p6 H14 gs np6 e14 hp6 hgs => ?_
  · intro Yes No hY hN
    obtain ⟨ya, ka, ra, rfl, hya, hka, hra⟩ := tp_eO hx
    walk_at "go"
    refine st_ixT hya rfl ?_
    walk_at "go"
    refine ⟨Nat.zero_le _, fun q1 hq1 => ?_⟩
    walk_at "go"
    refine ⟨szr rfl, fun q2 hq2 => ?_⟩
    have f1 : Ex g.T H14 (upd H14 q1 (.tup [])) := .new hq1
    have f2 : Ex g.T (upd H14 q1 (.tup [])) (upd (upd H14 q1 (.tup [])) q2 (.tup [ka, .ref q1])) := .new hq2
    have h0 : Tp g.K (upd H14 q1 (.tup [])) (.ref q1) (eR []) := .tup (.of upd_same) .nil
    exact hY rfl _ _ (f1.trans f2) (.tup (.of upd_same) (.cons ((f1.trans f2).tp hka) (.cons (f2.tp h0) .nil)))
  rw [List.filter_eq_self.mpr (fun _ _ => rfl)] at hgs
  walk_at "go"
  have hdic : TpAll g.K H14 gs ((ofs.map fun x : Ky × Row => (ko x.1, eR [])).map fun x : KO × D => PyData.tuple [kD x.1, x.2]) := by
    rw [List.map_map]
    exact hgs
  refine ⟨p6, gs, ofs.map fun x : Ky × Row => (ko x.1, eR []), rfl, .of hp6, hdic, fun gd Ln hgd hd => ?_⟩
  obtain ⟨sp, hspn, hspe, hspm⟩ := dputs_gone (ofs.map (·.1)) [] List.nodup_nil
  have hspm : ∀ k, k ∈ sp ↔ k ∈ ofs.map (·.1) := fun k => (hspm k).trans ⟨fun z => z.elim (fun y => nomatch y) id, .inr⟩
  have hkv : dputs [] (ofs.map fun x : Ky × Row => (ko x.1, eR [])) = sp.map goneE := by
    rw [← hspe, List.map_map]
    rfl
  rw [hkv] at hd
  have hspl : sp.length ≤ 3 := by
    have := nodup_len hspn fun x hx => (hspm x).mp hx
    rw [List.length_map] at this
    omega
  have e15 : Ex g.T H14 (upd H14 gd (DicN g.P g.w gd Ln)) := .new hgd
  have e1315 := e14.trans e15
  generalize upd H14 gd (DicN g.P g.w gd Ln) = H15 at hd e15 e1315
  walk_at "go"
  have hwb15 := e1315.book hwb13
  obtain ⟨⟨dxw, grw, dw, lw, kvw, w1, w2, w3, w4⟩, wok2⟩ := id hwb15
  refine ⟨wb, _, _, rfl, w1, rfl, ?_⟩
  walk_at "go"
  refine ⟨gd, _, rfl, hd, fun ls sy hls0 hsy => ?_⟩
  have e16 : Ex g.T H15 (upd H15 ls (.lst sy)) := .new hls0
  have hsy' : TpAll g.K (upd H15 ls (.lst sy)) sy (sp.map eK) := by
    rw [List.map_map] at hsy
    exact hsy
  have hls' : (upd H15 ls (.lst sy)) ls = some (.lst sy) := upd_same
  have hd16 := e16.dic hd
  clear hsy
  generalize upd H15 ls (.lst sy) = H16 at e16 hsy' hls' hd16
  walk_at "go"
  refine ⟨ls, rfl, ⟨_, .of hls'⟩, ?_⟩
  refine lcL (T := g.T) (l := sp) (enc := eK) (fun _ => true) (fun k => eO (k, [])) (.of hls') hsy' (by omega) (fun z x H17 hz e17 hx => ?_) fun p7 H17 ts np7 e17 hp7 hts => ?_
  · intro Yes No hY hN
    walk_at "go"
    refine ⟨gd, _, ko z, eR [], rfl, e17.dic hd16, hx, dval_gone hz, fun v hv => ?_⟩
    walk_at "go"
    refine ⟨szr rfl, fun q2 hq2 => ?_⟩
    have f2 : Ex g.T H17 (upd H17 q2 (.tup [x, v])) := .new hq2
    exact hY rfl _ _ f2 (.tup (.of upd_same) (.cons (f2.tp hx) (.cons (f2.tp hv) .nil)))
  rw [List.filter_eq_self.mpr (fun _ _ => rfl)] at hts
  walk_at "go"
  refine tupL (.of hp7) fun p8 hp8 => ?_
  have e18 : Ex g.T H15 (upd H17 p8 (.tup ts)) := (e16.trans e17).trans (.new hp8)
  have hgone : Tp g.K (upd H17 p8 (.tup ts)) (.ref p8) (.tuple ((sp.map fun k => ((k, []) : Ky × Row)).map eO)) := by
    refine .tup (.of upd_same) ?_
    rw [List.map_map]
    exact hts.up (noTup_none hp8)
  generalize upd H17 p8 (.tup ts) = H18 at e18 hgone
  have hkey : ∀ x ∈ ofs, KeyOk n (ringL n) t 1 x.1 := fun x hx => wok.key x.1 (by
    have h1 := hofm x hx
    unfold rowsOf at h1
    obtain ⟨k, hk, rfl⟩ := List.mem_map.mp h1
    exact of_decide_eq_true (List.mem_filter.mp hk).2)
  have hrow : ∀ x ∈ ofs, RowOk (ringL n) x.1.1 1 x.2 := fun x hx => by
    have h1 := hofm x hx
    rw [rowsOf_val h1]
    unfold rowsOf at h1
    obtain ⟨k, hk, rfl⟩ := List.mem_map.mp h1
    exact wok.row k (of_decide_eq_true (List.mem_filter.mp hk).2)
  have hgok : RowsOk n (ringL n) t 1 (sp.map fun k => ((k, []) : Ky × Row)) := by
    refine ⟨fun x hx => ?_, fun x hx => ?_, ?_, by rw [List.length_map]; omega⟩
    · obtain ⟨k, hk, rfl⟩ := List.mem_map.mp hx
      obtain ⟨y, hy, e⟩ := List.mem_map.mp ((hspm k).mp hk)
      show KeyOk n (ringL n) t 1 k
      rw [← e]
      exact hkey y hy
    · obtain ⟨k, hk, rfl⟩ := List.mem_map.mp hx
      exact .nil
    · rw [List.map_map]
      exact (List.map_id sp).symm ▸ hspn
  have hwb18 := e18.book hwb15
  refine ⟨wb, _, ringB n t, sp.map fun k => ((k, []) : Ky × Row), rfl, hwb18, hgone, hgok, by rw [List.length_map]; omega, fun bb H19 e19' hbb => ?_⟩
  have hbb : BookAt g H19 bb (goneB (ringB n t) sp) := hbb
  have e1319 := (e1315.trans e18).trans e19'
  have hofk : OfOk (goneB (ringB n t) sp).n (goneB (ringB n t) sp).L (goneB (ringB n t) sp).t (goneB (ringB n t) sp).w ofs := ⟨hkey, hrow, by omega⟩
  obtain ⟨ch, hfew, hasc, hchl⟩ := ring_few h3 h6 ht hofm hspm (by omega)
  walk_at "go"
  refine ⟨bb, .ref ov, goneB (ringB n t) sp, ofs, n, 3, rfl, by decide, hbb, e1319.tp hov', hofk, e1319.tab (e113.tab htab), fun cv H20 e20 hcv => ?_⟩
  rw [hfew] at hcv
  have hcv : Tp g.K H20 cv (ot ch) := hcv
  obtain ⟨ca, cx, rfl, _, _⟩ := tp_tup hcv
  have e1320 := e1319.trans e20
  walk_at "go"
  refine ⟨bb, .ref ov, .ref ca, goneB (ringB n t) sp, ofs, ch, rfl, e20.book hbb, e1320.tp hov', hofk, hcv, hasc.ok (by omega), fun cb H21 e21 hcb => ?_⟩
  obtain ⟨⟨dxc, grc, dc, lc, kvc, y1, y2, y3, y4⟩, cok⟩ := id hcb
  refine ⟨cb, _, _, rfl, y1, rfl, ?_⟩
  have e1321 := e1320.trans e21
  obtain ⟨x0, hx0⟩ : ∃ x0, ofs[0]? = some x0 := ⟨_, List.getElem?_eq_getElem (by omega)⟩
  have hx0m := List.mem_of_getElem? hx0
  obtain ⟨y0, hy0, hy1⟩ := (e1321.tps hys').get (i := 0) (d := eO x0) (by rw [List.getElem?_map, hx0]; rfl)
  obtain ⟨ya, ka, ra, rfl, hya, hka, hra2⟩ := tp_eO hy1
  walk_at "go"
  refine st_ixT (e1321.st hov'') (show atI ys ((0 : Nat) : Int) = _ from atI_nat hy0) ?_
  walk_at "go"
  refine st_ixT hya rfl ?_
  walk_at "go"
  refine ⟨cb, ka, _, x0.1, rfl, hcb, hka, fun rv H22 e22 hrv2 => ?_⟩
  walk_at "go"
  have e1322 := e1321.trans e22
  refine st_ixT (e1322.st hov'') (show atI ys ((0 : Nat) : Int) = _ from atI_nat hy0) ?_
  walk_at "go"
  refine st_ixT (e22.st hya) rfl ?_
  walk_at "go"
  refine ⟨Nat.zero_le _, fun q1 hq1 => ?_⟩
  walk_at "go"
  refine ⟨szr rfl, fun q2 hq2 => ?_⟩
  have f1 : Ex g.T H22 (upd H22 q1 (.tup [])) := .new hq1
  have f2 : Ex g.T (upd H22 q1 (.tup [])) (upd (upd H22 q1 (.tup [])) q2 (.lst [ra, .ref q1])) := .new hq2
  have h0 : Tp g.K (upd H22 q1 (.tup [])) (.ref q1) (eR []) := .tup (.of upd_same) .nil
  have hlist : Dp g.K (upd (upd H22 q1 (.tup [])) q2 (.lst [ra, .ref q1])) (.ref q2) (.list ([x0.2, []].map eR)) :=
    .lst (.of upd_same) (TpAll.dps (.cons ((f1.trans f2).tp (e22.tp hra2)) (.cons (f2.tp h0) .nil)))
  refine ⟨_, _, ((f1.trans f2).tp hrv2).dp, hlist, shp1 (eR_pur _) (eR_depth _) (by decide), shp_list (f := eR) 2 eR_pur eR_depth (by decide), ?_⟩
  have hmem : (changedF (goneB (ringB n t) sp) ofs ch).F x0.1 ∈ [x0.2, []] := by
    rcases first_row hofm hspm hx0m hasc.lt with h | h
    · rw [h]; exact List.mem_cons_self
    · rw [h]; exact List.mem_cons_of_mem _ List.mem_cons_self
  rw [any_in (f := eR) (eR_pur _) hmem]
  have e1324 := e1322.trans (f1.trans f2)
  exact kk _ (e113.then e1324) ((e1324.deck hD13).le (by omega))
end Sp
end
section
set_option Elab.async false
set_option linter.all false
set_option maxRecDepth 100000
set_option maxHeartbeats 4000000
set_option autoImplicit false
local macro_rules | `(tactic| walk_at "go") => `(tactic| repeat first
  | (with_reducible first
     | refine Sp.st_var rfl ?_ | refine Sp.st_c ?_ | refine Sp.st_op ?_ | refine Sp.st_seq ?_ | refine Sp.st_asg ?_ | refine Sp.st_name ?_
     | refine Sp.st_ret ?_ | refine Sp.st_drop ?_ | refine Sp.st_next ?_ | refine Sp.st_if ?_ | refine Sp.st_nx ?_ | refine Sp.st_rt ?_
     | refine Sp.st_cons ?_ | refine Sp.st_nil ?_ | refine Sp.st_cb ?_ | refine Sp.st_call ?_ | refine Sp.st_test ?_ | refine Sp.st_B ?_
     | refine Sp.st_not ?_ | refine Sp.st_and ?_ | refine Sp.st_or ?_ | refine Sp.st_andV ?_ | refine Sp.st_orV ?_ | refine Sp.st_notV ?_
     | refine Sp.st_tif ?_ | refine Sp.st_tup ?_ | refine Sp.st_lst ?_ | refine Sp.st_blx ?_ | refine Sp.st_I0 ?_ | refine Sp.st_U ?_
     | refine Sp.st_eqI ?_ | refine Sp.st_neI ?_ | refine Sp.st_chain ?_ | refine Sp.isiI ?_ | refine Sp.isiB ?_ | refine Sp.isiS ?_
     | refine Sp.st_T rfl ?_ | refine Sp.st_F rfl ?_ | refine Sp.st_lc ?_ | refine Sp.st_iT ?_ | refine Sp.st_iL ?_ | refine Sp.st_iR1 ?_
     | refine Sp.st_iR2 ?_ | refine Sp.st_iET ?_ | refine Sp.st_iZA ?_ | refine Sp.st_iZLT ?_ | refine Sp.st_for ?_ | refine Sp.st_fld ?_
     | refine Sp.st_sfld ?_ | refine Sp.st_prop ?_ | refine Sp.st_meth ?_ | refine Sp.st_make ?_ | refine Sp.st_isN ?_ | refine Sp.st_yes ?_
     | refine Sp.isNI ?_ | refine Sp.notNI ?_ | refine Sp.int1I ?_ | refine Sp.int1B ?_ | refine Sp.min2I ?_ | refine Sp.max2I ?_
     | refine Sp.st_dputN ?_ | refine Sp.st_dgetN ?_ | refine Sp.st_revL ?_ | refine Sp.st_din ?_ | refine Sp.st_dnin ?_ | refine Sp.st_dget ?_ | refine Sp.st_dput ?_ | refine Sp.st_dc ?_ | refine Sp.st_dcN ?_
     | refine Sp.st_sortLam ?_ | refine Sp.st_lc2 ?_ | refine Sp.st_un ?_ | refine Sp.st_lenSet ?_ | refine Sp.st_bm ?_ | refine Sp.st_lenO ?_ | refine Sp.st_sl ?_ | refine Sp.st_part ?_ | refine Sp.st_nopart ?_ | refine Sp.st_intx ?_)
  | ((with_reducible refine Sp.st_wp ?_ ?_); (focus rfl)))
namespace Sp
open PySem PySem.Spec L2

-- law: slots _law_script 0, _law_deck_here 1, _law_bound 2, _law_scene 3, _law_offers 4, _law_number 5, _law_limit 6; cells []
abbrev s_law : Stmt := top 77
abbrev N_law : List Str := ["_law_script", "_law_deck_here", "_law_bound", "_law_scene", "_law_offers", "_law_number", "_law_limit"]
theorem sc_law : FnScope N_law ["_law_script"] (defScope s_law) := ⟨rfl, rfl, rfl, by decide +kernel, rfl, by decide +kernel, by decide +kernel⟩
def sp_law (g : Gx) : Sp := fun vs H Q _ => ∃ l, ∃ ns : List Int, vs = [.ref l] ∧ SqL g.K H l (ns.map V.int) ∧ ns.length ≤ 900 ∧ LamX.Tabs g.T H ∧ ∀ H', Q (.bl true) H'
theorem ok_law (g : Gx) (T : Blt g.mg) (Z : Fct g) (C__law_deck : Cal g.P g.w g.K g.mg g.base 1 "_law_deck" ["_law_script"] (sp__law_deck g)) (C__law_mending : Cal g.P g.w g.K g.mg g.base 8 "_law_mending" ["_law_deck_here", "_law_limit"] (sp__law_mending g)) (C__law_next : Cal g.P g.w g.K g.mg g.base 1 "_law_next" ["_law_deck_here", "_law_many"] (sp__law_next g)) (C__law_right : Cal g.P g.w g.K g.mg g.base 17 "_law_right" ["_law_deck_here", "_law_book_here", "_law_offers", "_law_number", "_law_limit"] (sp__law_right g)) (C__law_is_ring_mended : Cal g.P g.w g.K g.mg g.base 13 "_law_is_ring_mended" ["_law_deck_here"] (sp__law_is_ring_mended g))  {f : Addr} {fd : FuncData} (F : Fun g.K "law" "law" s_law f fd) : FnOk g.P g.w g.K g.mg g.base CX0 18 f fd ["_law_script"] (sp_law g) := by
  refine F.ok sc_law (fun vs H Q E h => ?_) (fun cdv A outer s H vs Q E hr h => ?_)
  · first | (obtain ⟨rfl, _⟩ := h; rfl) | (obtain ⟨_, rfl, _⟩ := h; rfl) | (obtain ⟨_, _, rfl, _⟩ := h; rfl) | (obtain ⟨_, _, _, rfl, _⟩ := h; rfl) | (obtain ⟨_, _, _, _, rfl, _⟩ := h; rfl) | (obtain ⟨_, _, _, _, _, rfl, _⟩ := h; rfl) | (obtain ⟨_, _, _, _, _, _, rfl, _⟩ := h; rfl) | (obtain ⟨_, _, _, _, _, _, _, rfl, _⟩ := h; rfl) | (obtain ⟨_, _, _, _, _, _, _, _, rfl, _⟩ := h; rfl) | (obtain ⟨_, _, _, _, _, _, _, _, _, rfl, _⟩ := h; rfl) | (obtain ⟨_, _, _, _, _, _, _, _, _, _, rfl, _⟩ := h; rfl) | (obtain ⟨_, _, _, _, _, _, _, _, _, _, _, rfl, _⟩ := h; rfl) | (obtain ⟨_, _, _, _, _, _, _, _, _, _, _, _, rfl, _⟩ := h; rfl) | (obtain ⟨_, _, _, _, _, _, _, _, _, _, _, _, _, rfl, _⟩ := h; rfl)
  have hu := room_un hr
  obtain ⟨l, ns, rfl, hl, hn, htab, kk⟩ := h
  refine ⟨_, (pss_cons (ps_set (i := 1) sc_law.nd rfl (Or.inl rfl) (pe_cF C__law_deck (hr.mono (by decide)) rfl (pa_cons (pv 0) pa_nil)))
      (pss_cons (ps_for PassesOwn.never rfl (iLW g (pe_lst (pa_cons pe_int (pa_cons pe_int pa_nil)))) (pg_name (i := 2) sc_law.nd rfl (Or.inl rfl)) (pss_cons (ps_asg (pe_cF C__law_mending (hr.mono (by decide)) rfl (pa_cons (pv 1) (pa_cons (pv 2) pa_nil))) (gTW g (n := 2) rfl (pgs_cons (pg_name (i := 3) sc_law.nd rfl (Or.inl rfl)) (pgs_cons (pg_name (i := 4) sc_law.nd rfl (Or.inl rfl)) pgs_nil))))
      (pss_cons (ps_set (i := 5) sc_law.nd rfl (Or.inl rfl) (pe_ix (ixW g) (pe_ifExp (pt_cmpR op_eq (pv 2) pe_int (nomark _)) (pe_lst (pa_cons pe_int (pa_cons pe_int (pa_cons pe_int (pa_cons pe_int (pa_cons pe_int pa_nil)))))) (pe_lst (pa_cons pe_int (pa_cons pe_int (pa_cons pe_int (pa_cons pe_int (pa_cons (pe_op op_pow pe_int pe_int) pa_nil))))))) (pe_cF C__law_next (hr.mono (by decide)) rfl (pa_cons (pv 1) (pa_cons pe_int pa_nil))) (fun _ _ => rfl)))
      (pss_cons (ps_for PassesOwn.never rfl (iLW g (pe_ifExp (pt_cmpR op_eq (pv 2) pe_int (nomark _)) (pe_lst (pa_cons (pe_cF C__law_next (hr.mono (by decide)) rfl (pa_cons (pv 1) (pa_cons pe_int pa_nil))) pa_nil)) (pe_lst (pa_cons pe_int (pa_cons pe_int (pa_cons pe_int (pa_cons pe_int pa_nil))))))) (pg_name (i := 6) sc_law.nd rfl (Or.inl rfl)) (pss_one (ps_if (pt_not (pt_val (pe_cF C__law_right (hr.mono (by decide)) rfl (pa_cons (pv 1) (pa_cons (pe_ix (ixW g) (pv 3) pe_int (fun _ _ => rfl)) (pa_cons (pv 4) (pa_cons (pv 5) (pa_cons (pv 6) pa_nil)))))))) (pss_one (ps_ret pe_bl)) pss_nil)))
      (pss_one (ps_if (pt_not (pt_val (pe_cF C__law_is_ring_mended (hr.mono (by decide)) rfl (pa_cons (pv 1) pa_nil)))) (pss_one (ps_ret pe_bl)) pss_nil))))))
      (pss_one (ps_ret pe_bl)))), ?_⟩
  walk_at "go"
  refine ⟨l, ns, rfl, hl, hn, fun d c0 c1 H1 e1 hD1 => ?_⟩
  have ht1 := e1.tab htab
  walk_at "go"
  refine ⟨szr rfl, fun bl hbl => ?_⟩
  have e2 : Ex g.T H1 (upd H1 bl (.lst [.int 8, .int 6])) := .new hbl
  have nb : New H1 bl := .of hbl
  have nb1 := hD1.new_d nb
  have nb2 := hD1.new_c nb
  walk_at "go"
  refine ⟨bl, rfl, ⟨_, .of upd_same⟩, ?_⟩
  refine forL (K := g.K) (xs := [.int 8, .int 6]) (fun i σ H3 => Eg g.T d c0 H1 H3 ∧ Deck H3 d c0 c1 (400 * i) ∧ H3 bl = some (.lst [.int 8, .int 6]) ∧ ∃ x2 x3 x4 x5 x6, σ = [some (.ref l), some (.ref d), x2, x3, x4, x5, x6])
    ⟨e2.eg, e2.deck hD1, upd_same, _, _, _, _, _, rfl⟩ (fun i σ H3 p => .of p.2.2.1) (fun i x σ H3 hi p => ?_) (fun σ H3 p => ?_)
  · obtain ⟨e3, hD3, hb3, x2, x3, x4, x5, x6, rfl⟩ := p
    have hi2 : i < 2 := (List.getElem?_eq_some_iff.mp hi).1
    have hx : x = .int 8 ∨ x = .int 6 := by
      match i, hi2 with
      | 0, _ => exact .inl (Option.some.inj hi).symm
      | 1, _ => exact .inr (Option.some.inj hi).symm
    obtain ⟨lim, rfl, hlim⟩ : ∃ lim : Nat, x = .int lim ∧ (lim = 8 ∨ lim = 6) := by
      rcases hx with rfl | rfl
      · exact ⟨8, rfl, .inl rfl⟩
      · exact ⟨6, rfl, .inr rfl⟩
    clear hi hx
    walk_at "go"
    refine ⟨d, c0, c1, _, lim, rfl, ?_, by omega, by omega, hD3, fun q sc b mv y0 y1 y2 y3 y4 H4 B ofs e4 hD4 hq hsc nsc hB hmv hok => ?_⟩
    · omega
    refine st_g2 hq ?_
    walk_at "go"
    have e14 := e3.trans e4
    have hb4 := e4.keep hb3 nb1 nb2
    have nsc1 := e3.new hD3 nsc
    rcases hlim with rfl | rfl
    · refine st_T rfl ?_
      walk_at "go"
      refine ⟨szr rfl, fun n1 hn1 => ?_⟩
      have e5 : Ex g.T H4 (upd H4 n1 (.lst [.int 1, .int 2, .int 1, .int 2, .int 2])) := .new hn1
      have hn1' : (upd H4 n1 (.lst [.int 1, .int 2, .int 1, .int 2, .int 2])) n1 = some (.lst [.int 1, .int 2, .int 1, .int 2, .int 2]) := upd_same
      generalize upd H4 n1 (.lst [.int 1, .int 2, .int 1, .int 2, .int 2]) = H5 at e5 hn1'
      have nn1 : New H1 n1 := e14.new hD4 (.of hn1)
      walk_at "go"
      refine ⟨d, c0, c1, 5, _, rfl, ⟨by decide, by decide⟩, by omega, e5.deck hD4, fun r H6 e6 hD6 hr => ?_⟩
      obtain ⟨num, hat⟩ : ∃ num : Nat, atI [V.int 1, .int 2, .int 1, .int 2, .int 2] (r : Int) = some (.int num) := by
        match r, hr with
        | 0, _ => exact ⟨1, rfl⟩
        | 1, _ => exact ⟨2, rfl⟩
        | 2, _ => exact ⟨1, rfl⟩
        | 3, _ => exact ⟨2, rfl⟩
        | 4, _ => exact ⟨2, rfl⟩
      refine st_ixL (.of (e6.keep hn1' (hD1.new_d nn1) (hD1.new_c nn1))) hat ?_
      walk_at "go"
      have e46 := (e5.eg (d := d) (c := c0)).trans e6
      have e16 := e14.trans e46
      have hB6 := e46.book hD4 hB
      have hmv6 := e46.tp hD4 hmv
      have hb6 := e46.keep hb4 nb1 nb2
      have hsc6 := e46.keep hsc (hD1.new_d nsc1) (hD1.new_c nsc1)
      refine ⟨d, c0, c1, 4, _, rfl, ⟨by decide, by decide⟩, by omega, hD6, fun li H7 e7 hD7 hli => ?_⟩
      walk_at "go"
      refine ⟨szr rfl, fun lp hlp => ?_⟩
      obtain ⟨xs, hxs, hxl, hxv⟩ : ∃ xs : List V, xs = [.int li] ∧ xs.length ≤ 4 ∧ ∀ x ∈ xs, ∃ m : Nat, m ≤ 3 ∧ x = .int m := ⟨_, rfl, Nat.le_of_ble_eq_true rfl, fun x hx => ⟨li, by omega, List.mem_singleton.mp hx⟩⟩
      rw [← hxs]
      have nlp : New H1 lp := (e16.trans e7).new hD7 (.of hlp)
      have e8 : Ex g.T H7 (upd H7 lp (.lst xs)) := .new hlp
      have hlp8 : (upd H7 lp (.lst xs)) lp = some (.lst xs) := upd_same
      have e68 := e7.then e8
      have hD8 := e8.deck hD7
      clear e8 hlp
      generalize upd H7 lp (.lst xs) = H8 at hlp8 e68 hD8
      refine ⟨lp, rfl, ⟨_, .of hlp8⟩, ?_⟩
      refine forL (K := g.K) (xs := xs) (fun j σ H9 => Eg g.T d c0 H8 H9 ∧ Deck H9 d c0 c1 (400 * i + 258 + 12 * j) ∧ ∃ x6, σ = [some (.ref l), some (.ref d), some (.int ((8 : Nat) : Int)), some (.ref sc), some mv, some (.int num), x6])
        ⟨.refl, hD8, _, rfl⟩ (fun j σ H9 p => .of (p.1.keep hlp8 (hD1.new_d nlp) (hD1.new_c nlp))) (fun j x σ H9 hj p => ?_) (fun σ H9 p => ?_)
      · obtain ⟨e9, hD9, x6, rfl⟩ := p
        have hjl : j < xs.length := (List.getElem?_eq_some_iff.mp hj).1
        obtain ⟨m, hm, rfl⟩ := hxv x (List.mem_of_getElem? hj)
        have e69 := e68.trans e9
        walk_at "go"
        refine st_ixL (.of (e69.keep hsc6 (hD1.new_d nsc1) (hD1.new_c nsc1))) (v := .ref b) rfl ?_
        walk_at "go"
        refine ⟨d, c0, c1, b, mv, B, _, num, m, ofs, rfl, ?_, hm, hD9, e69.tab (e16.tab ht1), e69.book hD6 hB6, e69.tp hD6 hmv6, hok, fun H10 e10 hD10 => ?_⟩
        · omega
        walk_at "go"
        exact ⟨e9.trans e10, hD10.le (by omega), _, rfl⟩
      · obtain ⟨e9, hD9, x6, rfl⟩ := p
        have e69 := e68.trans e9
        walk_at "go"
        refine ⟨d, c0, c1, _, rfl, ?_, hD9, e69.tab (e16.tab ht1), fun H10 e10 hD10 => ?_⟩
        · omega
        walk_at "go"
        exact ⟨(e16.trans e69).trans e10, hD10.le (by omega), (e69.trans e10).keep hb6 nb1 nb2, _, _, _, _, _, rfl⟩
    · refine st_F rfl ?_
      walk_at "go"
      refine st_I (by unfold CPow; decide) ?_
      rw [show (10 : Int) ^ (4 : Int).toNat = 10000 by decide]
      walk_at "go"
      refine ⟨szr rfl, fun n1 hn1 => ?_⟩
      have e5 : Ex g.T H4 (upd H4 n1 (.lst [.int 0, .int 1, .int 2, .int 2, .int 10000])) := .new hn1
      have hn1' : (upd H4 n1 (.lst [.int 0, .int 1, .int 2, .int 2, .int 10000])) n1 = some (.lst [.int 0, .int 1, .int 2, .int 2, .int 10000]) := upd_same
      generalize upd H4 n1 (.lst [.int 0, .int 1, .int 2, .int 2, .int 10000]) = H5 at e5 hn1'
      have nn1 : New H1 n1 := e14.new hD4 (.of hn1)
      walk_at "go"
      refine ⟨d, c0, c1, 5, _, rfl, ⟨by decide, by decide⟩, by omega, e5.deck hD4, fun r H6 e6 hD6 hr => ?_⟩
      obtain ⟨num, hat⟩ : ∃ num : Nat, atI [V.int 0, .int 1, .int 2, .int 2, .int 10000] (r : Int) = some (.int num) := by
        match r, hr with
        | 0, _ => exact ⟨0, rfl⟩
        | 1, _ => exact ⟨1, rfl⟩
        | 2, _ => exact ⟨2, rfl⟩
        | 3, _ => exact ⟨2, rfl⟩
        | 4, _ => exact ⟨10000, rfl⟩
      refine st_ixL (.of (e6.keep hn1' (hD1.new_d nn1) (hD1.new_c nn1))) hat ?_
      walk_at "go"
      have e46 := (e5.eg (d := d) (c := c0)).trans e6
      have e16 := e14.trans e46
      have hB6 := e46.book hD4 hB
      have hmv6 := e46.tp hD4 hmv
      have hb6 := e46.keep hb4 nb1 nb2
      have hsc6 := e46.keep hsc (hD1.new_d nsc1) (hD1.new_c nsc1)
      have e7 : Eg g.T d c0 H6 H6 := .refl
      have hD7 : Deck H6 d c0 c1 (400 * i + 256 + 1 + 1) := hD6.le (by omega)
      refine ⟨szr rfl, fun lp hlp => ?_⟩
      obtain ⟨xs, hxs, hxl, hxv⟩ : ∃ xs : List V, xs = [.int 0, .int 1, .int 2, .int 3] ∧ xs.length ≤ 4 ∧ ∀ x ∈ xs, ∃ m : Nat, m ≤ 3 ∧ x = .int m := by
        refine ⟨_, rfl, by decide, fun x hx => ?_⟩
        simp only [List.mem_cons, List.mem_nil_iff, or_false] at hx
        rcases hx with rfl | rfl | rfl | rfl
        · exact ⟨0, by decide, rfl⟩
        · exact ⟨1, by decide, rfl⟩
        · exact ⟨2, by decide, rfl⟩
        · exact ⟨3, by decide, rfl⟩
      rw [← hxs]
      have nlp : New H1 lp := (e16.trans e7).new hD7 (.of hlp)
      have e8 : Ex g.T H6 (upd H6 lp (.lst xs)) := .new hlp
      have hlp8 : (upd H6 lp (.lst xs)) lp = some (.lst xs) := upd_same
      have e68 := e7.then e8
      have hD8 := e8.deck hD7
      clear e8 hlp
      generalize upd H6 lp (.lst xs) = H8 at hlp8 e68 hD8
      refine ⟨lp, rfl, ⟨_, .of hlp8⟩, ?_⟩
      refine forL (K := g.K) (xs := xs) (fun j σ H9 => Eg g.T d c0 H8 H9 ∧ Deck H9 d c0 c1 (400 * i + 258 + 12 * j) ∧ ∃ x6, σ = [some (.ref l), some (.ref d), some (.int ((6 : Nat) : Int)), some (.ref sc), some mv, some (.int num), x6])
        ⟨.refl, hD8, _, rfl⟩ (fun j σ H9 p => .of (p.1.keep hlp8 (hD1.new_d nlp) (hD1.new_c nlp))) (fun j x σ H9 hj p => ?_) (fun σ H9 p => ?_)
      · obtain ⟨e9, hD9, x6, rfl⟩ := p
        have hjl : j < xs.length := (List.getElem?_eq_some_iff.mp hj).1
        obtain ⟨m, hm, rfl⟩ := hxv x (List.mem_of_getElem? hj)
        have e69 := e68.trans e9
        walk_at "go"
        refine st_ixL (.of (e69.keep hsc6 (hD1.new_d nsc1) (hD1.new_c nsc1))) (v := .ref b) rfl ?_
        walk_at "go"
        refine ⟨d, c0, c1, b, mv, B, _, num, m, ofs, rfl, ?_, hm, hD9, e69.tab (e16.tab ht1), e69.book hD6 hB6, e69.tp hD6 hmv6, hok, fun H10 e10 hD10 => ?_⟩
        · omega
        walk_at "go"
        exact ⟨e9.trans e10, hD10.le (by omega), _, rfl⟩
      · obtain ⟨e9, hD9, x6, rfl⟩ := p
        have e69 := e68.trans e9
        walk_at "go"
        refine ⟨d, c0, c1, _, rfl, ?_, hD9, e69.tab (e16.tab ht1), fun H10 e10 hD10 => ?_⟩
        · omega
        walk_at "go"
        exact ⟨(e16.trans e69).trans e10, hD10.le (by omega), (e69.trans e10).keep hb6 nb1 nb2, _, _, _, _, _, rfl⟩
  · obtain ⟨e3, hD3, hb3, x2, x3, x4, x5, x6, rfl⟩ := p
    walk_at "go"
    exact kk _
end Sp
end
section
set_option Elab.async false
set_option linter.all false
set_option maxRecDepth 100000
set_option maxHeartbeats 4000000
set_option autoImplicit false
/-! Sp: what the head tells. -/
namespace Sp
open PySem PySem.Spec PyProof.Rows L2
theorem isNon_eq {v : Value} (h : isNon v = true) : v = .none := by
  cases v <;> first | rfl | cases h
theorem Dt.get {K : Fg} {d : Dt} (e : fnP K (d.at_ K) = d.val) (c : d.ok K = true) : ∃ fd a, Fun K d.name d.qual d.st (d.at_ K) fd ∧ FunC K d.name d.qual d.st (d.at_ K) fd a ∧ fd.code = .ref a := by
  obtain ⟨kp, c2⟩ := He.ba c
  unfold fnP at e
  cases q : K.lookup (d.at_ K) with
  | none => rw [q] at c2; cases c2
  | some o =>
    obtain ⟨oc, od, dt, osl⟩ := o
    rw [q] at c2 e
    cases dt with
    | func fd =>
      obtain ⟨n1, n2, n3, n4, n5, n6, n7, n8, n9, n10, n11, n12, n13, n14, n15⟩ := fd
      have e2 : (some (n1, n2, n3, n4, n5, n6, n7, n15) : He.FnW) = some (d.name, d.qual, defArgs d.st, .stmts (defBody d.st), defScope d.st, mainGlobals, [], builtinsNs) := e
      simp only [Option.some.injEq, Prod.mk.injEq] at e2
      obtain ⟨h1, h2, h3, h4, h5, h6, h7, h8⟩ := e2
      subst h1 h2 h3 h4 h5 h6 h7 h8
      have c3 : (PySem.W.codeIn K n13 d.qual && isNon n8) = true := c2
      obtain ⟨k1, k2⟩ := He.ba c3
      have k3 := isNon_eq k2
      subst k3
      obtain ⟨a, rfl⟩ := He.codeIn_ref k1
      exact ⟨_, a, ⟨⟨oc, od, n9, n10, n11, n12, .ref a, n14, osl, rfl, q, k1⟩, kp⟩, ⟨oc, od, n9, n10, n11, n12, n14, osl, rfl, q, k1⟩, rfl⟩
    | _ => cases c2
theorem propB_ok {K : Fg} {C m : Str} (h : propB K C m = true) : PropOf K (He.ga K C) m (He.ma K (He.ga K C) m) (pP C m K) := by
  obtain ⟨h1, h⟩ := He.ba h
  obtain ⟨h2, h⟩ := He.ba h
  obtain ⟨h3, h4⟩ := He.ba h
  refine ⟨He.eqO_ok h1, He.eqO_ok h2, of_decide_eq_true h3, ?_⟩
  unfold pP
  split at h4
  · rename_i g rest q
    rw [q]
    exact ⟨_, rfl⟩
  · cases h4
theorem clsrB_ok {K : Fg} {C : Str} (h : clsrB K C = true) : ClX.CRead K (He.ga K C) (.type "type") := by
  obtain ⟨h1, h2⟩ := He.ba h
  exact ⟨h1, He.eqO_ok h2⟩
theorem cmetB_ok {K : Fg} {C m : Str} (h : cmetB K C m = true) : ClX.CMet K (He.ga K C) (.type "type") m (cR K C m) (cP C m K) := by
  obtain ⟨h1, h⟩ := He.ba h
  obtain ⟨h2, h3⟩ := He.ba h
  refine ⟨?_, ?_, h3⟩
  · unfold cR
    split at h1
    · rename_i a p o t q
      obtain ⟨h4, h5⟩ := He.ba h1
      obtain ⟨h6, h7⟩ := He.ba h5
      rw [q, of_decide_eq_true h4, isNon_eq h6, of_decide_eq_true h7]
    · cases h1
  · unfold cP
    split at h2
    · rename_i g rest q
      rw [q]
      exact ⟨_, rfl⟩
    · cases h2
theorem oexB_ok {K : Fg} {x : Str} (h : oexB K x = true) : OexC K (He.ga K x) := by
  obtain ⟨h1, h⟩ := He.ba h
  obtain ⟨h2, h⟩ := He.ba h
  obtain ⟨h3, h⟩ := He.ba h
  obtain ⟨h4, h5⟩ := He.ba h
  refine ⟨?_, He.eqO_ok h2, of_decide_eq_true h3, of_decide_eq_true h4, h5⟩
  split at h1
  · rename_i dd cd sl ho
    split at h1
    · rename_i C' bm k0 k1 k2 k3 n k5 hm hs
      simp only [Bool.and_eq_true, beq_iff_eq, Bool.not_eq_true'] at h1
      obtain ⟨rfl, rfl, hdel, hdct, ht⟩ := h1
      obtain ⟨nm, bs, mro, ns, qn, hd, sn, sub, ab, col, del⟩ := cd
      dsimp only at hm hdel hdct
      subst hm hdel hdct
      have hsl : sl = #[k0, k1, k2, k3, some (.builtin "ValueError.__new__"), k5] := by
        obtain ⟨l⟩ := sl
        simp only at hs
        rw [hs]
      subst hsl
      exact ⟨nm, qn, ns, bs, bm, sn, sub, ab, col, dd, k0, k1, k2, k3, k5, ho, ht⟩
    · cases h1
  · cases h1
structure SaysP (fa : List He.Fa) (fn : List Dt) (tf : Fg → Addr) (ex : Fg → Bool) (h : Heap) (K : Fg) : Prop where
  fac : ∀ f ∈ fa, f.ok K = true
  def_ : ∀ d ∈ fn, ∃ fd a, Fun K d.name d.qual d.st (d.at_ K) fd ∧ FunC K d.name d.qual d.st (d.at_ K) fd a ∧ fd.code = .ref a
  more : ex K = true
  hd : PySem.W.codeHdIn K (tf K) (He.tabOf K (tf K)) = true
  out : K.lookup (He.tabOf K (tf K)) = none
  empty : h.get? (He.tabOf K (tf K)) = some { cls := .none, data := .fields #[] }
theorem saysP_of {fa : List He.Fa} {fn : List Dt} {tf : Fg → Addr} {ex : Fg → Bool} {h : Heap} (e : obsP fa fn tf ex h.get? = valP fn) : SaysP fa fn tf ex h (He.frT h.get? (asW h.get?)) := by
  generalize hK : He.frT h.get? (asW h.get?) = K
  have e1 : ((((fa.all fun f => f.ok K) && fn.all fun d => d.ok K) && (ex K && (PySem.W.codeHdIn K (tf K) (He.tabOf K (tf K)) && (match h.get? (He.tabOf K (tf K)) with
    | some o => He.emptyTab o
    | none => false)))) : Bool) = true := by
    rw [← hK]
    exact congrArg (fun z : AlP => z.1) e
  have e2 : fn.map (fun d => fnP K (d.at_ K)) = fn.map Dt.val := by
    rw [← hK]
    exact congrArg (fun z : AlP => z.2) e
  obtain ⟨h1, h2⟩ := He.ba e1
  obtain ⟨h3, h4⟩ := He.ba h1
  obtain ⟨h5, h6⟩ := He.ba h2
  obtain ⟨h7, h8⟩ := He.ba h6
  have htab : ∃ o, h.get? (He.tabOf K (tf K)) = some o ∧ He.emptyTab o = true := by
    cases q : h.get? (He.tabOf K (tf K)) with
    | none => rw [q] at h8; cases h8
    | some o => rw [q] at h8; exact ⟨o, rfl, h8⟩
  obtain ⟨o, ho, he⟩ := htab
  refine ⟨fun f hf => List.all_eq_true.mp h3 f hf, fun d hd => ?_, h5, h7, ?_, ?_⟩
  · refine Dt.get ?_ (List.all_eq_true.mp h4 d hd)
    obtain ⟨i, hi, ei⟩ := List.getElem_of_mem hd
    have e3 : (fn.map fun d => fnP K (d.at_ K))[i]? = (fn.map Dt.val)[i]? := by rw [e2]
    rw [List.getElem?_map, List.getElem?_map, List.getElem?_eq_getElem hi, ei] at e3
    exact Option.some.inj e3
  · rw [← hK] at ho ⊢
    exact He.frT_none ho he
  · rw [ho, He.emptyTab_eq he]
def hookP (fa : List He.Fa) (fn : List Dt) (tf : Fg → Addr) (ex : Fg → Bool) : PySem.W.Hook where
  α := AlP
  obs := fun s => obsP fa fn tf ex s.heap.get?
  val := fun _ => valP fn
  says := fun _ h => ∃ K : Fg, K.In h ∧ SaysP fa fn tf ex h K
  of := fun _ _ e => ⟨_, He.frT_in, saysP_of e⟩
  keeps := fun _ _ _ ⟨K, hK, c⟩ k => ⟨K, PySem.W.Frag.In.keeps hK k, { c with empty := k _ _ c.empty }⟩
theorem obsP_eq {fa : List He.Fa} {fn : List Dt} {tf : Fg → Addr} {ex : Fg → Bool} {g : Addr → Option Obj} {s : Shared} (h : ∀ a, g a = s.heap.get? a) : obsP fa fn tf ex g = (hookP fa fn tf ex).obs s := by
  have e : g = s.heap.get? := funext h
  rw [e] <;> rfl
end Sp
end
section
set_option Elab.async false
set_option linter.all false
set_option maxRecDepth 100000
set_option maxHeartbeats 4000000
set_option autoImplicit false
/-! Sp: the facts of the head, and every def's promise joined (printed by mkhead.py). -/
namespace Sp
open PySem PySem.Spec PyProof.Rows L2
theorem tfD_eq {K : Fg} {a : Addr} {fd : FuncData} (F : FunC K "members" "Outages.members" s_Outages_members (mP "Outages" "members" K) fd a) : tfD K = a := by
  obtain ⟨oc, od, kV, doc, pm, an, ct, osl, rfl, lk, _⟩ := F.ex
  unfold tfD
  rw [lk]
theorem base_tree_behind {g : Gx} {f : Addr} {fd : FuncData} (F : Fun g.K "tree_behind" "tree_behind" s_tree_behind f fd) : FnOk g.P g.w g.K g.mg g.base CX0 11 f fd ["book", "offers", "number", "done", "left"] (sp_tree_behind g 0) := by
  refine ⟨fun vs H Q E h => ?_, fun A outer s H args us vs Q E hr e0 hb rv h => ?_⟩
  all_goals
    obtain ⟨_, _, _, _, _, _, left, _, _, hl, _⟩ := h
    omega
theorem base_holds_behind {g : Gx} {f : Addr} {fd : FuncData} (F : Fun g.K "holds_behind" "holds_behind" s_holds_behind f fd) : FnOk g.P g.w g.K g.mg g.base CX0 9 f fd ["book", "offers", "number", "done", "left", "value"] (sp_holds_behind g 0) := by
  refine ⟨fun vs H Q E h => ?_, fun A outer s H args us vs Q E hr e0 hb rv h => ?_⟩
  all_goals
    obtain ⟨_, _, _, _, _, _, _, left, _, _, _, hl, _⟩ := h
    omega
theorem kb_few {K : Fg} {f : Addr} {fd : FuncData} (F : Fun K "fewest_mend" "fewest_mend" s_fewest_mend f fd) : KBinds K fd ["book", "offers", "number", "most"] ["most"] pk pk := by
  obtain ⟨oc, od, kV, doc, pm, an, cdv, ct, osl, rfl, lk, hcd⟩ := F.ex
  refine ⟨fun s us ws _ hl => ?_, pk_rel⟩
  match us, ws, hl with
  | [a, b, c], [d], _ => exact .of_eq rfl
theorem facts {P : Program} {w : World} {K : Fg} {h : Heap} {mg : Str → Option Value} {f : Addr} (X : K.In h) (G : h.Ns mainGlobals mg) (c : SaysP faD fnD tfD exD h K) (hfa : mg "law" = some (.ref f)) :
    ∃ fd : FuncData, (∀ (s : Shared) (v : Value), BindsTo s fd ⟨[v], []⟩ [("_law_script", v)]) ∧ ∀ base : Heap, K.In base → base.Ns mainGlobals mg → LamX.TabB base mg (tfD K) (He.tabOf K (tfD K)) →
      FnOk P w K mg base CX0 18 f fd ["_law_script"] (sp_law ⟨P, w, K, mg, h, [(He.tabOf K (tfD K), lamQ)], He.ga K "Net", He.ga K "Outages", He.ga K "Book"⟩) := by
  obtain ⟨fd_is_whole, a_is_whole, F_is_whole, FC_is_whole, _⟩ := c.def_ d_is_whole (by simp [fnD, fnD0, fnD1, fnD2, fnD3, fnD4])
  obtain ⟨fd_is_below, a_is_below, F_is_below, FC_is_below, _⟩ := c.def_ d_is_below (by simp [fnD, fnD0, fnD1, fnD2, fnD3, fnD4])
  obtain ⟨fd_is_pair, a_is_pair, F_is_pair, FC_is_pair, _⟩ := c.def_ d_is_pair (by simp [fnD, fnD0, fnD1, fnD2, fnD3, fnD4])
  obtain ⟨fd_ascends, a_ascends, F_ascends, FC_ascends, _⟩ := c.def_ d_ascends (by simp [fnD, fnD0, fnD1, fnD2, fnD3, fnD4])
  obtain ⟨fd_is_link, a_is_link, F_is_link, FC_is_link, _⟩ := c.def_ d_is_link (by simp [fnD, fnD0, fnD1, fnD2, fnD3, fnD4])
  obtain ⟨fd_net_error, a_net_error, F_net_error, FC_net_error, _⟩ := c.def_ d_net_error (by simp [fnD, fnD0, fnD1, fnD2, fnD3, fnD4])
  obtain ⟨fd_Net___init__, a_Net___init__, F_Net___init__, FC_Net___init__, _⟩ := c.def_ d_Net___init__ (by simp [fnD, fnD0, fnD1, fnD2, fnD3, fnD4])
  obtain ⟨fd_Net_nodes, a_Net_nodes, F_Net_nodes, FC_Net_nodes, _⟩ := c.def_ d_Net_nodes (by simp [fnD, fnD0, fnD1, fnD2, fnD3, fnD4])
  obtain ⟨fd_Net___len__, a_Net___len__, F_Net___len__, FC_Net___len__, _⟩ := c.def_ d_Net___len__ (by simp [fnD, fnD0, fnD1, fnD2, fnD3, fnD4])
  obtain ⟨fd_Net_at, a_Net_at, F_Net_at, FC_Net_at, _⟩ := c.def_ d_Net_at (by simp [fnD, fnD0, fnD1, fnD2, fnD3, fnD4])
  obtain ⟨fd_Net_far, a_Net_far, F_Net_far, FC_Net_far, _⟩ := c.def_ d_Net_far (by simp [fnD, fnD0, fnD1, fnD2, fnD3, fnD4])
  obtain ⟨fd_number_of, a_number_of, F_number_of, FC_number_of, _⟩ := c.def_ d_number_of (by simp [fnD, fnD0, fnD1, fnD2, fnD3, fnD4])
  obtain ⟨fd_outage_of, a_outage_of, F_outage_of, FC_outage_of, _⟩ := c.def_ d_outage_of (by simp [fnD, fnD0, fnD1, fnD2, fnD3, fnD4])
  obtain ⟨fd_outages_error, a_outages_error, F_outages_error, FC_outages_error, _⟩ := c.def_ d_outages_error (by simp [fnD, fnD0, fnD1, fnD2, fnD3, fnD4])
  obtain ⟨fd_Outages___init__, a_Outages___init__, F_Outages___init__, FC_Outages___init__, _⟩ := c.def_ d_Outages___init__ (by simp [fnD, fnD0, fnD1, fnD2, fnD3, fnD4])
  obtain ⟨fd_Outages_full, a_Outages_full, F_Outages_full, FC_Outages_full, _⟩ := c.def_ d_Outages_full (by simp [fnD, fnD0, fnD1, fnD2, fnD3, fnD4])
  obtain ⟨fd_Outages_members, a_Outages_members, F_Outages_members, FC_Outages_members, _⟩ := c.def_ d_Outages_members (by simp [fnD, fnD0, fnD1, fnD2, fnD3, fnD4])
  obtain ⟨fd_is_key, a_is_key, F_is_key, FC_is_key, _⟩ := c.def_ d_is_key (by simp [fnD, fnD0, fnD1, fnD2, fnD3, fnD4])
  obtain ⟨fd_is_row, a_is_row, F_is_row, FC_is_row, _⟩ := c.def_ d_is_row (by simp [fnD, fnD0, fnD1, fnD2, fnD3, fnD4])
  obtain ⟨fd_book_error, a_book_error, F_book_error, FC_book_error, _⟩ := c.def_ d_book_error (by simp [fnD, fnD0, fnD1, fnD2, fnD3, fnD4])
  obtain ⟨fd_keys_of, a_keys_of, F_keys_of, FC_keys_of, _⟩ := c.def_ d_keys_of (by simp [fnD, fnD0, fnD1, fnD2, fnD3, fnD4])
  obtain ⟨fd_Book___init__, a_Book___init__, F_Book___init__, FC_Book___init__, _⟩ := c.def_ d_Book___init__ (by simp [fnD, fnD0, fnD1, fnD2, fnD3, fnD4])
  obtain ⟨fd_Book_net, a_Book_net, F_Book_net, FC_Book_net, _⟩ := c.def_ d_Book_net (by simp [fnD, fnD0, fnD1, fnD2, fnD3, fnD4])
  obtain ⟨fd_Book_target, a_Book_target, F_Book_target, FC_Book_target, _⟩ := c.def_ d_Book_target (by simp [fnD, fnD0, fnD1, fnD2, fnD3, fnD4])
  obtain ⟨fd_Book_row_at, a_Book_row_at, F_Book_row_at, FC_Book_row_at, _⟩ := c.def_ d_Book_row_at (by simp [fnD, fnD0, fnD1, fnD2, fnD3, fnD4])
  obtain ⟨fd_Book_rows, a_Book_rows, F_Book_rows, FC_Book_rows, _⟩ := c.def_ d_Book_rows (by simp [fnD, fnD0, fnD1, fnD2, fnD3, fnD4])
  obtain ⟨fd_Book_with_rows, a_Book_with_rows, F_Book_with_rows, FC_Book_with_rows, _⟩ := c.def_ d_Book_with_rows (by simp [fnD, fnD0, fnD1, fnD2, fnD3, fnD4])
  obtain ⟨fd_Book_turning, a_Book_turning, F_Book_turning, FC_Book_turning, _⟩ := c.def_ d_Book_turning (by simp [fnD, fnD0, fnD1, fnD2, fnD3, fnD4])
  obtain ⟨fd_next_stop, a_next_stop, F_next_stop, FC_next_stop, _⟩ := c.def_ d_next_stop (by simp [fnD, fnD0, fnD1, fnD2, fnD3, fnD4])
  obtain ⟨fd_walked, a_walked, F_walked, FC_walked, _⟩ := c.def_ d_walked (by simp [fnD, fnD0, fnD1, fnD2, fnD3, fnD4])
  obtain ⟨fd_walk, a_walk, F_walk, FC_walk, _⟩ := c.def_ d_walk (by simp [fnD, fnD0, fnD1, fnD2, fnD3, fnD4])
  obtain ⟨fd_fate, a_fate, F_fate, FC_fate, _⟩ := c.def_ d_fate (by simp [fnD, fnD0, fnD1, fnD2, fnD3, fnD4])
  obtain ⟨fd_is_outage, a_is_outage, F_is_outage, FC_is_outage, _⟩ := c.def_ d_is_outage (by simp [fnD, fnD0, fnD1, fnD2, fnD3, fnD4])
  obtain ⟨fd_beside, a_beside, F_beside, FC_beside, _⟩ := c.def_ d_beside (by simp [fnD, fnD0, fnD1, fnD2, fnD3, fnD4])
  obtain ⟨fd_spread, a_spread, F_spread, FC_spread, _⟩ := c.def_ d_spread (by simp [fnD, fnD0, fnD1, fnD2, fnD3, fnD4])
  obtain ⟨fd_every_outage, a_every_outage, F_every_outage, FC_every_outage, _⟩ := c.def_ d_every_outage (by simp [fnD, fnD0, fnD1, fnD2, fnD3, fnD4])
  obtain ⟨fd_each_case, a_each_case, F_each_case, FC_each_case, _⟩ := c.def_ d_each_case (by simp [fnD, fnD0, fnD1, fnD2, fnD3, fnD4])
  obtain ⟨fd_is_home, a_is_home, F_is_home, FC_is_home, _⟩ := c.def_ d_is_home (by simp [fnD, fnD0, fnD1, fnD2, fnD3, fnD4])
  obtain ⟨fd_is_missed, a_is_missed, F_is_missed, FC_is_missed, _⟩ := c.def_ d_is_missed (by simp [fnD, fnD0, fnD1, fnD2, fnD3, fnD4])
  obtain ⟨fd_first_miss_within, a_first_miss_within, F_first_miss_within, FC_first_miss_within, _⟩ := c.def_ d_first_miss_within (by simp [fnD, fnD0, fnD1, fnD2, fnD3, fnD4])
  obtain ⟨fd_first_miss, a_first_miss, F_first_miss, FC_first_miss, _⟩ := c.def_ d_first_miss (by simp [fnD, fnD0, fnD1, fnD2, fnD3, fnD4])
  obtain ⟨fd_strength, a_strength, F_strength, FC_strength, _⟩ := c.def_ d_strength (by simp [fnD, fnD0, fnD1, fnD2, fnD3, fnD4])
  obtain ⟨fd_changed, a_changed, F_changed, FC_changed, _⟩ := c.def_ d_changed (by simp [fnD, fnD0, fnD1, fnD2, fnD3, fnD4])
  obtain ⟨fd_choices, a_choices, F_choices, FC_choices, _⟩ := c.def_ d_choices (by simp [fnD, fnD0, fnD1, fnD2, fnD3, fnD4])
  obtain ⟨fd_fitting, a_fitting, F_fitting, FC_fitting, _⟩ := c.def_ d_fitting (by simp [fnD, fnD0, fnD1, fnD2, fnD3, fnD4])
  obtain ⟨fd_tree_behind, a_tree_behind, F_tree_behind, FC_tree_behind, _⟩ := c.def_ d_tree_behind (by simp [fnD, fnD0, fnD1, fnD2, fnD3, fnD4])
  obtain ⟨fd_mend_tree, a_mend_tree, F_mend_tree, FC_mend_tree, _⟩ := c.def_ d_mend_tree (by simp [fnD, fnD0, fnD1, fnD2, fnD3, fnD4])
  obtain ⟨fd_has_form, a_has_form, F_has_form, FC_has_form, _⟩ := c.def_ d_has_form (by simp [fnD, fnD0, fnD1, fnD2, fnD3, fnD4])
  obtain ⟨fd_holds_behind, a_holds_behind, F_holds_behind, FC_holds_behind, _⟩ := c.def_ d_holds_behind (by simp [fnD, fnD0, fnD1, fnD2, fnD3, fnD4])
  obtain ⟨fd_mend_tree_holds, a_mend_tree_holds, F_mend_tree_holds, FC_mend_tree_holds, _⟩ := c.def_ d_mend_tree_holds (by simp [fnD, fnD0, fnD1, fnD2, fnD3, fnD4])
  obtain ⟨fd_TooMany___init__, a_TooMany___init__, F_TooMany___init__, FC_TooMany___init__, _⟩ := c.def_ d_TooMany___init__ (by simp [fnD, fnD0, fnD1, fnD2, fnD3, fnD4])
  obtain ⟨fd_fewest_mend, a_fewest_mend, F_fewest_mend, FC_fewest_mend, _⟩ := c.def_ d_fewest_mend (by simp [fnD, fnD0, fnD1, fnD2, fnD3, fnD4])
  obtain ⟨fd__law_told, a__law_told, F__law_told, FC__law_told, _⟩ := c.def_ d__law_told (by simp [fnD, fnD0, fnD1, fnD2, fnD3, fnD4])
  obtain ⟨fd__law_next, a__law_next, F__law_next, FC__law_next, _⟩ := c.def_ d__law_next (by simp [fnD, fnD0, fnD1, fnD2, fnD3, fnD4])
  obtain ⟨fd__law_deck, a__law_deck, F__law_deck, FC__law_deck, _⟩ := c.def_ d__law_deck (by simp [fnD, fnD0, fnD1, fnD2, fnD3, fnD4])
  obtain ⟨fd__law_at, a__law_at, F__law_at, FC__law_at, _⟩ := c.def_ d__law_at (by simp [fnD, fnD0, fnD1, fnD2, fnD3, fnD4])
  obtain ⟨fd__law_pairs, a__law_pairs, F__law_pairs, FC__law_pairs, _⟩ := c.def_ d__law_pairs (by simp [fnD, fnD0, fnD1, fnD2, fnD3, fnD4])
  obtain ⟨fd__law_keys, a__law_keys, F__law_keys, FC__law_keys, _⟩ := c.def_ d__law_keys (by simp [fnD, fnD0, fnD1, fnD2, fnD3, fnD4])
  obtain ⟨fd__law_far, a__law_far, F__law_far, FC__law_far, _⟩ := c.def_ d__law_far (by simp [fnD, fnD0, fnD1, fnD2, fnD3, fnD4])
  obtain ⟨fd__law_wise, a__law_wise, F__law_wise, FC__law_wise, _⟩ := c.def_ d__law_wise (by simp [fnD, fnD0, fnD1, fnD2, fnD3, fnD4])
  obtain ⟨fd__law_row, a__law_row, F__law_row, FC__law_row, _⟩ := c.def_ d__law_row (by simp [fnD, fnD0, fnD1, fnD2, fnD3, fnD4])
  obtain ⟨fd__law_net, a__law_net, F__law_net, FC__law_net, _⟩ := c.def_ d__law_net (by simp [fnD, fnD0, fnD1, fnD2, fnD3, fnD4])
  obtain ⟨fd__law_book, a__law_book, F__law_book, FC__law_book, _⟩ := c.def_ d__law_book (by simp [fnD, fnD0, fnD1, fnD2, fnD3, fnD4])
  obtain ⟨fd__law_mending, a__law_mending, F__law_mending, FC__law_mending, _⟩ := c.def_ d__law_mending (by simp [fnD, fnD0, fnD1, fnD2, fnD3, fnD4])
  obtain ⟨fd__law_is_good, a__law_is_good, F__law_is_good, FC__law_is_good, _⟩ := c.def_ d__law_is_good (by simp [fnD, fnD0, fnD1, fnD2, fnD3, fnD4])
  obtain ⟨fd__law_drawn, a__law_drawn, F__law_drawn, FC__law_drawn, _⟩ := c.def_ d__law_drawn (by simp [fnD, fnD0, fnD1, fnD2, fnD3, fnD4])
  obtain ⟨fd__law_right, a__law_right, F__law_right, FC__law_right, _⟩ := c.def_ d__law_right (by simp [fnD, fnD0, fnD1, fnD2, fnD3, fnD4])
  obtain ⟨fd__law_is_ring_mended, a__law_is_ring_mended, F__law_is_ring_mended, FC__law_is_ring_mended, _⟩ := c.def_ d__law_is_ring_mended (by simp [fnD, fnD0, fnD1, fnD2, fnD3, fnD4])
  obtain ⟨fd_law, a_law, F_law, FC_law, _⟩ := c.def_ d_law (by simp [fnD, fnD0, fnD1, fnD2, fnD3, fnD4])
  have fac : ∀ {x : He.Fa}, x ∈ faD → x.ok K = true := fun h => c.fac _ h
  have g_is_whole := He.glo_ok X G (fac (x := .glo "is_whole") (by simp [faD, faD0, faD1, faD2, faD3, faD4, faD5, faD6]))
  have g_is_below := He.glo_ok X G (fac (x := .glo "is_below") (by simp [faD, faD0, faD1, faD2, faD3, faD4, faD5, faD6]))
  have g_is_pair := He.glo_ok X G (fac (x := .glo "is_pair") (by simp [faD, faD0, faD1, faD2, faD3, faD4, faD5, faD6]))
  have g_ascends := He.glo_ok X G (fac (x := .glo "ascends") (by simp [faD, faD0, faD1, faD2, faD3, faD4, faD5, faD6]))
  have g_is_link := He.glo_ok X G (fac (x := .glo "is_link") (by simp [faD, faD0, faD1, faD2, faD3, faD4, faD5, faD6]))
  have g_net_error := He.glo_ok X G (fac (x := .glo "net_error") (by simp [faD, faD0, faD1, faD2, faD3, faD4, faD5, faD6]))
  have g_number_of := He.glo_ok X G (fac (x := .glo "number_of") (by simp [faD, faD0, faD1, faD2, faD3, faD4, faD5, faD6]))
  have g_outage_of := He.glo_ok X G (fac (x := .glo "outage_of") (by simp [faD, faD0, faD1, faD2, faD3, faD4, faD5, faD6]))
  have g_outages_error := He.glo_ok X G (fac (x := .glo "outages_error") (by simp [faD, faD0, faD1, faD2, faD3, faD4, faD5, faD6]))
  have g_is_key := He.glo_ok X G (fac (x := .glo "is_key") (by simp [faD, faD0, faD1, faD2, faD3, faD4, faD5, faD6]))
  have g_is_row := He.glo_ok X G (fac (x := .glo "is_row") (by simp [faD, faD0, faD1, faD2, faD3, faD4, faD5, faD6]))
  have g_book_error := He.glo_ok X G (fac (x := .glo "book_error") (by simp [faD, faD0, faD1, faD2, faD3, faD4, faD5, faD6]))
  have g_keys_of := He.glo_ok X G (fac (x := .glo "keys_of") (by simp [faD, faD0, faD1, faD2, faD3, faD4, faD5, faD6]))
  have g_next_stop := He.glo_ok X G (fac (x := .glo "next_stop") (by simp [faD, faD0, faD1, faD2, faD3, faD4, faD5, faD6]))
  have g_walked := He.glo_ok X G (fac (x := .glo "walked") (by simp [faD, faD0, faD1, faD2, faD3, faD4, faD5, faD6]))
  have g_walk := He.glo_ok X G (fac (x := .glo "walk") (by simp [faD, faD0, faD1, faD2, faD3, faD4, faD5, faD6]))
  have g_fate := He.glo_ok X G (fac (x := .glo "fate") (by simp [faD, faD0, faD1, faD2, faD3, faD4, faD5, faD6]))
  have g_is_outage := He.glo_ok X G (fac (x := .glo "is_outage") (by simp [faD, faD0, faD1, faD2, faD3, faD4, faD5, faD6]))
  have g_beside := He.glo_ok X G (fac (x := .glo "beside") (by simp [faD, faD0, faD1, faD2, faD3, faD4, faD5, faD6]))
  have g_spread := He.glo_ok X G (fac (x := .glo "spread") (by simp [faD, faD0, faD1, faD2, faD3, faD4, faD5, faD6]))
  have g_every_outage := He.glo_ok X G (fac (x := .glo "every_outage") (by simp [faD, faD0, faD1, faD2, faD3, faD4, faD5, faD6]))
  have g_each_case := He.glo_ok X G (fac (x := .glo "each_case") (by simp [faD, faD0, faD1, faD2, faD3, faD4, faD5, faD6]))
  have g_is_home := He.glo_ok X G (fac (x := .glo "is_home") (by simp [faD, faD0, faD1, faD2, faD3, faD4, faD5, faD6]))
  have g_is_missed := He.glo_ok X G (fac (x := .glo "is_missed") (by simp [faD, faD0, faD1, faD2, faD3, faD4, faD5, faD6]))
  have g_first_miss_within := He.glo_ok X G (fac (x := .glo "first_miss_within") (by simp [faD, faD0, faD1, faD2, faD3, faD4, faD5, faD6]))
  have g_first_miss := He.glo_ok X G (fac (x := .glo "first_miss") (by simp [faD, faD0, faD1, faD2, faD3, faD4, faD5, faD6]))
  have g_strength := He.glo_ok X G (fac (x := .glo "strength") (by simp [faD, faD0, faD1, faD2, faD3, faD4, faD5, faD6]))
  have g_changed := He.glo_ok X G (fac (x := .glo "changed") (by simp [faD, faD0, faD1, faD2, faD3, faD4, faD5, faD6]))
  have g_choices := He.glo_ok X G (fac (x := .glo "choices") (by simp [faD, faD0, faD1, faD2, faD3, faD4, faD5, faD6]))
  have g_fitting := He.glo_ok X G (fac (x := .glo "fitting") (by simp [faD, faD0, faD1, faD2, faD3, faD4, faD5, faD6]))
  have g_tree_behind := He.glo_ok X G (fac (x := .glo "tree_behind") (by simp [faD, faD0, faD1, faD2, faD3, faD4, faD5, faD6]))
  have g_mend_tree := He.glo_ok X G (fac (x := .glo "mend_tree") (by simp [faD, faD0, faD1, faD2, faD3, faD4, faD5, faD6]))
  have g_has_form := He.glo_ok X G (fac (x := .glo "has_form") (by simp [faD, faD0, faD1, faD2, faD3, faD4, faD5, faD6]))
  have g_holds_behind := He.glo_ok X G (fac (x := .glo "holds_behind") (by simp [faD, faD0, faD1, faD2, faD3, faD4, faD5, faD6]))
  have g_mend_tree_holds := He.glo_ok X G (fac (x := .glo "mend_tree_holds") (by simp [faD, faD0, faD1, faD2, faD3, faD4, faD5, faD6]))
  have g_fewest_mend := He.glo_ok X G (fac (x := .glo "fewest_mend") (by simp [faD, faD0, faD1, faD2, faD3, faD4, faD5, faD6]))
  have g__law_told := He.glo_ok X G (fac (x := .glo "_law_told") (by simp [faD, faD0, faD1, faD2, faD3, faD4, faD5, faD6]))
  have g__law_next := He.glo_ok X G (fac (x := .glo "_law_next") (by simp [faD, faD0, faD1, faD2, faD3, faD4, faD5, faD6]))
  have g__law_deck := He.glo_ok X G (fac (x := .glo "_law_deck") (by simp [faD, faD0, faD1, faD2, faD3, faD4, faD5, faD6]))
  have g__law_at := He.glo_ok X G (fac (x := .glo "_law_at") (by simp [faD, faD0, faD1, faD2, faD3, faD4, faD5, faD6]))
  have g__law_pairs := He.glo_ok X G (fac (x := .glo "_law_pairs") (by simp [faD, faD0, faD1, faD2, faD3, faD4, faD5, faD6]))
  have g__law_keys := He.glo_ok X G (fac (x := .glo "_law_keys") (by simp [faD, faD0, faD1, faD2, faD3, faD4, faD5, faD6]))
  have g__law_far := He.glo_ok X G (fac (x := .glo "_law_far") (by simp [faD, faD0, faD1, faD2, faD3, faD4, faD5, faD6]))
  have g__law_wise := He.glo_ok X G (fac (x := .glo "_law_wise") (by simp [faD, faD0, faD1, faD2, faD3, faD4, faD5, faD6]))
  have g__law_row := He.glo_ok X G (fac (x := .glo "_law_row") (by simp [faD, faD0, faD1, faD2, faD3, faD4, faD5, faD6]))
  have g__law_net := He.glo_ok X G (fac (x := .glo "_law_net") (by simp [faD, faD0, faD1, faD2, faD3, faD4, faD5, faD6]))
  have g__law_book := He.glo_ok X G (fac (x := .glo "_law_book") (by simp [faD, faD0, faD1, faD2, faD3, faD4, faD5, faD6]))
  have g__law_mending := He.glo_ok X G (fac (x := .glo "_law_mending") (by simp [faD, faD0, faD1, faD2, faD3, faD4, faD5, faD6]))
  have g__law_is_good := He.glo_ok X G (fac (x := .glo "_law_is_good") (by simp [faD, faD0, faD1, faD2, faD3, faD4, faD5, faD6]))
  have g__law_drawn := He.glo_ok X G (fac (x := .glo "_law_drawn") (by simp [faD, faD0, faD1, faD2, faD3, faD4, faD5, faD6]))
  have g__law_right := He.glo_ok X G (fac (x := .glo "_law_right") (by simp [faD, faD0, faD1, faD2, faD3, faD4, faD5, faD6]))
  have g__law_is_ring_mended := He.glo_ok X G (fac (x := .glo "_law_is_ring_mended") (by simp [faD, faD0, faD1, faD2, faD3, faD4, faD5, faD6]))
  have g_law := He.glo_ok X G (fac (x := .glo "law") (by simp [faD, faD0, faD1, faD2, faD3, faD4, faD5, faD6]))
  have m_Net := He.glo_ok X G (fac (x := .glo "Net") (by simp [faD, faD0, faD1, faD2, faD3, faD4, faD5, faD6]))
  have m_Outages := He.glo_ok X G (fac (x := .glo "Outages") (by simp [faD, faD0, faD1, faD2, faD3, faD4, faD5, faD6]))
  have m_Book := He.glo_ok X G (fac (x := .glo "Book") (by simp [faD, faD0, faD1, faD2, faD3, faD4, faD5, faD6]))
  have m_TooMany := He.glo_ok X G (fac (x := .glo "TooMany") (by simp [faD, faD0, faD1, faD2, faD3, faD4, faD5, faD6]))
  obtain ⟨t_MAX_LINKS, c_MAX_LINKS⟩ := He.int_ok X G (fac (x := .int "MAX_LINKS" 8) (by simp [faD, faD0, faD1, faD2, faD3, faD4, faD5, faD6]))
  obtain ⟨t_MAX_NODES, c_MAX_NODES⟩ := He.int_ok X G (fac (x := .int "MAX_NODES" 7) (by simp [faD, faD0, faD1, faD2, faD3, faD4, faD5, faD6]))
  have k_Net := He.cls_ok (fac (x := .cls "Net") (by simp [faD, faD0, faD1, faD2, faD3, faD4, faD5, faD6]))
  have mk_Net := He.mkr_ok (fac (x := .mkr "Net") (by simp [faD, faD0, faD1, faD2, faD3, faD4, faD5, faD6]))
  have k_Outages := He.cls_ok (fac (x := .cls "Outages") (by simp [faD, faD0, faD1, faD2, faD3, faD4, faD5, faD6]))
  have mk_Outages := He.mkr_ok (fac (x := .mkr "Outages") (by simp [faD, faD0, faD1, faD2, faD3, faD4, faD5, faD6]))
  have k_Book := He.cls_ok (fac (x := .cls "Book") (by simp [faD, faD0, faD1, faD2, faD3, faD4, faD5, faD6]))
  have mk_Book := He.mkr_ok (fac (x := .mkr "Book") (by simp [faD, faD0, faD1, faD2, faD3, faD4, faD5, faD6]))
  have T : Blt mg := ⟨He.free_ok X G (fac (x := .free "isinstance") (by simp [faD, faD0, faD1, faD2, faD3, faD4, faD5, faD6])), He.free_ok X G (fac (x := .free "len") (by simp [faD, faD0, faD1, faD2, faD3, faD4, faD5, faD6])), He.free_ok X G (fac (x := .free "all") (by simp [faD, faD0, faD1, faD2, faD3, faD4, faD5, faD6])), He.free_ok X G (fac (x := .free "sum") (by simp [faD, faD0, faD1, faD2, faD3, faD4, faD5, faD6])), He.free_ok X G (fac (x := .free "sorted") (by simp [faD, faD0, faD1, faD2, faD3, faD4, faD5, faD6])), He.free_ok X G (fac (x := .free "min") (by simp [faD, faD0, faD1, faD2, faD3, faD4, faD5, faD6])), He.free_ok X G (fac (x := .free "max") (by simp [faD, faD0, faD1, faD2, faD3, faD4, faD5, faD6])), He.free_ok X G (fac (x := .free "abs") (by simp [faD, faD0, faD1, faD2, faD3, faD4, faD5, faD6])), He.free_ok X G (fac (x := .free "range") (by simp [faD, faD0, faD1, faD2, faD3, faD4, faD5, faD6])), He.free_ok X G (fac (x := .free "enumerate") (by simp [faD, faD0, faD1, faD2, faD3, faD4, faD5, faD6])), He.free_ok X G (fac (x := .free "zip") (by simp [faD, faD0, faD1, faD2, faD3, faD4, faD5, faD6])), He.free_ok X G (fac (x := .free "int") (by simp [faD, faD0, faD1, faD2, faD3, faD4, faD5, faD6])), He.free_ok X G (fac (x := .free "bool") (by simp [faD, faD0, faD1, faD2, faD3, faD4, faD5, faD6])), He.free_ok X G (fac (x := .free "str") (by simp [faD, faD0, faD1, faD2, faD3, faD4, faD5, faD6])), He.free_ok X G (fac (x := .free "tuple") (by simp [faD, faD0, faD1, faD2, faD3, faD4, faD5, faD6])), He.free_ok X G (fac (x := .free "list") (by simp [faD, faD0, faD1, faD2, faD3, faD4, faD5, faD6])), He.free_ok X G (fac (x := .free "dict") (by simp [faD, faD0, faD1, faD2, faD3, faD4, faD5, faD6])), He.free_ok X G (fac (x := .free "set") (by simp [faD, faD0, faD1, faD2, faD3, faD4, faD5, faD6]))⟩
  have me_Net___len__ := He.meth_ok (fac (x := .meth "Net" "__len__") (by simp [faD, faD0, faD1, faD2, faD3, faD4, faD5, faD6]))
  have me_Net_at := He.meth_ok (fac (x := .meth "Net" "at") (by simp [faD, faD0, faD1, faD2, faD3, faD4, faD5, faD6]))
  have me_Net_far := He.meth_ok (fac (x := .meth "Net" "far") (by simp [faD, faD0, faD1, faD2, faD3, faD4, faD5, faD6]))
  have me_Outages_members := He.meth_ok (fac (x := .meth "Outages" "members") (by simp [faD, faD0, faD1, faD2, faD3, faD4, faD5, faD6]))
  have me_Book_row_at := He.meth_ok (fac (x := .meth "Book" "row_at") (by simp [faD, faD0, faD1, faD2, faD3, faD4, faD5, faD6]))
  have me_Book_with_rows := He.meth_ok (fac (x := .meth "Book" "with_rows") (by simp [faD, faD0, faD1, faD2, faD3, faD4, faD5, faD6]))
  have me_TooMany___init__ := He.meth_ok (fac (x := .meth "TooMany" "__init__") (by simp [faD, faD0, faD1, faD2, faD3, faD4, faD5, faD6]))
  have no_Net_size := He.noat_ok (fac (x := .noat "Net" "size") (by simp [faD, faD0, faD1, faD2, faD3, faD4, faD5, faD6]))
  have no_Net_pairs := He.noat_ok (fac (x := .noat "Net" "pairs") (by simp [faD, faD0, faD1, faD2, faD3, faD4, faD5, faD6]))
  have no_Outages_width := He.noat_ok (fac (x := .noat "Outages" "width") (by simp [faD, faD0, faD1, faD2, faD3, faD4, faD5, faD6]))
  have no_Outages_cells := He.noat_ok (fac (x := .noat "Outages" "cells") (by simp [faD, faD0, faD1, faD2, faD3, faD4, faD5, faD6]))
  have no_Book_ground := He.noat_ok (fac (x := .noat "Book" "ground") (by simp [faD, faD0, faD1, faD2, faD3, faD4, faD5, faD6]))
  have no_Book_goal := He.noat_ok (fac (x := .noat "Book" "goal") (by simp [faD, faD0, faD1, faD2, faD3, faD4, faD5, faD6]))
  have no_Book_width := He.noat_ok (fac (x := .noat "Book" "width") (by simp [faD, faD0, faD1, faD2, faD3, faD4, faD5, faD6]))
  have no_Book_told := He.noat_ok (fac (x := .noat "Book" "told") (by simp [faD, faD0, faD1, faD2, faD3, faD4, faD5, faD6]))
  have no_Book_turns := He.noat_ok (fac (x := .noat "Book" "turns") (by simp [faD, faD0, faD1, faD2, faD3, faD4, faD5, faD6]))
  have no_TooMany_limit := He.noat_ok (fac (x := .noat "TooMany" "limit") (by simp [faD, faD0, faD1, faD2, faD3, faD4, faD5, faD6]))
  have hex := c.more
  unfold exD at hex
  obtain ⟨pr_Net_nodes, hex⟩ := He.ba hex
  obtain ⟨pr_Book_net, hex⟩ := He.ba hex
  obtain ⟨pr_Book_target, hex⟩ := He.ba hex
  obtain ⟨pr_Book_rows, hex⟩ := He.ba hex
  obtain ⟨cm_Outages_full, hex⟩ := He.ba hex
  obtain ⟨cm_Book_turning, hex⟩ := He.ba hex
  obtain ⟨cr_Book, hex⟩ := He.ba hex
  obtain ⟨cr_Outages, hex⟩ := He.ba hex
  have oex := oexB_ok hex
  have pr_Net_nodes := propB_ok pr_Net_nodes
  have pr_Book_net := propB_ok pr_Book_net
  have pr_Book_target := propB_ok pr_Book_target
  have pr_Book_rows := propB_ok pr_Book_rows
  have cm_Outages_full := cmetB_ok cm_Outages_full
  have cm_Book_turning := cmetB_ok cm_Book_turning
  have cr_Book := clsrB_ok cr_Book
  have cr_Outages := clsrB_ok cr_Outages
  have b_is_whole : Binds K fd_is_whole ["value"] [] := F_is_whole.binds fun _ _ _ _ _ _ us hl => match us, hl with | [_], _ => rfl
  have b_is_below : Binds K fd_is_below ["value", "bound"] [] := F_is_below.binds fun _ _ _ _ _ _ us hl => match us, hl with | [_, _], _ => rfl
  have b_is_pair : Binds K fd_is_pair ["value"] [] := F_is_pair.binds fun _ _ _ _ _ _ us hl => match us, hl with | [_], _ => rfl
  have b_ascends : Binds K fd_ascends ["value", "bound"] [] := F_ascends.binds fun _ _ _ _ _ _ us hl => match us, hl with | [_, _], _ => rfl
  have b_is_link : Binds K fd_is_link ["value", "nodes"] [] := F_is_link.binds fun _ _ _ _ _ _ us hl => match us, hl with | [_, _], _ => rfl
  have b_net_error : Binds K fd_net_error ["nodes", "links"] [] := F_net_error.binds fun _ _ _ _ _ _ us hl => match us, hl with | [_, _], _ => rfl
  have b_Net___init__ : Binds K fd_Net___init__ ["self", "nodes", "links"] [] := F_Net___init__.binds fun _ _ _ _ _ _ us hl => match us, hl with | [_, _, _], _ => rfl
  have b_Net_nodes : Binds K fd_Net_nodes ["self"] [] := F_Net_nodes.binds fun _ _ _ _ _ _ us hl => match us, hl with | [_], _ => rfl
  have b_Net___len__ : Binds K fd_Net___len__ ["self"] [] := F_Net___len__.binds fun _ _ _ _ _ _ us hl => match us, hl with | [_], _ => rfl
  have b_Net_at : Binds K fd_Net_at ["self", "node"] [] := F_Net_at.binds fun _ _ _ _ _ _ us hl => match us, hl with | [_, _], _ => rfl
  have b_Net_far : Binds K fd_Net_far ["self", "link", "node"] [] := F_Net_far.binds fun _ _ _ _ _ _ us hl => match us, hl with | [_, _, _], _ => rfl
  have b_number_of : Binds K fd_number_of ["outage"] [] := F_number_of.binds fun _ _ _ _ _ _ us hl => match us, hl with | [_], _ => rfl
  have b_outage_of : Binds K fd_outage_of ["number"] [] := F_outage_of.binds fun _ _ _ _ _ _ us hl => match us, hl with | [_], _ => rfl
  have b_outages_error : Binds K fd_outages_error ["many", "members"] [] := F_outages_error.binds fun _ _ _ _ _ _ us hl => match us, hl with | [_, _], _ => rfl
  have b_Outages___init__ : Binds K fd_Outages___init__ ["self", "many", "members"] [] := F_Outages___init__.binds fun _ _ _ _ _ _ us hl => match us, hl with | [_, _, _], _ => rfl
  have b_Outages_full : Binds K fd_Outages_full ["cls", "many"] [] := F_Outages_full.binds fun _ _ _ _ _ _ us hl => match us, hl with | [_, _], _ => rfl
  have b_Outages_members : Binds K fd_Outages_members ["self"] [] := F_Outages_members.binds fun _ _ _ _ _ _ us hl => match us, hl with | [_], _ => rfl
  have b_is_key : Binds K fd_is_key ["net", "target", "marks", "value"] [] := F_is_key.binds fun _ _ _ _ _ _ us hl => match us, hl with | [_, _, _, _], _ => rfl
  have b_is_row : Binds K fd_is_row ["net", "node", "marks", "value"] [] := F_is_row.binds fun _ _ _ _ _ _ us hl => match us, hl with | [_, _, _, _], _ => rfl
  have b_book_error : Binds K fd_book_error ["net", "target", "marks", "rows"] [] := F_book_error.binds fun _ _ _ _ _ _ us hl => match us, hl with | [_, _, _, _], _ => rfl
  have b_keys_of : Binds K fd_keys_of ["net", "target", "marks"] [] := F_keys_of.binds fun _ _ _ _ _ _ us hl => match us, hl with | [_, _, _], _ => rfl
  have b_Book___init__ : Binds K fd_Book___init__ ["self", "net", "target", "marks", "rows"] [] := F_Book___init__.binds fun _ _ _ _ _ _ us hl => match us, hl with | [_, _, _, _, _], _ => rfl
  have b_Book_net : Binds K fd_Book_net ["self"] [] := F_Book_net.binds fun _ _ _ _ _ _ us hl => match us, hl with | [_], _ => rfl
  have b_Book_target : Binds K fd_Book_target ["self"] [] := F_Book_target.binds fun _ _ _ _ _ _ us hl => match us, hl with | [_], _ => rfl
  have b_Book_row_at : Binds K fd_Book_row_at ["self", "key"] [] := F_Book_row_at.binds fun _ _ _ _ _ _ us hl => match us, hl with | [_, _], _ => rfl
  have b_Book_rows : Binds K fd_Book_rows ["self"] [] := F_Book_rows.binds fun _ _ _ _ _ _ us hl => match us, hl with | [_], _ => rfl
  have b_Book_with_rows : Binds K fd_Book_with_rows ["self", "rows"] [] := F_Book_with_rows.binds fun _ _ _ _ _ _ us hl => match us, hl with | [_, _], _ => rfl
  have b_Book_turning : Binds K fd_Book_turning ["cls", "net", "target"] [] := F_Book_turning.binds fun _ _ _ _ _ _ us hl => match us, hl with | [_, _, _], _ => rfl
  have b_next_stop : Binds K fd_next_stop ["book", "stop", "outage"] [] := F_next_stop.binds fun _ _ _ _ _ _ us hl => match us, hl with | [_, _, _], _ => rfl
  have b_walked : Binds K fd_walked ["book", "start", "outage"] [] := F_walked.binds fun _ _ _ _ _ _ us hl => match us, hl with | [_, _, _], _ => rfl
  have b_walk : Binds K fd_walk ["book", "start", "outage"] [] := F_walk.binds fun _ _ _ _ _ _ us hl => match us, hl with | [_, _, _], _ => rfl
  have b_fate : Binds K fd_fate ["book", "start", "outage"] [] := F_fate.binds fun _ _ _ _ _ _ us hl => match us, hl with | [_, _, _], _ => rfl
  have b_is_outage : Binds K fd_is_outage ["net", "value"] [] := F_is_outage.binds fun _ _ _ _ _ _ us hl => match us, hl with | [_, _], _ => rfl
  have b_beside : Binds K fd_beside ["net", "outage", "node"] [] := F_beside.binds fun _ _ _ _ _ _ us hl => match us, hl with | [_, _, _], _ => rfl
  have b_spread : Binds K fd_spread ["net", "outage", "goal"] [] := F_spread.binds fun _ _ _ _ _ _ us hl => match us, hl with | [_, _, _], _ => rfl
  have b_every_outage : Binds K fd_every_outage ["net"] [] := F_every_outage.binds fun _ _ _ _ _ _ us hl => match us, hl with | [_], _ => rfl
  have b_each_case : Binds K fd_each_case ["net"] [] := F_each_case.binds fun _ _ _ _ _ _ us hl => match us, hl with | [_], _ => rfl
  have b_is_home : Binds K fd_is_home ["book", "start", "outage"] [] := F_is_home.binds fun _ _ _ _ _ _ us hl => match us, hl with | [_, _, _], _ => rfl
  have b_is_missed : Binds K fd_is_missed ["book", "start", "outage"] [] := F_is_missed.binds fun _ _ _ _ _ _ us hl => match us, hl with | [_, _, _], _ => rfl
  have b_first_miss_within : Binds K fd_first_miss_within ["book", "number"] [] := F_first_miss_within.binds fun _ _ _ _ _ _ us hl => match us, hl with | [_, _], _ => rfl
  have b_first_miss : Binds K fd_first_miss ["book"] [] := F_first_miss.binds fun _ _ _ _ _ _ us hl => match us, hl with | [_], _ => rfl
  have b_strength : Binds K fd_strength ["book"] [] := F_strength.binds fun _ _ _ _ _ _ us hl => match us, hl with | [_], _ => rfl
  have b_changed : Binds K fd_changed ["book", "offers", "choice"] [] := F_changed.binds fun _ _ _ _ _ _ us hl => match us, hl with | [_, _, _], _ => rfl
  have b_choices : Binds K fd_choices ["offers", "size"] [] := F_choices.binds fun _ _ _ _ _ _ us hl => match us, hl with | [_, _], _ => rfl
  have b_fitting : Binds K fd_fitting ["book", "offers", "case", "done"] [] := F_fitting.binds fun _ _ _ _ _ _ us hl => match us, hl with | [_, _, _, _], _ => rfl
  have b_tree_behind : Binds K fd_tree_behind ["book", "offers", "number", "done", "left"] [] := F_tree_behind.binds fun _ _ _ _ _ _ us hl => match us, hl with | [_, _, _, _, _], _ => rfl
  have b_mend_tree : Binds K fd_mend_tree ["book", "offers", "number", "left"] [] := F_mend_tree.binds fun _ _ _ _ _ _ us hl => match us, hl with | [_, _, _, _], _ => rfl
  have b_has_form : Binds K fd_has_form ["book", "number", "value"] [] := F_has_form.binds fun _ _ _ _ _ _ us hl => match us, hl with | [_, _, _], _ => rfl
  have b_holds_behind : Binds K fd_holds_behind ["book", "offers", "number", "done", "left", "value"] [] := F_holds_behind.binds fun _ _ _ _ _ _ us hl => match us, hl with | [_, _, _, _, _, _], _ => rfl
  have b_mend_tree_holds : Binds K fd_mend_tree_holds ["book", "offers", "number", "left", "value"] [] := F_mend_tree_holds.binds fun _ _ _ _ _ _ us hl => match us, hl with | [_, _, _, _, _], _ => rfl
  have b_TooMany___init__ : Binds K fd_TooMany___init__ ["self", "limit"] [] := F_TooMany___init__.binds fun _ _ _ _ _ _ us hl => match us, hl with | [_, _], _ => rfl
  have b__law_told : Binds K fd__law_told ["_law_book_here", "_law_offers", "_law_number", "_law_limit"] [] := F__law_told.binds fun _ _ _ _ _ _ us hl => match us, hl with | [_, _, _, _], _ => rfl
  have b__law_next : Binds K fd__law_next ["_law_deck_here", "_law_many"] [] := F__law_next.binds fun _ _ _ _ _ _ us hl => match us, hl with | [_, _], _ => rfl
  have b__law_deck : Binds K fd__law_deck ["_law_script"] [] := F__law_deck.binds fun _ _ _ _ _ _ us hl => match us, hl with | [_], _ => rfl
  have b__law_at : Binds K fd__law_at ["_law_links", "_law_node"] [] := F__law_at.binds fun _ _ _ _ _ _ us hl => match us, hl with | [_, _], _ => rfl
  have b__law_pairs : Binds K fd__law_pairs ["_law_nodes"] [] := F__law_pairs.binds fun _ _ _ _ _ _ us hl => match us, hl with | [_], _ => rfl
  have b__law_keys : Binds K fd__law_keys ["_law_nodes", "_law_links", "_law_target", "_law_marks"] [] := F__law_keys.binds fun _ _ _ _ _ _ us hl => match us, hl with | [_, _, _, _], _ => rfl
  have b__law_far : Binds K fd__law_far ["_law_nodes", "_law_links", "_law_target"] [] := F__law_far.binds fun _ _ _ _ _ _ us hl => match us, hl with | [_, _, _], _ => rfl
  have b__law_wise : Binds K fd__law_wise ["_law_deck_here", "_law_nodes", "_law_links", "_law_target", "_law_marks"] [] := F__law_wise.binds fun _ _ _ _ _ _ us hl => match us, hl with | [_, _, _, _, _], _ => rfl
  have b__law_row : Binds K fd__law_row ["_law_deck_here", "_law_links", "_law_node", "_law_marks", "_law_few"] [] := F__law_row.binds fun _ _ _ _ _ _ us hl => match us, hl with | [_, _, _, _, _], _ => rfl
  have b__law_net : Binds K fd__law_net ["_law_deck_here", "_law_limit"] [] := F__law_net.binds fun _ _ _ _ _ _ us hl => match us, hl with | [_, _], _ => rfl
  have b__law_book : Binds K fd__law_book ["_law_scene", "_law_rows"] [] := F__law_book.binds fun _ _ _ _ _ _ us hl => match us, hl with | [_, _], _ => rfl
  have b__law_mending : Binds K fd__law_mending ["_law_deck_here", "_law_limit"] [] := F__law_mending.binds fun _ _ _ _ _ _ us hl => match us, hl with | [_, _], _ => rfl
  have b__law_is_good : Binds K fd__law_is_good ["_law_book_here", "_law_offers", "_law_choice", "_law_number"] [] := F__law_is_good.binds fun _ _ _ _ _ _ us hl => match us, hl with | [_, _, _, _], _ => rfl
  have b__law_drawn : Binds K fd__law_drawn ["_law_deck_here", "_law_offers", "_law_limit"] [] := F__law_drawn.binds fun _ _ _ _ _ _ us hl => match us, hl with | [_, _, _], _ => rfl
  have b__law_right : Binds K fd__law_right ["_law_deck_here", "_law_book_here", "_law_offers", "_law_number", "_law_limit"] [] := F__law_right.binds fun _ _ _ _ _ _ us hl => match us, hl with | [_, _, _, _, _], _ => rfl
  have b__law_is_ring_mended : Binds K fd__law_is_ring_mended ["_law_deck_here"] [] := F__law_is_ring_mended.binds fun _ _ _ _ _ _ us hl => match us, hl with | [_], _ => rfl
  have b_law : Binds K fd_law ["_law_script"] [] := F_law.binds fun _ _ _ _ _ _ us hl => match us, hl with | [_], _ => rfl
  have e := hfa.symm.trans g_law
  cases e
  refine ⟨fd_law, fun s v => ?_, fun base KB GB TB => ?_⟩
  · obtain ⟨oc, od, kV, doc, pm, an, cdv, ct, osl, rfl, lk, hcd⟩ := F_law.ex
    exact .of_eq rfl
  let g : Gx := ⟨P, w, K, mg, base, [(He.tabOf K (tfD K), lamQ)], He.ga K "Net", He.ga K "Outages", He.ga K "Book"⟩
  show FnOk g.P g.w g.K g.mg g.base CX0 18 _ fd_law ["_law_script"] (sp_law g)
  have Z : Fct g := ⟨k_Net, k_Outages, k_Book, no_Net_size, no_Net_pairs, no_Outages_width, no_Outages_cells, no_Book_ground, no_Book_goal, no_Book_width, no_Book_told, no_Book_turns⟩
  have TM : TmF g (He.ga K "TooMany") (mP "TooMany" "__init__" K) := ⟨oex, no_TooMany_limit, me_TooMany___init__.at_, eq_of_beq me_TooMany___init__.fn, m_TooMany, He.exm_ok (fac (x := .exm "TooMany" "TooMany" true) (by simp [faD, faD0, faD1, faD2, faD3, faD4, faD5, faD6]))⟩
  have O_is_whole : FnOk g.P g.w g.K g.mg g.base CX0 1 _ fd_is_whole ["value"] (sp_is_whole g) := ok_is_whole g (T := T) (F := F_is_whole)
  have C_is_whole : Cal g.P g.w g.K g.mg g.base 1 "is_whole" ["value"] (sp_is_whole g) := ⟨_, fd_is_whole, O_is_whole, g_is_whole, F_is_whole.kp, b_is_whole⟩
  have O_is_below : FnOk g.P g.w g.K g.mg g.base CX0 2 _ fd_is_below ["value", "bound"] (sp_is_below g) := ok_is_below g (T := T) (C_is_whole := C_is_whole) (F := F_is_below)
  have C_is_below : Cal g.P g.w g.K g.mg g.base 2 "is_below" ["value", "bound"] (sp_is_below g) := ⟨_, fd_is_below, O_is_below, g_is_below, F_is_below.kp, b_is_below⟩
  have O_is_pair : FnOk g.P g.w g.K g.mg g.base CX0 1 _ fd_is_pair ["value"] (sp_is_pair g) := ok_is_pair g (T := T) (F := F_is_pair)
  have C_is_pair : Cal g.P g.w g.K g.mg g.base 1 "is_pair" ["value"] (sp_is_pair g) := ⟨_, fd_is_pair, O_is_pair, g_is_pair, F_is_pair.kp, b_is_pair⟩
  have O_ascends : FnOk g.P g.w g.K g.mg g.base CX0 3 _ fd_ascends ["value", "bound"] (sp_ascends g) := ok_ascends g (T := T) (C_is_below := C_is_below) (F := F_ascends)
  have C_ascends : Cal g.P g.w g.K g.mg g.base 3 "ascends" ["value", "bound"] (sp_ascends g) := ⟨_, fd_ascends, O_ascends, g_ascends, F_ascends.kp, b_ascends⟩
  have O_is_link : FnOk g.P g.w g.K g.mg g.base CX0 3 _ fd_is_link ["value", "nodes"] (sp_is_link g) := ok_is_link g (T := T) (Z := Z) (C_is_pair := C_is_pair) (C_is_below := C_is_below) (F := F_is_link)
  have C_is_link : Cal g.P g.w g.K g.mg g.base 3 "is_link" ["value", "nodes"] (sp_is_link g) := ⟨_, fd_is_link, O_is_link, g_is_link, F_is_link.kp, b_is_link⟩
  have O_net_error : FnOk g.P g.w g.K g.mg g.base CX0 4 _ fd_net_error ["nodes", "links"] (sp_net_error g) := ok_net_error g (T := T) (Z := Z) (C_is_whole := C_is_whole) (C_is_link := C_is_link) (c_MAX_LINKS := c_MAX_LINKS) (c_MAX_NODES := c_MAX_NODES) (F := F_net_error)
  have C_net_error : Cal g.P g.w g.K g.mg g.base 4 "net_error" ["nodes", "links"] (sp_net_error g) := ⟨_, fd_net_error, O_net_error, g_net_error, F_net_error.kp, b_net_error⟩
  have O_Net___init__ : FnOk g.P g.w g.K g.mg g.base CX0 5 _ fd_Net___init__ ["self", "nodes", "links"] (sp_Net___init__ g) := ok_Net___init__ g (T := T) (Z := Z) (C_net_error := C_net_error) (F := F_Net___init__)
  have K_Net : CalK g.P g.w g.K g.mg g.base 5 g.nc "Net" ["self", "nodes", "links"] (sp_Net___init__ g) := ⟨_, fd_Net___init__, mk_Net, m_Net, O_Net___init__, b_Net___init__⟩
  have O_Net_nodes : FnOk g.P g.w g.K g.mg g.base CX0 1 _ fd_Net_nodes ["self"] (sp_Net_nodes g) := ok_Net_nodes g (T := T) (Z := Z) (F := F_Net_nodes)
  have P_Net_nodes : CalP g.P g.w g.K g.mg g.base 1 g.nc "nodes" (sp_Net_nodes g) := ⟨k_Net, _, _, fd_Net_nodes, pr_Net_nodes, O_Net_nodes, b_Net_nodes⟩
  have O_Net___len__ : FnOk g.P g.w g.K g.mg g.base CX0 1 _ fd_Net___len__ ["self"] (sp_Net___len__ g) := ok_Net___len__ g (T := T) (Z := Z) (F := F_Net___len__)
  have M_Net___len__ : CalM g.P g.w g.K g.mg g.base 1 g.nc "__len__" ["self"] (sp_Net___len__ g) := ⟨k_Net, _, fd_Net___len__, O_Net___len__, me_Net___len__, b_Net___len__⟩
  have O_Net_at : FnOk g.P g.w g.K g.mg g.base CX0 1 _ fd_Net_at ["self", "node"] (sp_Net_at g) := ok_Net_at g (T := T) (Z := Z) (F := F_Net_at)
  have M_Net_at : CalM g.P g.w g.K g.mg g.base 1 g.nc "at" ["self", "node"] (sp_Net_at g) := ⟨k_Net, _, fd_Net_at, O_Net_at, me_Net_at, b_Net_at⟩
  have O_Net_far : FnOk g.P g.w g.K g.mg g.base CX0 1 _ fd_Net_far ["self", "link", "node"] (sp_Net_far g) := ok_Net_far g (T := T) (Z := Z) (F := F_Net_far)
  have M_Net_far : CalM g.P g.w g.K g.mg g.base 1 g.nc "far" ["self", "link", "node"] (sp_Net_far g) := ⟨k_Net, _, fd_Net_far, O_Net_far, me_Net_far, b_Net_far⟩
  have O_number_of : FnOk g.P g.w g.K g.mg g.base CX0 1 _ fd_number_of ["outage"] (sp_number_of g) := ok_number_of g (T := T) (Z := Z) (F := F_number_of)
  have C_number_of : Cal g.P g.w g.K g.mg g.base 1 "number_of" ["outage"] (sp_number_of g) := ⟨_, fd_number_of, O_number_of, g_number_of, F_number_of.kp, b_number_of⟩
  have O_outage_of : FnOk g.P g.w g.K g.mg g.base CX0 1 _ fd_outage_of ["number"] (sp_outage_of g) := ok_outage_of g (T := T) (Z := Z) (c_MAX_LINKS := c_MAX_LINKS) (F := F_outage_of)
  have C_outage_of : Cal g.P g.w g.K g.mg g.base 1 "outage_of" ["number"] (sp_outage_of g) := ⟨_, fd_outage_of, O_outage_of, g_outage_of, F_outage_of.kp, b_outage_of⟩
  have O_outages_error : FnOk g.P g.w g.K g.mg g.base CX0 4 _ fd_outages_error ["many", "members"] (sp_outages_error g) := ok_outages_error g (T := T) (Z := Z) (C_is_whole := C_is_whole) (C_ascends := C_ascends) (c_MAX_LINKS := c_MAX_LINKS) (F := F_outages_error)
  have C_outages_error : Cal g.P g.w g.K g.mg g.base 4 "outages_error" ["many", "members"] (sp_outages_error g) := ⟨_, fd_outages_error, O_outages_error, g_outages_error, F_outages_error.kp, b_outages_error⟩
  have O_Outages___init__ : FnOk g.P g.w g.K g.mg g.base CX0 5 _ fd_Outages___init__ ["self", "many", "members"] (sp_Outages___init__ g) := ok_Outages___init__ g (T := T) (Z := Z) (C_outages_error := C_outages_error) (C_number_of := C_number_of) (F := F_Outages___init__)
  have K_Outages : CalK g.P g.w g.K g.mg g.base 5 g.oc "Outages" ["self", "many", "members"] (sp_Outages___init__ g) := ⟨_, fd_Outages___init__, mk_Outages, m_Outages, O_Outages___init__, b_Outages___init__⟩
  have O_Outages_full : FnOk g.P g.w g.K g.mg g.base CX0 7 _ fd_Outages_full ["cls", "many"] (sp_Outages_full g) := ok_Outages_full g (T := T) (Z := Z) (C_Outages := K_Outages) (C_outage_of := C_outage_of) (F := F_Outages_full)
  have R_Outages_full : CalC g.P g.w g.K g.mg g.base 7 g.oc "full" (sp_Outages_full g) := ⟨_, _, _, cr_Outages, cm_Outages_full, (O_Outages_full.raw b_Outages_full .nil).imp fun vs H Q E hh => by rw [List.append_nil]; exact hh⟩
  have O_Outages_members : FnOk g.P g.w g.K g.mg g.base CX0 4 _ fd_Outages_members ["self"] (sp_Outages_members g) := ok_Outages_members g (T := T) (Z := Z) (C_outage_of := C_outage_of) (TB := by rw [← tfD_eq FC_Outages_members]; exact TB) (hT := rfl) (F := FC_Outages_members)
  have M_Outages_members : CalM g.P g.w g.K g.mg g.base 4 g.oc "members" ["self"] (sp_Outages_members g) := ⟨k_Outages, _, fd_Outages_members, O_Outages_members, me_Outages_members, b_Outages_members⟩
  have O_is_key : FnOk g.P g.w g.K g.mg g.base CX0 3 _ fd_is_key ["net", "target", "marks", "value"] (sp_is_key g) := ok_is_key g (T := T) (Z := Z) (C_is_below := C_is_below) (C_nodes := P_Net_nodes) (C___len__ := M_Net___len__) (C_at := M_Net_at) (F := F_is_key)
  have C_is_key : Cal g.P g.w g.K g.mg g.base 3 "is_key" ["net", "target", "marks", "value"] (sp_is_key g) := ⟨_, fd_is_key, O_is_key, g_is_key, F_is_key.kp, b_is_key⟩
  have O_is_row : FnOk g.P g.w g.K g.mg g.base CX0 3 _ fd_is_row ["net", "node", "marks", "value"] (sp_is_row g) := ok_is_row g (T := T) (Z := Z) (C_is_pair := C_is_pair) (C_is_below := C_is_below) (C___len__ := M_Net___len__) (C_at := M_Net_at) (F := F_is_row)
  have C_is_row : Cal g.P g.w g.K g.mg g.base 3 "is_row" ["net", "node", "marks", "value"] (sp_is_row g) := ⟨_, fd_is_row, O_is_row, g_is_row, F_is_row.kp, b_is_row⟩
  have O_book_error : FnOk g.P g.w g.K g.mg g.base CX0 4 _ fd_book_error ["net", "target", "marks", "rows"] (sp_book_error g) := ok_book_error g (T := T) (Z := Z) (C_is_pair := C_is_pair) (C_is_key := C_is_key) (C_is_row := C_is_row) (F := F_book_error)
  have C_book_error : Cal g.P g.w g.K g.mg g.base 4 "book_error" ["net", "target", "marks", "rows"] (sp_book_error g) := ⟨_, fd_book_error, O_book_error, g_book_error, F_book_error.kp, b_book_error⟩
  have O_keys_of : FnOk g.P g.w g.K g.mg g.base CX0 3 _ fd_keys_of ["net", "target", "marks"] (sp_keys_of g) := ok_keys_of g (T := T) (Z := Z) (C_nodes := P_Net_nodes) (C_at := M_Net_at) (F := F_keys_of)
  have C_keys_of : Cal g.P g.w g.K g.mg g.base 3 "keys_of" ["net", "target", "marks"] (sp_keys_of g) := ⟨_, fd_keys_of, O_keys_of, g_keys_of, F_keys_of.kp, b_keys_of⟩
  have O_Book___init__ : FnOk g.P g.w g.K g.mg g.base CX0 5 _ fd_Book___init__ ["self", "net", "target", "marks", "rows"] (sp_Book___init__ g) := ok_Book___init__ g (T := T) (Z := Z) (C_book_error := C_book_error) (F := F_Book___init__)
  have K_Book : CalK g.P g.w g.K g.mg g.base 5 g.bc "Book" ["self", "net", "target", "marks", "rows"] (sp_Book___init__ g) := ⟨_, fd_Book___init__, mk_Book, m_Book, O_Book___init__, b_Book___init__⟩
  have O_Book_net : FnOk g.P g.w g.K g.mg g.base CX0 1 _ fd_Book_net ["self"] (sp_Book_net g) := ok_Book_net g (T := T) (Z := Z) (F := F_Book_net)
  have P_Book_net : CalP g.P g.w g.K g.mg g.base 1 g.bc "net" (sp_Book_net g) := ⟨k_Book, _, _, fd_Book_net, pr_Book_net, O_Book_net, b_Book_net⟩
  have O_Book_target : FnOk g.P g.w g.K g.mg g.base CX0 1 _ fd_Book_target ["self"] (sp_Book_target g) := ok_Book_target g (T := T) (Z := Z) (F := F_Book_target)
  have P_Book_target : CalP g.P g.w g.K g.mg g.base 1 g.bc "target" (sp_Book_target g) := ⟨k_Book, _, _, fd_Book_target, pr_Book_target, O_Book_target, b_Book_target⟩
  have O_Book_row_at : FnOk g.P g.w g.K g.mg g.base CX0 1 _ fd_Book_row_at ["self", "key"] (sp_Book_row_at g) := ok_Book_row_at g (T := T) (Z := Z) (F := F_Book_row_at)
  have M_Book_row_at : CalM g.P g.w g.K g.mg g.base 1 g.bc "row_at" ["self", "key"] (sp_Book_row_at g) := ⟨k_Book, _, fd_Book_row_at, O_Book_row_at, me_Book_row_at, b_Book_row_at⟩
  have O_Book_rows : FnOk g.P g.w g.K g.mg g.base CX0 4 _ fd_Book_rows ["self"] (sp_Book_rows g) := ok_Book_rows g (T := T) (Z := Z) (C_keys_of := C_keys_of) (F := F_Book_rows)
  have P_Book_rows : CalP g.P g.w g.K g.mg g.base 4 g.bc "rows" (sp_Book_rows g) := ⟨k_Book, _, _, fd_Book_rows, pr_Book_rows, O_Book_rows, b_Book_rows⟩
  have O_Book_with_rows : FnOk g.P g.w g.K g.mg g.base CX0 7 _ fd_Book_with_rows ["self", "rows"] (sp_Book_with_rows g) := ok_Book_with_rows g (T := T) (Z := Z) (C_book_error := C_book_error) (C_rows := P_Book_rows) (C_Book := K_Book) (F := F_Book_with_rows)
  have M_Book_with_rows : CalM g.P g.w g.K g.mg g.base 7 g.bc "with_rows" ["self", "rows"] (sp_Book_with_rows g) := ⟨k_Book, _, fd_Book_with_rows, O_Book_with_rows, me_Book_with_rows, b_Book_with_rows⟩
  have O_Book_turning : FnOk g.P g.w g.K g.mg g.base CX0 7 _ fd_Book_turning ["cls", "net", "target"] (sp_Book_turning g) := ok_Book_turning g (T := T) (Z := Z) (C_keys_of := C_keys_of) (C_at := M_Net_at) (C_Book := K_Book) (F := F_Book_turning)
  have R_Book_turning : CalC g.P g.w g.K g.mg g.base 7 g.bc "turning" (sp_Book_turning g) := ⟨_, _, _, cr_Book, cm_Book_turning, (O_Book_turning.raw b_Book_turning .nil).imp fun vs H Q E hh => by rw [List.append_nil]; exact hh⟩
  have O_next_stop : FnOk g.P g.w g.K g.mg g.base CX0 3 _ fd_next_stop ["book", "stop", "outage"] (sp_next_stop g) := ok_next_stop g (T := T) (Z := Z) (C_row_at := M_Book_row_at) (C_far := M_Net_far) (C_net := P_Book_net) (F := F_next_stop)
  have C_next_stop : Cal g.P g.w g.K g.mg g.base 3 "next_stop" ["book", "stop", "outage"] (sp_next_stop g) := ⟨_, fd_next_stop, O_next_stop, g_next_stop, F_next_stop.kp, b_next_stop⟩
  have O_walked : FnOk g.P g.w g.K g.mg g.base CX0 4 _ fd_walked ["book", "start", "outage"] (sp_walked g) := ok_walked g (T := T) (Z := Z) (C_target := P_Book_target) (C_next_stop := C_next_stop) (F := F_walked)
  have C_walked : Cal g.P g.w g.K g.mg g.base 4 "walked" ["book", "start", "outage"] (sp_walked g) := ⟨_, fd_walked, O_walked, g_walked, F_walked.kp, b_walked⟩
  have O_walk : FnOk g.P g.w g.K g.mg g.base CX0 5 _ fd_walk ["book", "start", "outage"] (sp_walk g) := ok_walk g (T := T) (Z := Z) (C_walked := C_walked) (F := F_walk)
  have C_walk : Cal g.P g.w g.K g.mg g.base 5 "walk" ["book", "start", "outage"] (sp_walk g) := ⟨_, fd_walk, O_walk, g_walk, F_walk.kp, b_walk⟩
  have O_fate : FnOk g.P g.w g.K g.mg g.base CX0 5 _ fd_fate ["book", "start", "outage"] (sp_fate g) := ok_fate g (T := T) (Z := Z) (C_walked := C_walked) (F := F_fate)
  have C_fate : Cal g.P g.w g.K g.mg g.base 5 "fate" ["book", "start", "outage"] (sp_fate g) := ⟨_, fd_fate, O_fate, g_fate, F_fate.kp, b_fate⟩
  have O_is_outage : FnOk g.P g.w g.K g.mg g.base CX0 4 _ fd_is_outage ["net", "value"] (sp_is_outage g) := ok_is_outage g (T := T) (Z := Z) (C_ascends := C_ascends) (C___len__ := M_Net___len__) (F := F_is_outage)
  have C_is_outage : Cal g.P g.w g.K g.mg g.base 4 "is_outage" ["net", "value"] (sp_is_outage g) := ⟨_, fd_is_outage, O_is_outage, g_is_outage, F_is_outage.kp, b_is_outage⟩
  have O_beside : FnOk g.P g.w g.K g.mg g.base CX0 2 _ fd_beside ["net", "outage", "node"] (sp_beside g) := ok_beside g (T := T) (Z := Z) (C_at := M_Net_at) (C_far := M_Net_far) (F := F_beside)
  have C_beside : Cal g.P g.w g.K g.mg g.base 2 "beside" ["net", "outage", "node"] (sp_beside g) := ⟨_, fd_beside, O_beside, g_beside, F_beside.kp, b_beside⟩
  have O_spread : FnOk g.P g.w g.K g.mg g.base CX0 3 _ fd_spread ["net", "outage", "goal"] (sp_spread g) := ok_spread g (T := T) (Z := Z) (C_beside := C_beside) (F := F_spread)
  have C_spread : Cal g.P g.w g.K g.mg g.base 3 "spread" ["net", "outage", "goal"] (sp_spread g) := ⟨_, fd_spread, O_spread, g_spread, F_spread.kp, b_spread⟩
  have O_every_outage : FnOk g.P g.w g.K g.mg g.base CX0 8 _ fd_every_outage ["net"] (sp_every_outage g) := ok_every_outage g (T := T) (Z := Z) (C_members := M_Outages_members) (C_full := R_Outages_full) (C___len__ := M_Net___len__) (m_Outages := m_Outages) (F := F_every_outage)
  have C_every_outage : Cal g.P g.w g.K g.mg g.base 8 "every_outage" ["net"] (sp_every_outage g) := ⟨_, fd_every_outage, O_every_outage, g_every_outage, F_every_outage.kp, b_every_outage⟩
  have O_each_case : FnOk g.P g.w g.K g.mg g.base CX0 9 _ fd_each_case ["net"] (sp_each_case g) := ok_each_case g (T := T) (Z := Z) (C_every_outage := C_every_outage) (C_nodes := P_Net_nodes) (F := F_each_case)
  have C_each_case : Cal g.P g.w g.K g.mg g.base 9 "each_case" ["net"] (sp_each_case g) := ⟨_, fd_each_case, O_each_case, g_each_case, F_each_case.kp, b_each_case⟩
  have O_is_home : FnOk g.P g.w g.K g.mg g.base CX0 6 _ fd_is_home ["book", "start", "outage"] (sp_is_home g) := ok_is_home g (T := T) (Z := Z) (C_fate := C_fate) (F := F_is_home)
  have C_is_home : Cal g.P g.w g.K g.mg g.base 6 "is_home" ["book", "start", "outage"] (sp_is_home g) := ⟨_, fd_is_home, O_is_home, g_is_home, F_is_home.kp, b_is_home⟩
  have O_is_missed : FnOk g.P g.w g.K g.mg g.base CX0 7 _ fd_is_missed ["book", "start", "outage"] (sp_is_missed g) := ok_is_missed g (T := T) (Z := Z) (C_is_home := C_is_home) (C_target := P_Book_target) (C_spread := C_spread) (C_net := P_Book_net) (F := F_is_missed)
  have C_is_missed : Cal g.P g.w g.K g.mg g.base 7 "is_missed" ["book", "start", "outage"] (sp_is_missed g) := ⟨_, fd_is_missed, O_is_missed, g_is_missed, F_is_missed.kp, b_is_missed⟩
  have O_first_miss_within : FnOk g.P g.w g.K g.mg g.base CX0 10 _ fd_first_miss_within ["book", "number"] (sp_first_miss_within g) := ok_first_miss_within g (T := T) (Z := Z) (C_each_case := C_each_case) (C_net := P_Book_net) (C_is_missed := C_is_missed) (F := F_first_miss_within)
  have C_first_miss_within : Cal g.P g.w g.K g.mg g.base 10 "first_miss_within" ["book", "number"] (sp_first_miss_within g) := ⟨_, fd_first_miss_within, O_first_miss_within, g_first_miss_within, F_first_miss_within.kp, b_first_miss_within⟩
  have O_first_miss : FnOk g.P g.w g.K g.mg g.base CX0 11 _ fd_first_miss ["book"] (sp_first_miss g) := ok_first_miss g (T := T) (Z := Z) (C_first_miss_within := C_first_miss_within) (C___len__ := M_Net___len__) (C_net := P_Book_net) (F := F_first_miss)
  have C_first_miss : Cal g.P g.w g.K g.mg g.base 11 "first_miss" ["book"] (sp_first_miss g) := ⟨_, fd_first_miss, O_first_miss, g_first_miss, F_first_miss.kp, b_first_miss⟩
  have O_strength : FnOk g.P g.w g.K g.mg g.base CX0 12 _ fd_strength ["book"] (sp_strength g) := ok_strength g (T := T) (Z := Z) (C_first_miss := C_first_miss) (C___len__ := M_Net___len__) (C_net := P_Book_net) (F := F_strength)
  have C_strength : Cal g.P g.w g.K g.mg g.base 12 "strength" ["book"] (sp_strength g) := ⟨_, fd_strength, O_strength, g_strength, F_strength.kp, b_strength⟩
  have O_changed : FnOk g.P g.w g.K g.mg g.base CX0 8 _ fd_changed ["book", "offers", "choice"] (sp_changed g) := ok_changed g (T := T) (Z := Z) (C_with_rows := M_Book_with_rows) (F := F_changed)
  have C_changed : Cal g.P g.w g.K g.mg g.base 8 "changed" ["book", "offers", "choice"] (sp_changed g) := ⟨_, fd_changed, O_changed, g_changed, F_changed.kp, b_changed⟩
  have O_choices : FnOk g.P g.w g.K g.mg g.base CX0 1 _ fd_choices ["offers", "size"] (sp_choices g) := ok_choices g (T := T) (Z := Z) (F := F_choices)
  have C_choices : Cal g.P g.w g.K g.mg g.base 1 "choices" ["offers", "size"] (sp_choices g) := ⟨_, fd_choices, O_choices, g_choices, F_choices.kp, b_choices⟩
  have O_fitting : FnOk g.P g.w g.K g.mg g.base CX0 6 _ fd_fitting ["book", "offers", "case", "done"] (sp_fitting g) := ok_fitting g (T := T) (Z := Z) (C_walk := C_walk) (F := F_fitting)
  have C_fitting : Cal g.P g.w g.K g.mg g.base 6 "fitting" ["book", "offers", "case", "done"] (sp_fitting g) := ⟨_, fd_fitting, O_fitting, g_fitting, F_fitting.kp, b_fitting⟩
  have C_tree_behind_0 : Cal g.P g.w g.K g.mg g.base 11 "tree_behind" ["book", "offers", "number", "done", "left"] (sp_tree_behind g 0) := ⟨_, fd_tree_behind, base_tree_behind F_tree_behind, g_tree_behind, F_tree_behind.kp, b_tree_behind⟩
  have C_tree_behind_1 : Cal g.P g.w g.K g.mg g.base 12 "tree_behind" ["book", "offers", "number", "done", "left"] (sp_tree_behind g 1) := ⟨_, fd_tree_behind, ok_tree_behind g (m := 0) (hm1000 := by decide) (T := T) (Z := Z) (C_first_miss_within := C_first_miss_within) (C_fitting := C_fitting) (C_with_rows := M_Book_with_rows) (C_tree_behind := C_tree_behind_0) (F := F_tree_behind), g_tree_behind, F_tree_behind.kp, b_tree_behind⟩
  have C_tree_behind_2 : Cal g.P g.w g.K g.mg g.base 13 "tree_behind" ["book", "offers", "number", "done", "left"] (sp_tree_behind g 2) := ⟨_, fd_tree_behind, ok_tree_behind g (m := 1) (hm1000 := by decide) (T := T) (Z := Z) (C_first_miss_within := C_first_miss_within) (C_fitting := C_fitting) (C_with_rows := M_Book_with_rows) (C_tree_behind := C_tree_behind_1) (F := F_tree_behind), g_tree_behind, F_tree_behind.kp, b_tree_behind⟩
  have C_tree_behind_3 : Cal g.P g.w g.K g.mg g.base 14 "tree_behind" ["book", "offers", "number", "done", "left"] (sp_tree_behind g 3) := ⟨_, fd_tree_behind, ok_tree_behind g (m := 2) (hm1000 := by decide) (T := T) (Z := Z) (C_first_miss_within := C_first_miss_within) (C_fitting := C_fitting) (C_with_rows := M_Book_with_rows) (C_tree_behind := C_tree_behind_2) (F := F_tree_behind), g_tree_behind, F_tree_behind.kp, b_tree_behind⟩
  have C_tree_behind_4 : Cal g.P g.w g.K g.mg g.base 15 "tree_behind" ["book", "offers", "number", "done", "left"] (sp_tree_behind g 4) := ⟨_, fd_tree_behind, ok_tree_behind g (m := 3) (hm1000 := by decide) (T := T) (Z := Z) (C_first_miss_within := C_first_miss_within) (C_fitting := C_fitting) (C_with_rows := M_Book_with_rows) (C_tree_behind := C_tree_behind_3) (F := F_tree_behind), g_tree_behind, F_tree_behind.kp, b_tree_behind⟩
  have C_tree_behind := C_tree_behind_4
  have O_mend_tree : FnOk g.P g.w g.K g.mg g.base CX0 16 _ fd_mend_tree ["book", "offers", "number", "left"] (sp_mend_tree g) := ok_mend_tree g (T := T) (Z := Z) (C_tree_behind := C_tree_behind) (F := F_mend_tree)
  have C_mend_tree : Cal g.P g.w g.K g.mg g.base 16 "mend_tree" ["book", "offers", "number", "left"] (sp_mend_tree g) := ⟨_, fd_mend_tree, O_mend_tree, g_mend_tree, F_mend_tree.kp, b_mend_tree⟩
  have O_has_form : FnOk g.P g.w g.K g.mg g.base CX0 8 _ fd_has_form ["book", "number", "value"] (sp_has_form g) := ok_has_form g (T := T) (Z := Z) (C_is_below := C_is_below) (C_nodes := P_Net_nodes) (C_net := P_Book_net) (C_is_outage := C_is_outage) (C_is_missed := C_is_missed) (F := F_has_form)
  have C_has_form : Cal g.P g.w g.K g.mg g.base 8 "has_form" ["book", "number", "value"] (sp_has_form g) := ⟨_, fd_has_form, O_has_form, g_has_form, F_has_form.kp, b_has_form⟩
  have C_holds_behind_0 : Cal g.P g.w g.K g.mg g.base 9 "holds_behind" ["book", "offers", "number", "done", "left", "value"] (sp_holds_behind g 0) := ⟨_, fd_holds_behind, base_holds_behind F_holds_behind, g_holds_behind, F_holds_behind.kp, b_holds_behind⟩
  have C_holds_behind_1 : Cal g.P g.w g.K g.mg g.base 10 "holds_behind" ["book", "offers", "number", "done", "left", "value"] (sp_holds_behind g 1) := ⟨_, fd_holds_behind, ok_holds_behind g (m := 0) (hm1000 := by decide) (T := T) (Z := Z) (C_has_form := C_has_form) (C_fitting := C_fitting) (C_with_rows := M_Book_with_rows) (C_holds_behind := C_holds_behind_0) (F := F_holds_behind), g_holds_behind, F_holds_behind.kp, b_holds_behind⟩
  have C_holds_behind_2 : Cal g.P g.w g.K g.mg g.base 11 "holds_behind" ["book", "offers", "number", "done", "left", "value"] (sp_holds_behind g 2) := ⟨_, fd_holds_behind, ok_holds_behind g (m := 1) (hm1000 := by decide) (T := T) (Z := Z) (C_has_form := C_has_form) (C_fitting := C_fitting) (C_with_rows := M_Book_with_rows) (C_holds_behind := C_holds_behind_1) (F := F_holds_behind), g_holds_behind, F_holds_behind.kp, b_holds_behind⟩
  have C_holds_behind_3 : Cal g.P g.w g.K g.mg g.base 12 "holds_behind" ["book", "offers", "number", "done", "left", "value"] (sp_holds_behind g 3) := ⟨_, fd_holds_behind, ok_holds_behind g (m := 2) (hm1000 := by decide) (T := T) (Z := Z) (C_has_form := C_has_form) (C_fitting := C_fitting) (C_with_rows := M_Book_with_rows) (C_holds_behind := C_holds_behind_2) (F := F_holds_behind), g_holds_behind, F_holds_behind.kp, b_holds_behind⟩
  have C_holds_behind_4 : Cal g.P g.w g.K g.mg g.base 13 "holds_behind" ["book", "offers", "number", "done", "left", "value"] (sp_holds_behind g 4) := ⟨_, fd_holds_behind, ok_holds_behind g (m := 3) (hm1000 := by decide) (T := T) (Z := Z) (C_has_form := C_has_form) (C_fitting := C_fitting) (C_with_rows := M_Book_with_rows) (C_holds_behind := C_holds_behind_3) (F := F_holds_behind), g_holds_behind, F_holds_behind.kp, b_holds_behind⟩
  have C_holds_behind := C_holds_behind_4
  have O_mend_tree_holds : FnOk g.P g.w g.K g.mg g.base CX0 14 _ fd_mend_tree_holds ["book", "offers", "number", "left", "value"] (sp_mend_tree_holds g) := ok_mend_tree_holds g (T := T) (Z := Z) (C_holds_behind := C_holds_behind) (F := F_mend_tree_holds)
  have C_mend_tree_holds : Cal g.P g.w g.K g.mg g.base 14 "mend_tree_holds" ["book", "offers", "number", "left", "value"] (sp_mend_tree_holds g) := ⟨_, fd_mend_tree_holds, O_mend_tree_holds, g_mend_tree_holds, F_mend_tree_holds.kp, b_mend_tree_holds⟩
  have O_TooMany___init__ : FnOk g.P g.w g.K g.mg g.base CX0 1 _ fd_TooMany___init__ ["self", "limit"] (sp_TooMany___init__ g (He.ga K "TooMany")) := ok_TooMany___init__ g (TM := TM) (F := F_TooMany___init__)
  have O_fewest_mend : FnOk g.P g.w g.K g.mg g.base (L2.CX g.P g.w) 11 _ fd_fewest_mend ["book", "offers", "number", "most"] (sp_fewest_mend g (He.ga K "TooMany")) := ok_fewest_mend g (T := T) (Z := Z) (TM := TM) (C_choices := C_choices) (C_changed := C_changed) (C_first_miss_within := C_first_miss_within) (F1 := O_TooMany___init__) (B1 := b_TooMany___init__) (F := F_fewest_mend)
  have C_fewest_mend : CalE g.P g.w g.K g.mg g.base 11 "fewest_mend" ["book", "offers", "number", "most"] ["most"] (sp_fewest_mend g (He.ga K "TooMany")) := ⟨_, fd_fewest_mend, O_fewest_mend, g_fewest_mend, F_fewest_mend.kp, kb_few F_fewest_mend⟩
  have O__law_told : FnOk g.P g.w g.K g.mg g.base CX0 12 _ fd__law_told ["_law_book_here", "_law_offers", "_law_number", "_law_limit"] (sp__law_told g) := ok__law_told g (T := T) (TM := TM) (C_fewest_mend := C_fewest_mend) (F := F__law_told)
  have C__law_told : Cal g.P g.w g.K g.mg g.base 12 "_law_told" ["_law_book_here", "_law_offers", "_law_number", "_law_limit"] (sp__law_told g) := ⟨_, fd__law_told, O__law_told, g__law_told, F__law_told.kp, b__law_told⟩
  have O__law_next : FnOk g.P g.w g.K g.mg g.base CX0 1 _ fd__law_next ["_law_deck_here", "_law_many"] (sp__law_next g) := ok__law_next g (T := T) (Z := Z) (F := F__law_next)
  have C__law_next : Cal g.P g.w g.K g.mg g.base 1 "_law_next" ["_law_deck_here", "_law_many"] (sp__law_next g) := ⟨_, fd__law_next, O__law_next, g__law_next, F__law_next.kp, b__law_next⟩
  have O__law_deck : FnOk g.P g.w g.K g.mg g.base CX0 1 _ fd__law_deck ["_law_script"] (sp__law_deck g) := ok__law_deck g (T := T) (Z := Z) (F := F__law_deck)
  have C__law_deck : Cal g.P g.w g.K g.mg g.base 1 "_law_deck" ["_law_script"] (sp__law_deck g) := ⟨_, fd__law_deck, O__law_deck, g__law_deck, F__law_deck.kp, b__law_deck⟩
  have O__law_at : FnOk g.P g.w g.K g.mg g.base CX0 1 _ fd__law_at ["_law_links", "_law_node"] (sp__law_at g) := ok__law_at g (T := T) (Z := Z) (F := F__law_at)
  have C__law_at : Cal g.P g.w g.K g.mg g.base 1 "_law_at" ["_law_links", "_law_node"] (sp__law_at g) := ⟨_, fd__law_at, O__law_at, g__law_at, F__law_at.kp, b__law_at⟩
  have O__law_pairs : FnOk g.P g.w g.K g.mg g.base CX0 1 _ fd__law_pairs ["_law_nodes"] (sp__law_pairs g) := ok__law_pairs g (T := T) (Z := Z) (F := F__law_pairs)
  have C__law_pairs : Cal g.P g.w g.K g.mg g.base 1 "_law_pairs" ["_law_nodes"] (sp__law_pairs g) := ⟨_, fd__law_pairs, O__law_pairs, g__law_pairs, F__law_pairs.kp, b__law_pairs⟩
  have O__law_keys : FnOk g.P g.w g.K g.mg g.base CX0 2 _ fd__law_keys ["_law_nodes", "_law_links", "_law_target", "_law_marks"] (sp__law_keys g) := ok__law_keys g (T := T) (Z := Z) (C__law_at := C__law_at) (F := F__law_keys)
  have C__law_keys : Cal g.P g.w g.K g.mg g.base 2 "_law_keys" ["_law_nodes", "_law_links", "_law_target", "_law_marks"] (sp__law_keys g) := ⟨_, fd__law_keys, O__law_keys, g__law_keys, F__law_keys.kp, b__law_keys⟩
  have O__law_far : FnOk g.P g.w g.K g.mg g.base CX0 1 _ fd__law_far ["_law_nodes", "_law_links", "_law_target"] (sp__law_far g) := ok__law_far g (T := T) (Z := Z) (F := F__law_far)
  have C__law_far : Cal g.P g.w g.K g.mg g.base 1 "_law_far" ["_law_nodes", "_law_links", "_law_target"] (sp__law_far g) := ⟨_, fd__law_far, O__law_far, g__law_far, F__law_far.kp, b__law_far⟩
  have O__law_wise : FnOk g.P g.w g.K g.mg g.base CX0 3 _ fd__law_wise ["_law_deck_here", "_law_nodes", "_law_links", "_law_target", "_law_marks"] (sp__law_wise g) := ok__law_wise g (T := T) (Z := Z) (C__law_far := C__law_far) (C__law_next := C__law_next) (C__law_keys := C__law_keys) (C__law_at := C__law_at) (F := F__law_wise)
  have C__law_wise : Cal g.P g.w g.K g.mg g.base 3 "_law_wise" ["_law_deck_here", "_law_nodes", "_law_links", "_law_target", "_law_marks"] (sp__law_wise g) := ⟨_, fd__law_wise, O__law_wise, g__law_wise, F__law_wise.kp, b__law_wise⟩
  have O__law_row : FnOk g.P g.w g.K g.mg g.base CX0 2 _ fd__law_row ["_law_deck_here", "_law_links", "_law_node", "_law_marks", "_law_few"] (sp__law_row g) := ok__law_row g (T := T) (Z := Z) (C__law_at := C__law_at) (C__law_next := C__law_next) (F := F__law_row)
  have C__law_row : Cal g.P g.w g.K g.mg g.base 2 "_law_row" ["_law_deck_here", "_law_links", "_law_node", "_law_marks", "_law_few"] (sp__law_row g) := ⟨_, fd__law_row, O__law_row, g__law_row, F__law_row.kp, b__law_row⟩
  have O__law_net : FnOk g.P g.w g.K g.mg g.base CX0 2 _ fd__law_net ["_law_deck_here", "_law_limit"] (sp__law_net g) := ok__law_net g (T := T) (Z := Z) (C__law_next := C__law_next) (C__law_pairs := C__law_pairs) (F := F__law_net)
  have C__law_net : Cal g.P g.w g.K g.mg g.base 2 "_law_net" ["_law_deck_here", "_law_limit"] (sp__law_net g) := ⟨_, fd__law_net, O__law_net, g__law_net, F__law_net.kp, b__law_net⟩
  have O__law_book : FnOk g.P g.w g.K g.mg g.base CX0 7 _ fd__law_book ["_law_scene", "_law_rows"] (sp__law_book g) := ok__law_book g (T := T) (Z := Z) (C__law_keys := C__law_keys) (C_Book := K_Book) (C_Net := K_Net) (F := F__law_book)
  have C__law_book : Cal g.P g.w g.K g.mg g.base 7 "_law_book" ["_law_scene", "_law_rows"] (sp__law_book g) := ⟨_, fd__law_book, O__law_book, g__law_book, F__law_book.kp, b__law_book⟩
  have O__law_mending : FnOk g.P g.w g.K g.mg g.base CX0 8 _ fd__law_mending ["_law_deck_here", "_law_limit"] (sp__law_mending g) := ok__law_mending g (T := T) (Z := Z) (C__law_net := C__law_net) (C__law_next := C__law_next) (C__law_wise := C__law_wise) (C__law_row := C__law_row) (C__law_book := C__law_book) (F := F__law_mending)
  have C__law_mending : Cal g.P g.w g.K g.mg g.base 8 "_law_mending" ["_law_deck_here", "_law_limit"] (sp__law_mending g) := ⟨_, fd__law_mending, O__law_mending, g__law_mending, F__law_mending.kp, b__law_mending⟩
  have O__law_is_good : FnOk g.P g.w g.K g.mg g.base CX0 13 _ fd__law_is_good ["_law_book_here", "_law_offers", "_law_choice", "_law_number"] (sp__law_is_good g) := ok__law_is_good g (T := T) (Z := Z) (C_strength := C_strength) (C_changed := C_changed) (C___len__ := M_Net___len__) (C_net := P_Book_net) (F := F__law_is_good)
  have C__law_is_good : Cal g.P g.w g.K g.mg g.base 13 "_law_is_good" ["_law_book_here", "_law_offers", "_law_choice", "_law_number"] (sp__law_is_good g) := ⟨_, fd__law_is_good, O__law_is_good, g__law_is_good, F__law_is_good.kp, b__law_is_good⟩
  have O__law_drawn : FnOk g.P g.w g.K g.mg g.base CX0 2 _ fd__law_drawn ["_law_deck_here", "_law_offers", "_law_limit"] (sp__law_drawn g) := ok__law_drawn g (T := T) (Z := Z) (C__law_next := C__law_next) (F := F__law_drawn)
  have C__law_drawn : Cal g.P g.w g.K g.mg g.base 2 "_law_drawn" ["_law_deck_here", "_law_offers", "_law_limit"] (sp__law_drawn g) := ⟨_, fd__law_drawn, O__law_drawn, g__law_drawn, F__law_drawn.kp, b__law_drawn⟩
  have O__law_right : FnOk g.P g.w g.K g.mg g.base CX0 17 _ fd__law_right ["_law_deck_here", "_law_book_here", "_law_offers", "_law_number", "_law_limit"] (sp__law_right g) := ok__law_right g (T := T) (Z := Z) (C__law_told := C__law_told) (C_mend_tree := C_mend_tree) (C__law_drawn := C__law_drawn) (C__law_is_good := C__law_is_good) (C_mend_tree_holds := C_mend_tree_holds) (F := F__law_right)
  have C__law_right : Cal g.P g.w g.K g.mg g.base 17 "_law_right" ["_law_deck_here", "_law_book_here", "_law_offers", "_law_number", "_law_limit"] (sp__law_right g) := ⟨_, fd__law_right, O__law_right, g__law_right, F__law_right.kp, b__law_right⟩
  have O__law_is_ring_mended : FnOk g.P g.w g.K g.mg g.base CX0 13 _ fd__law_is_ring_mended ["_law_deck_here"] (sp__law_is_ring_mended g) := ok__law_is_ring_mended g (T := T) (Z := Z) (C__law_next := C__law_next) (C_Net := K_Net) (C_turning := R_Book_turning) (C_rows := P_Book_rows) (C_with_rows := M_Book_with_rows) (C__law_told := C__law_told) (C_row_at := M_Book_row_at) (C_changed := C_changed) (m_Book := m_Book) (F := F__law_is_ring_mended)
  have C__law_is_ring_mended : Cal g.P g.w g.K g.mg g.base 13 "_law_is_ring_mended" ["_law_deck_here"] (sp__law_is_ring_mended g) := ⟨_, fd__law_is_ring_mended, O__law_is_ring_mended, g__law_is_ring_mended, F__law_is_ring_mended.kp, b__law_is_ring_mended⟩
  have O_law : FnOk g.P g.w g.K g.mg g.base CX0 18 _ fd_law ["_law_script"] (sp_law g) := ok_law g (T := T) (Z := Z) (C__law_deck := C__law_deck) (C__law_mending := C__law_mending) (C__law_next := C__law_next) (C__law_right := C__law_right) (C__law_is_ring_mended := C__law_is_ring_mended) (F := F_law)
  exact O_law
end Sp
end
section
set_option Elab.async false
set_option linter.all false
set_option maxRecDepth 100000
set_option maxHeartbeats 4000000
set_option autoImplicit false
/-! Sp: the run, said of the Hook. -/
namespace Sp
open PySem PySem.W PySem.Calls PyProof.Rows
abbrev hk : PySem.W.Hook := hookP faD fnD tfD exD
theorem ob_eq (s : SharedT) : ob s = hk.obs s.abs := obsP_eq (HandSHeadRun.getT_eq s)
theorem run (w : World) : HandSHeadRun.RunEq Rr qv hk ob 40000 names w := run0 w
end Sp
end
section
set_option Elab.async false
set_option linter.all false
set_option maxRecDepth 100000
set_option maxHeartbeats 0
set_option autoImplicit false
namespace Sp
open PySem PySem.Spec PyProof.Rows L2
theorem lawAt {w : World} {mg : Str → Option Value} {fa : Addr} {h : Heap} (Y : hk.says w h) (G : h.Ns mainGlobals mg) (hmg : mg ("law" : Str) = some (.ref fa)) :
    ∃ K : PySem.W.Frag, K.In h ∧ LamX.LawAtS PySem.Challenge.rw_sparerows_k48_whole_mends_and_trees w K CX0 18 63 ("_law_script" : Str) mg fa h := by
  obtain ⟨K, KX, c⟩ := Y
  obtain ⟨fd, hb, hF⟩ := facts (P := (PySem.Challenge.rw_sparerows_k48_whole_mends_and_trees).prog) (w := w) KX G c hmg
  refine ⟨K, KX, fd, [(tfD K, He.tabOf K (tfD K))], _, fun p hp => ?_, fun p hp => ?_, fun p hp => ?_, hb, fun H a ns hl hbits ht hS => ?_, fun base KB GB TB => hF base KB GB (TB _ List.mem_cons_self)⟩
  · cases List.mem_singleton.mp hp
    exact c.empty
  · cases List.mem_singleton.mp hp
    exact c.out
  · cases List.mem_singleton.mp hp
    exact PySem.W.codeHd_of_K KX c.hd
  · refine ⟨a, ns, rfl, hS, by omega, fun q hq => ?_, fun _ => rfl⟩
    cases List.mem_singleton.mp hq
    exact .nil (ht _ List.mem_cons_self)
end Sp
end
set_option Elab.async false
set_option maxRecDepth 100000
set_option maxHeartbeats 0
open PySem PySem.W PySem.Calls PyProof.Rows
theorem PySem.Challenge.cw_sparerows_k48_whole_mends_and_trees_holds : PySem.Challenge.rw_sparerows_k48_whole_mends_and_trees.Holds := by
  w_on; o_law
  refine HandSHeadRun.head_any (r := OpenLaw.row PySem.Challenge.rw_sparerows_k48_whole_mends_and_trees) (q := Sp.qv) (H := Sp.hk) (ob := Sp.ob) (M := 40000) (loose := Sp.names) (d := HandSHeadRun.topDef (OpenLaw.row PySem.Challenge.rw_sparerows_k48_whole_mends_and_trees).prog 77) (kwd := []) Sp.ob_eq
    (by kernel_rfl) (fun s => by kernel_rfl) Sp.run (by kernel_rfl) (by kernel_rfl) (by kernel_rfl) (by rfl) (by first | assumption | decide +kernel) (by decide +kernel) ⟨rfl, rfl, rfl, rfl, rfl, by decide +kernel⟩ ?hw ?hc
  case hw => w_witness2
  case hc =>
    refine LamX.walk_ofTsE (l := PySem.Challenge.rw_sparerows_k48_whole_mends_and_trees) (n := 63) (k := 18) (x := "_law_script") (CX := fun _ => L2.CX0) rfl (by decide) (by kernel_rfl) ⟨rfl, by decide, by decide⟩ ?F (fun _ _ _ _ _ z => z)
    intro w mg fa h Y G hmg0
    have hmg : mg ("law" : PySem.Str) = some (.ref fa) := by
      have e : (HandSHeadRun.topDef (OpenLaw.row PySem.Challenge.rw_sparerows_k48_whole_mends_and_trees).prog 77).name = ("law" : PySem.Str) := by kernel_rfl
      rw [← e]
      exact hmg0
    exact Sp.lawAt Y G hmg
