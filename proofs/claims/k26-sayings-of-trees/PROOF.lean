import PyProof.Rows.All
import Wide.All
import OpenK.AllK
import Wide.FinOn
import PySem.Challenge.RW_lastparted_k26_whole_sayings_of_trees
import HandS.ForMost
import HandS.ForExc
import HandS.Deep
import HandS.More
import HandS.NoneIn
import HandS.Flow
import HandS.IsInst
import HandS.TupAny
import HandS.Lambda
import KE.SortData
import PyProof.Rows.RowHeap
import HandS.Walk
import HandS.Zip
import HandS.WordsExc
import HandS.CallSlots
import HandS.Text
import HandS.Conv
import PyProof.CallFns
import KE.GoesMore
import HandS.TryOnly
import HandS.ExcOwn
import HandS.TupSets
import KE.KeyNested
import KE.SortKeyHeap
import HandS.SortKw
import HandS.EndTab
import HandS.HeadHook4
import HandS.Head2
import PyProof.ExcBaseAll.ValueError
import HandS.HeadWalk
import PyProof.ReprLen
import PyProof.P3Eq
import HandS.HeadEnd
set_option Elab.async false
set_option linter.all false
set_option maxRecDepth 100000
set_option maxHeartbeats 1000000
/-! ## Mn: a small interpreter over plain data, and what it says of the heap -/
namespace Mn
open PySem L2

abbrev D := PyData
/-- where the defs lie; the tables of code objects -/
structure Ad where
  at_ : Str → Addr
  T : List (Addr × Str)
instance : CoeFun Ad (fun _ => Str → Addr) := ⟨Ad.at_⟩
/-- the heap but for the tables of code objects -/
def mask (H : Hp) : Hp := fun b => match H b with
  | some (.tbl _) => none
  | u => u
def nonT : HO → Prop := fun o => ∀ ps, o ≠ .tbl ps
theorem mask_of {H : Hp} {b : Addr} {o : HO} (h : H b = some o) (n : nonT o) : mask H b = some o := by
  unfold mask
  rw [h]
  cases o <;> first | rfl | exact absurd rfl (n _)
theorem mask_some {H : Hp} {b : Addr} {o : HO} (h : mask H b = some o) : H b = some o ∧ nonT o := by
  unfold mask at h
  split at h
  · cases h
  · rename_i n
    exact ⟨h, fun ps z => n ps (by rw [h, z])⟩
theorem mask_none {H : Hp} {b : Addr} (h : H b = none) : mask H b = none := by
  unfold mask
  rw [h]
theorem mask_upd {H : Hp} {p : Addr} {o : HO} (n : nonT o) : mask (upd H p o) = upd (mask H) p o := by
  funext b
  by_cases hb : b = p
  · subst hb
    rw [upd_same]
    exact mask_of upd_same n
  · rw [upd_ne hb]
    unfold mask
    rw [upd_ne hb]
theorem nonT_lst {vs : List V} : nonT (.lst vs) := fun _ z => nomatch z
theorem nonT_tup {vs : List V} : nonT (.tup vs) := fun _ z => nomatch z
/-- the tables, and nothing of them among what nobody changes -/
structure Tb (Tl : List (Addr × Str)) (H F : Hp) : Prop where
  ft : ∀ b o, F b = some o → nonT o
  tb : LamX.Tabs Tl H
theorem Tb.new {Tl : List (Addr × Str)} {H F : Hp} {p : Addr} {o : HO} (t : Tb Tl H F) (h : H p = none) : Tb Tl (upd H p o) F :=
  ⟨t.ft, t.tb.ext fun b u e => by rw [upd_ne (fun z => by rw [z, h] at e; cases e)]; exact e⟩
theorem Tb.frz {Tl : List (Addr × Str)} {H F : Hp} {p : Addr} {o : HO} (t : Tb Tl H F) (n : nonT o) : Tb Tl H (upd F p o) :=
  ⟨fun b u e => by
    by_cases hb : b = p
    · subst hb; rw [upd_same] at e; cases e; exact n
    · rw [upd_ne hb] at e; exact t.ft b u e, t.tb⟩
theorem Tb.mut {Tl : List (Addr × Str)} {H F : Hp} {p : Addr} {vs us : List V} (t : Tb Tl H F) (h : H p = some (.lst vs)) : Tb Tl (upd H p (.lst us)) F :=
  ⟨t.ft, fun q hq => by
    obtain ⟨ps, h1, h2, h3⟩ := t.tb q hq
    refine ⟨ps, by rw [upd_ne (fun z => by rw [z, h] at h1; cases h1)]; exact h1, h2, fun pos cv hc => ?_⟩
    obtain ⟨c, e1, e2⟩ := h3 pos cv hc
    exact ⟨c, e1, by rw [upd_ne (fun z => by subst z; rw [h] at e2; have e3 := Option.some.inj e2; unfold LamX.CodeO at e3; cases e3)]; exact e2⟩⟩
/-- what a slot holds: data that nobody changes; a list of one's own (lent: by the caller); a def -/
inductive W where
  | d (x : D) | own (lent : Bool) (xs : List D) | fn (f : Str)
/-- what an expression gives -/
inductive R where
  | d (x : D) | fresh (xs : List D) | slot (i : Nat) | fn (f : Str)
abbrev Env := List (Option W)
inductive Res (α : Type) where
  | ok (a : α) | ex (c : Str) (ρ : Env) | stuck
abbrev Tmps := List (R × V)

inductive Owner where
  | slot (i : Nat) | temp (k : Nat)
  deriving DecidableEq

mutual
/-- a value that stands for data: its lists are tracked, its tuples tracked or written -/
inductive Dq (K : PySem.W.Frag) (F : Hp) : V → D → Prop
  | non : Dq K F .non .none
  | bl (b : Bool) : Dq K F (.bl b) (.bool b)
  | int (i : Int) : Dq K F (.int i) (.int i)
  | str (x : Str) : Dq K F (.str x) (.str x)
  | lst {a : Addr} {xs : List V} {ds : List D} : Rd F a (.lst xs) → DqAll K F xs ds → Dq K F (.ref a) (.list ds)
  | tup {a : Addr} {xs : List V} {ds : List D} : SqT K F a xs → DqAll K F xs ds → Dq K F (.ref a) (.tuple ds)
inductive DqAll (K : PySem.W.Frag) (F : Hp) : List V → List D → Prop
  | nil : DqAll K F [] []
  | cons {v : V} {vs : List V} {d : D} {ds : List D} : Dq K F v d → DqAll K F vs ds → DqAll K F (v :: vs) (d :: ds)
end
mutual
theorem Dq.dp {K : PySem.W.Frag} {F : Hp} : ∀ (x : D) (v : V), Dq K F v x → Dp K F v x
  | .none, _, h => by cases h; exact .non
  | .bool _, _, h => by cases h; exact .bl _
  | .int _, _, h => by cases h; exact .int _
  | .str _, _, h => by cases h; exact .str _
  | .list xs, _, h => by
    cases h with
    | lst h1 h2 => exact .lst (.inl h1) (DqAll.dp xs _ h2)
  | .tuple xs, _, h => by
    cases h with
    | tup h1 h2 => exact .tup h1 (DqAll.dp xs _ h2)
  | .dict _, _, h => by cases h
theorem DqAll.dp {K : PySem.W.Frag} {F : Hp} : ∀ (xs : List D) (vs : List V), DqAll K F vs xs → DpAll K F vs xs
  | [], _, h => by cases h; exact .nil
  | x :: xs, _, h => by
    cases h with
    | cons h1 h2 => exact .cons (Dq.dp x _ h1) (DqAll.dp xs _ h2)
end
/-- where a run began: the heap, the part that nobody changes, what was lent -/
structure Bs where
  H : Hp
  F : Hp
  P : Addr → Prop
  L : St
  N : Addr → Prop
  hm : ∀ b o, H b = some o → nonT o

abbrev subB (H F : Hp) (P : Addr → Prop) (L : St) (N : Addr → Prop) : Bs := ⟨mask H, F, P, L, N, fun _ _ h => (mask_some h).2⟩
section
variable (K : PySem.W.Frag) (A : Ad)
def OwnAt (F H : Hp) (O : Addr → Option Owner) (w : Owner) (v : V) (xs : List D) : Prop :=
  ∃ p vs, v = .ref p ∧ O p = some w ∧ H p = some (.lst vs) ∧ DqAll K F vs xs
def SlotOk (F H : Hp) (O : Addr → Option Owner) (i : Nat) (v : V) : W → Prop
  | .d x => Dq K F v x
  | .own _ xs => OwnAt K F H O (.slot i) v xs
  | .fn f => v = .ref (A f)
def TempOk (F H : Hp) (O : Addr → Option Owner) (σ : St) (k : Nat) (v : V) : R → Prop
  | .d x => Dq K F v x
  | .fresh xs => OwnAt K F H O (.temp k) v xs
  | .slot i => σ[i]? = some (some v)
  | .fn f => v = .ref (A f)
structure Sep (B : Bs) (σ : St) (ρ : Env) (T : Tmps) (H F : Hp) (O : Addr → Option Owner) : Prop where
  fh : ∀ b o, F b = some o → H b = some o
  f0 : ∀ b o, B.F b = some o → F b = some o
  fn : ∀ b, F b ≠ none → B.F b ≠ none ∨ B.H b = none ∨ B.P b
  h0 : ∀ b o, B.H b = some o → ¬ B.P b → H b = some o
  h1 : ∀ b, B.H b ≠ none → mask H b ≠ none
  ho : ∀ b, O b ≠ none → F b = none ∧ (B.H b = none ∨ B.P b) ∧ mask H b ≠ none
  len : σ.length = ρ.length
  slots : ∀ i w, ρ[i]? = some (some w) → ∃ v, σ[i]? = some (some v) ∧ SlotOk K A F H O i v w
  temps : ∀ k r v, T[k]? = some (r, v) → TempOk K A F H O σ k v r
  lent : ∀ (i : Nat) (xs : List D), ρ[i]? = some (some (W.own true xs)) → σ[i]? = B.L[i]?
  nt : ∀ (k : Nat) (xs : List D) (p : Addr), T[k]? = some (.fresh xs, .ref p) → B.H p = none
  ns : ∀ (i : Nat) (xs : List D) (p : Addr), ρ[i]? = some (some (W.own false xs)) → σ[i]? = some (some (.ref p)) → B.N p
  nn : ∀ p, B.H p = none → B.N p
  tb : Tb A.T H F
def At (B : Bs) (σ : St) (ρ : Env) (T : Tmps) (H : Hp) : Prop := ∃ F O, Sep K A B σ ρ T H F O
end

/-! ### data: growing heaps -/
section
variable {K : PySem.W.Frag} {A : Ad} {B : Bs} {σ : St} {ρ : Env} {T : Tmps} {H H' F F' : Hp} {O : Addr → Option Owner}
def Sub (F F' : Hp) : Prop := ∀ b o, F b = some o → F' b = some o
theorem Sub.refl (F : Hp) : Sub F F := fun _ _ h => h
theorem Sub.trans {F F' F'' : Hp} (a : Sub F F') (b : Sub F' F'') : Sub F F'' := fun x o h => b x o (a x o h)
theorem Sub.upd {F : Hp} {p : Addr} {o : HO} (h : F p = none) : Sub F (upd F p o) := fun b u e => by
  rw [upd_ne (ne_of_none e h)]; exact e
theorem rd_sub {a : Addr} {u : HO} (e : Sub F F') (h : Rd F a u) : Rd F' a u := by
  rcases h with h | ⟨o, h⟩
  · exact .inl (e _ _ h)
  · exact .inr ⟨o, e _ _ h⟩
theorem sql_sub {a : Addr} {xs : List V} (e : Sub F F') (h : SqL K F a xs) : SqL K F' a xs := by
  rcases h with h | h
  · exact .inl (rd_sub e h)
  · exact .inr h
theorem sqt_sub {a : Addr} {xs : List V} (e : Sub F F') (h : SqT K F a xs) : SqT K F' a xs := by
  rcases h with h | h
  · exact .inl (rd_sub e h)
  · exact .inr h
mutual
theorem dp_sub (e : Sub F F') : ∀ (x : D) (v : V), Dq K F v x → Dq K F' v x
  | .none, _, h => by cases h; exact .non
  | .bool _, _, h => by cases h; exact .bl _
  | .int _, _, h => by cases h; exact .int _
  | .str _, _, h => by cases h; exact .str _
  | .list xs, _, h => by
    cases h with
    | lst h1 h2 => exact .lst (rd_sub e h1) (dpa_sub e xs _ h2)
  | .tuple xs, _, h => by
    cases h with
    | tup h1 h2 => exact .tup (sqt_sub e h1) (dpa_sub e xs _ h2)
  | .dict _, _, h => by cases h
theorem dpa_sub (e : Sub F F') : ∀ (xs : List D) (vs : List V), DqAll K F vs xs → DqAll K F' vs xs
  | [], _, h => by cases h; exact .nil
  | x :: xs, _, h => by
    cases h with
    | cons h1 h2 => exact .cons (dp_sub e x _ h1) (dpa_sub e xs _ h2)
end
theorem dpa_get : ∀ {vs : List V} {xs : List D} {i : Nat} {x : D}, DqAll K F vs xs → xs[i]? = some x → ∃ v, vs[i]? = some v ∧ Dq K F v x
  | _, _, i, x, .nil, h => by simp at h
  | _, _, 0, x, .cons h1 _, h => by simp at h; subst h; exact ⟨_, rfl, h1⟩
  | _, _, i + 1, x, .cons _ h2, h => by
    obtain ⟨v, a, b⟩ := dpa_get (i := i) (x := x) h2 (by simpa using h)
    exact ⟨v, by simpa using a, b⟩
theorem dpa_get' : ∀ {vs : List V} {xs : List D} {i : Nat} {v : V}, DqAll K F vs xs → vs[i]? = some v → ∃ x, xs[i]? = some x ∧ Dq K F v x
  | _, _, i, x, .nil, h => by simp at h
  | _, _, 0, x, .cons h1 _, h => by simp at h; subst h; exact ⟨_, rfl, h1⟩
  | _, _, i + 1, x, .cons _ h2, h => by
    obtain ⟨v, a, b⟩ := dpa_get' (i := i) (v := x) h2 (by simpa using h)
    exact ⟨v, by simpa using a, b⟩
theorem dpa_len : ∀ {vs : List V} {xs : List D}, DqAll K F vs xs → vs.length = xs.length
  | _, _, .nil => rfl
  | _, _, .cons _ h => by simp [dpa_len h]
theorem dpa_app : ∀ {vs : List V} {xs : List D} {us : List V} {ys : List D}, DqAll K F vs xs → DqAll K F us ys → DqAll K F (vs ++ us) (xs ++ ys)
  | _, _, _, _, .nil, h => h
  | _, _, _, _, .cons a b, h => .cons a (dpa_app b h)
theorem dpa_take : ∀ {vs : List V} {xs : List D} (n : Nat), DqAll K F vs xs → DqAll K F (vs.take n) (xs.take n)
  | _, _, 0, _ => .nil
  | _, _, n + 1, .nil => .nil
  | _, _, n + 1, .cons a b => .cons a (dpa_take n b)
theorem dpa_drop : ∀ {vs : List V} {xs : List D} (n : Nat), DqAll K F vs xs → DqAll K F (vs.drop n) (xs.drop n)
  | _, _, 0, h => h
  | _, _, n + 1, .nil => .nil
  | _, _, n + 1, .cons a b => dpa_drop n b
theorem dpa_set : ∀ {vs : List V} {xs : List D} (n : Nat) {v : V} {x : D}, DqAll K F vs xs → Dq K F v x → DqAll K F (vs.set n v) (xs.set n x)
  | _, _, _, _, _, .nil, _ => .nil
  | _, _, 0, _, _, .cons _ b, h => .cons h b
  | _, _, n + 1, _, _, .cons a b, h => .cons a (dpa_set n b h)

/-! ### steps of the relation -/
theorem ownAt_sub {w : Owner} {v : V} {xs : List D} (e : Sub F F') (h : OwnAt K F H O w v xs) : OwnAt K F' H O w v xs := by
  obtain ⟨p, vs, a, b, c, d⟩ := h
  exact ⟨p, vs, a, b, c, dpa_sub e _ _ d⟩
/-- a change that leaves every owned object as it is, and the owners -/
theorem ownAt_step {O' : Addr → Option Owner} {w : Owner} {v : V} {xs : List D} (e : Sub F F') (k : ∀ p, O p = some w → O' p = some w ∧ ∀ o, H p = some o → H' p = some o) (h : OwnAt K F H O w v xs) : OwnAt K F' H' O' w v xs := by
  obtain ⟨p, vs, a, b, c, d⟩ := h
  exact ⟨p, vs, a, (k p b).1, (k p b).2 _ c, dpa_sub e _ _ d⟩
theorem slotOk_step {O' : Addr → Option Owner} {i : Nat} {v : V} {w : W} (e : Sub F F') (k : ∀ p, O p = some (.slot i) → O' p = some (.slot i) ∧ ∀ o, H p = some o → H' p = some o) (h : SlotOk K A F H O i v w) : SlotOk K A F' H' O' i v w := by
  cases w with
  | d x => exact dp_sub e _ _ h
  | own l xs => exact ownAt_step e k h
  | fn f => exact h
theorem tempOk_step {O' : Addr → Option Owner} {k : Nat} {v : V} {r : R} (e : Sub F F') (q : ∀ p, O p = some (.temp k) → O' p = some (.temp k) ∧ ∀ o, H p = some o → H' p = some o) (h : TempOk K A F H O σ k v r) : TempOk K A F' H' O' σ k v r := by
  cases r with
  | d x => exact dp_sub e _ _ h
  | fresh xs => exact ownAt_step e q h
  | slot i => exact h
  | fn f => exact h

/-- fewer temporaries -/
theorem Sep.drop {T' : Tmps} (S : Sep K A B σ ρ (T ++ T') H F O) : Sep K A B σ ρ T H F O :=
  { S with
    temps := fun k r v h => S.temps k r v (by rw [List.getElem?_append_left (List.getElem?_eq_some_iff.mp h).1]; exact h)
    nt := fun k xs p h => S.nt k xs p (by rw [List.getElem?_append_left (List.getElem?_eq_some_iff.mp h).1]; exact h) }
theorem At.drop {T' : Tmps} (h : At K A B σ ρ (T ++ T') H) : At K A B σ ρ T H := let ⟨F, O, S⟩ := h; ⟨F, O, S.drop⟩
theorem Sep.top {r : R} {v : V} (S : Sep K A B σ ρ (T ++ [(r, v)]) H F O) : TempOk K A F H O σ T.length v r := S.temps _ r v (by simp)
/-- one more temporary that owns nothing -/
theorem Sep.withT {T' : Tmps} (S : Sep K A B σ ρ T H F O) (h : ∀ k r v, T'[k]? = some (r, v) → TempOk K A F H O σ k v r ∧ ∀ xs p, r = .fresh xs → v = .ref p → B.H p = none) : Sep K A B σ ρ T' H F O :=
  { S with temps := fun k r v e => (h k r v e).1, nt := fun k xs p e => (h k _ _ e).2 xs p rfl rfl }
theorem Sep.ofT (S : Sep K A B σ ρ T H F O) {k : Nat} {r : R} {v : V} (h : T[k]? = some (r, v)) : TempOk K A F H O σ k v r ∧ ∀ xs p, r = .fresh xs → v = .ref p → B.H p = none :=
  ⟨S.temps k r v h, fun xs p e1 e2 => by subst e1 e2; exact S.nt k xs p h⟩
theorem Sep.push {r : R} {v : V} (S : Sep K A B σ ρ T H F O) (h : TempOk K A F H O σ T.length v r) (hn : ∀ xs p, r = .fresh xs → v = .ref p → B.H p = none := by intro _ _ z; cases z) : Sep K A B σ ρ (T ++ [(r, v)]) H F O := by
  refine S.withT fun k r' v' e => ?_
  by_cases hk : k < T.length
  · rw [List.getElem?_append_left hk] at e
    exact S.ofT e
  · have hk' : k = T.length := by
      have := (List.getElem?_eq_some_iff.mp e).1
      simp at this; omega
    subst hk'
    simp at e
    obtain ⟨e1, e2⟩ := e
    subst e1 e2
    exact ⟨h, hn⟩
theorem Sep.fresh (S : Sep K A B σ ρ T H F O) {p : Addr} (h : H p = none) : F p = none ∧ O p = none ∧ B.H p = none := by
  refine ⟨?_, ?_, ?_⟩
  · cases e : F p with
    | none => rfl
    | some o => rw [S.fh p o e] at h; cases h
  · cases e : O p with
    | none => rfl
    | some o => exact absurd (mask_none h) (S.ho p (by rw [e]; exact Option.some_ne_none _)).2.2
  · cases e : B.H p with
    | none => rfl
    | some o => exact absurd (mask_none h) (S.h1 p (by rw [e]; exact Option.some_ne_none _))
theorem upd_ne_none {H : Hp} {p b : Addr} {o : HO} (n : nonT o) (h : mask H b ≠ none) : mask (upd H p o) b ≠ none := by
  rw [mask_upd n]
  unfold upd
  split
  · exact Option.some_ne_none _
  · exact h
theorem sub_upd2 {p : Addr} {o : HO} (h : Sub F H) : Sub (upd F p o) (upd H p o) := fun b u e => by
  by_cases hb : b = p
  · subst hb; rw [upd_same] at e ⊢; exact e
  · rw [upd_ne hb] at e ⊢; exact h b u e
/-- a new object that nobody will change -/
theorem Sep.laid (S : Sep K A B σ ρ T H F O) {p : Addr} {o : HO} (h : H p = none) (nt : nonT o) : Sep K A B σ ρ T (upd H p o) (upd F p o) O := by
  obtain ⟨f, ow, b⟩ := S.fresh h
  have up : ∀ q w, O q = some w → O q = some w ∧ ∀ u, H q = some u → upd H p o q = some u := fun q w e => ⟨e, fun u eu => by rw [upd_ne (fun z => by rw [z, h] at eu; cases eu)]; exact eu⟩
  refine ⟨sub_upd2 S.fh, fun b' u e => Sub.upd f _ _ (S.f0 b' u e), fun q e => ?_, fun q u e n => ?_, fun q e => upd_ne_none nt (S.h1 q e), fun q e => ?_, S.len, fun i w e => ?_, fun k r v e => ?_, S.lent, S.nt, S.ns, S.nn, (S.tb.new h).frz nt⟩
  · by_cases hq : q = p
    · subst hq; exact .inr (.inl b)
    · rw [upd_ne hq] at e; exact S.fn q e
  · rw [upd_ne (fun z => by rw [z, b] at e; cases e)]
    exact S.h0 q u e n
  · have hq : q ≠ p := fun z => by rw [z, ow] at e; exact e rfl
    rw [upd_ne hq, mask_upd nt, upd_ne hq]
    exact S.ho q e
  · obtain ⟨v, a, c⟩ := S.slots i w e
    exact ⟨v, a, slotOk_step (Sub.upd f) (fun q e => up q _ e) c⟩
  · exact tempOk_step (Sub.upd f) (fun q e => up q _ e) (S.temps k r v e)
def setO (O : Addr → Option Owner) (p : Addr) (w : Option Owner) : Addr → Option Owner := fun b => if b = p then w else O b
theorem setO_same {p : Addr} {w : Option Owner} : setO O p w p = w := if_pos rfl
theorem setO_ne {p q : Addr} {w : Option Owner} (h : q ≠ p) : setO O p w q = O q := if_neg h
/-- a new list of one's own, the topmost temporary -/
theorem Sep.newList (S : Sep K A B σ ρ T H F O) {p : Addr} {vs : List V} {xs : List D} (h : H p = none) (hd : DqAll K F vs xs) :
    Sep K A B σ ρ (T ++ [(.fresh xs, .ref p)]) (upd H p (.lst vs)) F (setO O p (some (.temp T.length))) := by
  obtain ⟨f, ow, b⟩ := S.fresh h
  have up : ∀ q w, O q = some w → setO O p (some (.temp T.length)) q = some w ∧ ∀ u, H q = some u → upd H p (.lst vs) q = some u := fun q w e => by
    have hq : q ≠ p := fun z => by rw [z, ow] at e; cases e
    exact ⟨by rw [setO_ne hq]; exact e, fun u eu => by rw [upd_ne hq]; exact eu⟩
  have S1 : Sep K A B σ ρ T (upd H p (.lst vs)) F (setO O p (some (.temp T.length))) := by
    refine ⟨fun q u e => ?_, S.f0, S.fn, fun q u e n => ?_, fun q e => upd_ne_none nonT_lst (S.h1 q e), fun q e => ?_, S.len, fun i w e => ?_, fun k r v e => ?_, S.lent, S.nt, S.ns, S.nn, S.tb.new h⟩
    · rw [upd_ne (fun z => by rw [z, f] at e; cases e)]; exact S.fh q u e
    · rw [upd_ne (fun z => by rw [z, b] at e; cases e)]; exact S.h0 q u e n
    · by_cases hq : q = p
      · subst hq; exact ⟨f, .inl b, by rw [mask_upd nonT_lst, upd_same]; exact Option.some_ne_none _⟩
      · rw [setO_ne hq] at e; rw [mask_upd nonT_lst, upd_ne hq]; exact S.ho q e
    · obtain ⟨v, a, c⟩ := S.slots i w e
      exact ⟨v, a, slotOk_step (Sub.refl _) (fun q e => up q _ e) c⟩
    · exact tempOk_step (Sub.refl _) (fun q e => up q _ e) (S.temps k r v e)
  exact S1.push ⟨p, vs, rfl, setO_same, upd_same, hd⟩ fun _ q _ e => by cases e; exact b
/-- what is owned is frozen: nobody will change it any more; w: whose it was -/
theorem Sep.freezeAddr {p : Addr} {w : Owner} {vs : List V} (S : Sep K A B σ ρ T H F O) (ho : O p = some w) (hp : H p = some (.lst vs))
    (ρ' : Env) (T' : Tmps) (hl : ρ'.length = ρ.length) (hL : ∀ (i : Nat) (xs : List D), ρ'[i]? = some (some (W.own true xs)) → ρ[i]? = some (some (W.own true xs))) (hs : ∀ i x, ρ'[i]? = some (some x) → ρ[i]? = some (some x) ∧ w ≠ .slot i ∨ ∃ v, σ[i]? = some (some v) ∧ SlotOk K A (upd F p (.lst vs)) H (setO O p none) i v x)
    (hn : ∀ (i : Nat) (xs : List D), ρ'[i]? = some (some (W.own false xs)) → ρ[i]? = some (some (W.own false xs))) (htn : ∀ (k : Nat) (xs : List D) (q : Addr), T'[k]? = some (.fresh xs, .ref q) → T[k]? = some (.fresh xs, .ref q))
    (ht : ∀ k r v, T'[k]? = some (r, v) → T[k]? = some (r, v) ∧ w ≠ .temp k ∨ TempOk K A (upd F p (.lst vs)) H (setO O p none) σ k v r) :
    Sep K A B σ ρ' T' H (upd F p (.lst vs)) (setO O p none) := by
  obtain ⟨f, b, _⟩ := S.ho p (by rw [ho]; exact Option.some_ne_none _)
  have up : ∀ q w', w' ≠ w → O q = some w' → setO O p none q = some w' ∧ ∀ u, H q = some u → H q = some u := fun q w' hw e => by
    have hq : q ≠ p := fun z => by rw [z, ho] at e; exact hw (Option.some.inj e).symm
    exact ⟨by rw [setO_ne hq]; exact e, fun u eu => eu⟩
  refine ⟨fun q u e => ?_, fun q u e => Sub.upd f _ _ (S.f0 q u e), fun q e => ?_, S.h0, S.h1, fun q e => ?_, S.len.trans hl.symm, fun i x e => ?_, fun k r v e => ?_, fun i xs e => S.lent i xs (hL i xs e), fun k xs q e => S.nt k xs q (htn k xs q e), fun i xs q e e2 => S.ns i xs q (hn i xs e) e2, S.nn, S.tb.frz nonT_lst⟩
  · by_cases hq : q = p
    · subst hq; rw [upd_same] at e; rw [← e]; exact hp
    · rw [upd_ne hq] at e; exact S.fh q u e
  · by_cases hq : q = p
    · subst hq; exact .inr b
    · rw [upd_ne hq] at e; exact S.fn q e
  · have hq : q ≠ p := fun z => by subst z; rw [setO_same] at e; exact e rfl
    rw [setO_ne hq] at e
    rw [upd_ne hq]
    exact S.ho q e
  · rcases hs i x e with ⟨h1, h2⟩ | h
    · obtain ⟨v, a, c⟩ := S.slots i x h1
      exact ⟨v, a, slotOk_step (Sub.upd f) (fun q e => up q _ (Ne.symm h2) e) c⟩
    · exact h
  · rcases ht k r v e with ⟨h1, h2⟩ | h
    · exact tempOk_step (Sub.upd f) (fun q e => up q _ (Ne.symm h2) e) (S.temps k r v h1)
    · exact h
theorem dp_of_lst {p : Addr} {vs : List V} {xs : List D} (f : F p = none) (h : DqAll K F vs xs) : Dq K (upd F p (.lst vs)) (.ref p) (.list xs) :=
  .lst (.inl upd_same) (dpa_sub (Sub.upd f) _ _ h)
end
end Mn
set_option Elab.async false
set_option linter.all false
set_option maxRecDepth 100000
set_option maxHeartbeats 1000000
namespace Mn
open PySem L2

/-- the data that a result is, looked at -/
def R.peek (ρ : Env) : R → Option D
  | .d x => some x
  | .fresh xs => some (.list xs)
  | .slot i => match ρ[i]? with
    | some (some (W.own _ xs)) => some (.list xs)
    | some (some (.d x)) => some x
    | _ => none
  | .fn _ => none
/-- the data that a result becomes: kept for good -/
def R.keep (ρ : Env) : R → Option (D × Env)
  | .d x => some (x, ρ)
  | .fresh xs => some (.list xs, ρ)
  | .slot i => match ρ[i]? with
    | some (some (W.own false xs)) => some (.list xs, ρ.set i (some (.d (.list xs))))
    | some (some (.d x)) => some (x, ρ)
    | _ => none
  | .fn _ => none
def R.isSlot (i : Nat) : R → Bool
  | .slot j => decide (j = i)
  | _ => false
def keepAll : List R → Env → Option (List D × Env)
  | [], ρ => some ([], ρ)
  | r :: rs, ρ => match r.keep ρ with
    | none => none
    | some (x, ρ1) => match keepAll rs ρ1 with
      | none => none
      | some (xs, ρ2) => some (x :: xs, ρ2)
/-- a slot takes a result -/
def isFree (ρ : Env) (i : Nat) : Bool := match ρ[i]? with
  | some (some (W.own true _)) => false
  | none => false
  | _ => true
def R.put (i : Nat) (ρ : Env) : R → Option Env
  | .d x => some (ρ.set i (some (.d x)))
  | .fresh xs => some (ρ.set i (some (W.own false xs)))
  | .fn f => some (ρ.set i (some (.fn f)))
  | .slot j => match (R.slot j).keep ρ with
    | none => none
    | some (x, ρ1) => some (ρ1.set i (some (.d x)))
def R.into (i : Nat) (ρ : Env) (r : R) : Option Env := if isFree ρ i then r.put i ρ else none

section
variable {K : PySem.W.Frag} {A : Ad} {B : Bs} {σ : St} {ρ ρ' : Env} {T : Tmps} {H H' F F' : Hp} {O O' : Addr → Option Owner}
theorem Sep.peek (S : Sep K A B σ ρ T H F O) {k : Nat} {r : R} {v : V} {x : D} (h : T[k]? = some (r, v)) (e : r.peek ρ = some x) : Dq K H v x := by
  have t := S.temps k r v h
  have own : ∀ w xs, OwnAt K F H O w v xs → Dq K H v (.list xs) := fun w xs ⟨p, vs, a, _, c, d⟩ => by
    subst a
    exact .lst (.inl c) (dpa_sub S.fh _ _ d)
  cases r with
  | d y => cases e; exact dp_sub S.fh _ _ t
  | fresh xs => cases e; exact own _ _ t
  | fn f => cases e
  | slot i =>
    cases q : ρ[i]? with
    | none => simp only [R.peek, q] at e; cases e
    | some w =>
      simp only [R.peek, q] at e
      cases w with
      | none => cases e
      | some w =>
        obtain ⟨v', h1, h2⟩ := S.slots i w q
        have hv : v' = v := by
          have t' : σ[i]? = some (some v) := t
          rw [t'] at h1
          exact (Option.some.inj (Option.some.inj h1)).symm
        subst hv
        cases w with
        | d y => cases e; exact dp_sub S.fh _ _ h2
        | own l xs => cases e; exact own _ _ h2
        | fn f => cases e
theorem getElem?_set_cases {α : Type} {l : List α} {i j : Nat} {a b : α} (h : (l.set i a)[j]? = some b) : (j = i ∧ b = a ∧ i < l.length) ∨ (j ≠ i ∧ l[j]? = some b) := by
  by_cases hj : j = i
  · subst hj
    by_cases hl : j < l.length
    · rw [List.getElem?_set_self hl] at h
      exact .inl ⟨rfl, (Option.some.inj h).symm, hl⟩
    · rw [List.getElem?_eq_none (by simpa using hl)] at h; cases h
  · rw [List.getElem?_set_ne (Ne.symm hj)] at h
    exact .inr ⟨hj, h⟩
/-- a temporary is kept for good -/
theorem Sep.keep (S : Sep K A B σ ρ T H F O) {k : Nat} {r : R} {v : V} {x : D} (h : T[k]? = some (r, v)) (e : r.keep ρ = some (x, ρ')) :
    ∃ F' O', Sep K A B σ ρ' (T.set k (.d x, v)) H F' O' ∧ Sub F F' ∧ (∀ q i, O q = some (.slot i) → ρ'[i]? = ρ[i]? → O' q = some (.slot i)) := by
  have t := S.temps k r v h
  have plain : ∀ y, Dq K F v y → Sep K A B σ ρ (T.set k (.d y, v)) H F O := fun y hy => S.withT fun j r' v' e' => by
    rcases getElem?_set_cases e' with ⟨_, e2, _⟩ | ⟨_, e2⟩
    · cases e2; exact ⟨hy, fun _ _ z => nomatch z⟩
    · exact S.ofT e2
  cases r with
  | d y => cases e; exact ⟨F, O, plain _ t, Sub.refl _, fun _ _ h _ => h⟩
  | fn f => cases e
  | fresh xs =>
    cases e
    obtain ⟨p, vs, a, b, c, d⟩ := t
    subst a
    have f := (S.ho p (by rw [b]; exact Option.some_ne_none _)).1
    refine ⟨_, _, S.freezeAddr b c ρ (T.set k (R.d (.list xs), V.ref p)) rfl (fun _ _ e => e) (fun i x e => .inl ⟨e, fun z => nomatch z⟩) (fun _ _ e => e) (fun j ys q e' => ?_) (fun j r' v' e' => ?_), Sub.upd f, fun q i hq _ => ?_⟩
    · rcases getElem?_set_cases e' with ⟨_, e2, _⟩ | ⟨_, e2⟩
      · cases e2
      · exact e2
    · rcases getElem?_set_cases e' with ⟨e1, e2, _⟩ | ⟨e1, e2⟩
      · cases e2
        exact .inr (dp_of_lst f d)
      · exact .inl ⟨e2, fun z => e1 (Owner.temp.inj z).symm⟩
    · rw [setO_ne (fun z => by rw [z, b] at hq; cases hq)]; exact hq
  | slot i =>
    cases q : ρ[i]? with
    | none => simp only [R.keep, q] at e; cases e
    | some w =>
      simp only [R.keep, q] at e
      cases w with
      | none => cases e
      | some w =>
        obtain ⟨v', h1, h2⟩ := S.slots i w q
        have hv : v' = v := by
          have t' : σ[i]? = some (some v) := t
          rw [t'] at h1
          exact (Option.some.inj (Option.some.inj h1)).symm
        subst hv
        cases w with
        | fn f => cases e
        | d y => cases e; exact ⟨F, O, plain _ h2, Sub.refl _, fun _ _ h _ => h⟩
        | own l xs =>
          cases l with
          | true => cases e
          | false =>
            cases e
            obtain ⟨p, vs, a, b, c, d⟩ := h2
            subst a
            have f := (S.ho p (by rw [b]; exact Option.some_ne_none _)).1
            refine ⟨_, _, S.freezeAddr b c (ρ.set i (some (W.d (.list xs)))) (T.set k (R.d (.list xs), V.ref p)) (by simp) (fun j ys e' => ?_) (fun j x e' => ?_) (fun j ys e' => ?_) (fun j ys q e' => ?_) (fun j r' v' e' => ?_), Sub.upd f, fun q' i' hq hr => ?_⟩
            · rcases getElem?_set_cases e' with ⟨_, e2, _⟩ | ⟨_, e2⟩
              · cases e2
              · exact e2
            · rcases getElem?_set_cases e' with ⟨e1, e2, _⟩ | ⟨e1, e2⟩
              · subst e1
                cases e2
                exact .inr ⟨_, t, dp_of_lst f d⟩
              · exact .inl ⟨e2, fun z => e1 (Owner.slot.inj z).symm⟩
            · rcases getElem?_set_cases e' with ⟨_, e2, _⟩ | ⟨_, e2⟩
              · cases e2
              · exact e2
            · rcases getElem?_set_cases e' with ⟨_, e2, _⟩ | ⟨_, e2⟩
              · cases e2
              · exact e2
            · rcases getElem?_set_cases e' with ⟨e1, e2, _⟩ | ⟨e1, e2⟩
              · cases e2
                exact .inr (dp_of_lst f d)
              · exact .inl ⟨e2, fun z => nomatch z⟩
            · have hq' : q' ≠ p := fun z => by
                rw [z, b] at hq
                cases hq
                rw [q, List.getElem?_set_self (List.getElem?_eq_some_iff.mp q).1] at hr
                cases hr
              rw [setO_ne hq']; exact hq
theorem keep_len {r : R} {x : D} (e : r.keep ρ = some (x, ρ')) : ρ'.length = ρ.length := by
  cases r with
  | d y => cases e; rfl
  | fn f => cases e
  | fresh xs => cases e; rfl
  | slot i =>
    simp only [R.keep] at e
    split at e <;> first | (cases e; simp) | cases e
theorem set_at_len {α : Type} {l m : List α} {a b : α} : (l ++ a :: m).set l.length b = l ++ b :: m := by simp
/-- several -/
theorem Sep.keepAll : ∀ {rs : List R} {vs : List V} {T : Tmps} {ρ ρ' : Env} {xs : List D} {F : Hp} {O : Addr → Option Owner}, Sep K A B σ ρ (T ++ rs.zip vs) H F O → vs.length = rs.length → Mn.keepAll rs ρ = some (xs, ρ') →
    ∃ F' O', Sep K A B σ ρ' (T ++ (xs.map R.d).zip vs) H F' O' ∧ Sub F F' ∧ DqAll K F' vs xs ∧ (∀ q i, O q = some (.slot i) → ρ'[i]? = ρ[i]? → (∃ w, ρ[i]? = some (some w) ∧ ∃ l ys, w = W.own l ys) → O' q = some (.slot i))
  | [], vs, T, ρ, ρ', xs, F, O, S, hl, e => by
    cases e
    cases vs with
    | nil => exact ⟨F, O, by simpa using S, Sub.refl _, .nil, fun _ _ h _ _ => h⟩
    | cons _ _ => cases hl
  | r :: rs, [], T, ρ, ρ', xs, F, O, S, hl, e => by cases hl
  | r :: rs, v :: vs, T, ρ, ρ', xs, F, O, S, hl, e => by
    unfold Mn.keepAll at e
    cases q : r.keep ρ with
    | none => rw [q] at e; cases e
    | some z =>
      obtain ⟨x, ρ1⟩ := z
      rw [q] at e
      cases q2 : Mn.keepAll rs ρ1 with
      | none => simp only [q2] at e; cases e
      | some z2 =>
        obtain ⟨xs2, ρ2⟩ := z2
        simp only [q2] at e
        cases e
        have S' : Sep K A B σ ρ (T ++ (r, v) :: rs.zip vs) H F O := S
        obtain ⟨F1, O1, S1, u1, k1⟩ := S'.keep (k := T.length) (r := r) (v := v) (by simp) q
        rw [set_at_len] at S1
        have S1' : Sep K A B σ ρ1 ((T ++ [(R.d x, v)]) ++ rs.zip vs) H F1 O1 := by simpa using S1
        obtain ⟨F2, O2, S2, u2, dd, k2⟩ := Sep.keepAll (T := T ++ [(R.d x, v)]) S1' (by simpa using hl) q2
        refine ⟨F2, O2, by simpa using S2, u1.trans u2, .cons ?_ dd, fun p i hp hr ⟨w, hw, l, ys, hy⟩ => ?_⟩
        · exact S2.temps T.length (.d x) v (by simp)
        · -- the slot i is owned all the way
          subst hy
          have mono : ∀ {r : R} {ρ ρ' : Env} {x : D} {w : W}, r.keep ρ = some (x, ρ') → ∀ (i : Nat), ρ'[i]? = some (some (W.own l ys)) → ρ[i]? = some (some (W.own l ys)) := by
            intro r ρ ρ' x w e i h
            cases r with
            | d y => cases e; exact h
            | fn f => cases e
            | fresh xs => cases e; exact h
            | slot j =>
              simp only [R.keep] at e
              split at e
              · cases e
                rcases getElem?_set_cases h with ⟨_, e2, _⟩ | ⟨_, e2⟩
                · cases e2
                · exact e2
              · cases e; exact h
              · cases e
          have monoA : ∀ {rs : List R} {ρ ρ' : Env} {xs : List D}, Mn.keepAll rs ρ = some (xs, ρ') → ∀ (i : Nat), ρ'[i]? = some (some (W.own l ys)) → ρ[i]? = some (some (W.own l ys)) := by
            intro rs
            induction rs with
            | nil => intro ρ ρ' xs e i h; cases e; exact h
            | cons r rs ih =>
              intro ρ ρ' xs e i h
              unfold Mn.keepAll at e
              cases q : r.keep ρ with
              | none => rw [q] at e; cases e
              | some z =>
                obtain ⟨x, ρ1⟩ := z
                rw [q] at e
                cases q2 : Mn.keepAll rs ρ1 with
                | none => simp only [q2] at e; cases e
                | some z2 =>
                  obtain ⟨xs2, ρ2⟩ := z2
                  simp only [q2] at e
                  cases e
                  exact mono (w := .own l ys) q i (ih q2 i h)
          have h1 : ρ1[i]? = some (some (W.own l ys)) := monoA q2 i (hr.trans hw)
          exact k2 p i (k1 p i hp (h1.trans hw.symm)) ((hr.trans hw).trans h1.symm) ⟨_, h1, l, ys, rfl⟩
end
end Mn
set_option Elab.async false
set_option linter.all false
set_option maxRecDepth 100000
set_option maxHeartbeats 1000000
namespace Mn
open PySem L2
section
variable {K : PySem.W.Frag} {A : Ad} {B : Bs} {σ σ' : St} {ρ ρ' : Env} {T : Tmps} {H H' F F' : Hp} {O O' : Addr → Option Owner}
/-- no temporary stands for a slot -/
def NoSlot (T : Tmps) : Prop := ∀ (k i : Nat) (v : V), T[k]? ≠ some (.slot i, v)
theorem NoSlot.nil : NoSlot [] := fun k i v h => by simp at h
theorem temp_set {i k : Nat} {v v' : V} {r : R} (hT : ∀ j, r ≠ .slot j) (h : TempOk K A F H O σ k v r) : TempOk K A F H O σ' k v r := by
  cases r with
  | slot j => exact absurd rfl (hT j)
  | d x => exact h
  | fresh xs => exact h
  | fn f => exact h
theorem notLent {i : Nat} {r : R} (e : r.into i ρ = some ρ') : i < ρ.length ∧ (∀ xs, ρ[i]? ≠ some (some (W.own true xs))) ∧ r.put i ρ = some ρ' := by
  unfold R.into at e
  split at e
  · rename_i hf
    cases q : ρ[i]? with
    | none => simp only [isFree, q] at hf; cases hf
    | some w =>
      refine ⟨(List.getElem?_eq_some_iff.mp q).1, fun xs h => ?_, e⟩
      cases h
      simp only [isFree, q] at hf
      cases hf
  · cases e
/-- a slot is stored, nothing new is owned -/
theorem Sep.setD (S : Sep K A B σ ρ T H F O) (hT : NoSlot T) {i : Nat} {v : V} {w : W} (hi : i < ρ.length) (nl : ∀ xs, ρ[i]? ≠ some (some (W.own true xs))) (hw : SlotOk K A F H O i v w) (nw : ∀ xs, w ≠ W.own true xs) (nf : ∀ xs p, w = W.own false xs → v = .ref p → B.N p := by intro _ _ z; cases z) :
    Sep K A B (σ.set i (some v)) (ρ.set i (some w)) T H F O := by
  refine ⟨S.fh, S.f0, S.fn, S.h0, S.h1, S.ho, by simp [S.len], fun j x e => ?_, fun k r u e => ?_, fun j xs e => ?_, S.nt, fun j xs p e e3 => ?_, S.nn, S.tb⟩
  · rcases getElem?_set_cases e with ⟨e1, e2, _⟩ | ⟨e1, e2⟩
    · subst e1; cases e2
      exact ⟨v, List.getElem?_set_self (by rw [S.len]; exact hi), hw⟩
    · obtain ⟨u, a, c⟩ := S.slots j x e2
      exact ⟨u, by rw [List.getElem?_set_ne (Ne.symm e1)]; exact a, c⟩
  · exact temp_set (i := i) (v' := v) (fun j z => hT k j u (by rw [← z]; exact e)) (S.temps k r u e)
  · rcases getElem?_set_cases e with ⟨e1, e2, _⟩ | ⟨e1, e2⟩
    · cases e2; exact absurd rfl (nw xs)
    · rw [List.getElem?_set_ne (Ne.symm e1)]
      exact S.lent j xs e2
  · rcases getElem?_set_cases e with ⟨e1, e2, _⟩ | ⟨e1, e2⟩
    · subst e1; cases e2
      rw [List.getElem?_set_self (by rw [S.len]; exact hi)] at e3
      cases e3
      exact nf xs p rfl rfl
    · rw [List.getElem?_set_ne (Ne.symm e1)] at e3
      exact S.ns j xs p e2 e3
/-- an owner hands on -/
theorem Sep.reown (S : Sep K A B σ ρ T H F O) {p : Addr} {k i : Nat} (ho : O p = some (.temp k)) (hk : ∀ r v xs, T[k]? = some (r, v) → r ≠ .fresh xs) :
    Sep K A B σ ρ T H F (setO O p (some (.slot i))) := by
  have up : ∀ q w, w ≠ .temp k → O q = some w → setO O p (some (.slot i)) q = some w ∧ ∀ u, H q = some u → H q = some u := fun q w hw e => by
    have hq : q ≠ p := fun z => by rw [z, ho] at e; exact hw (Option.some.inj e).symm
    exact ⟨by rw [setO_ne hq]; exact e, fun u eu => eu⟩
  refine ⟨S.fh, S.f0, S.fn, S.h0, S.h1, fun q e => ?_, S.len, fun j x e => ?_, fun j r u e => ?_, S.lent, S.nt, S.ns, S.nn, S.tb⟩
  · by_cases hq : q = p
    · subst hq; exact S.ho q (by rw [ho]; exact Option.some_ne_none _)
    · rw [setO_ne hq] at e; exact S.ho q e
  · obtain ⟨u, a, c⟩ := S.slots j x e
    exact ⟨u, a, slotOk_step (Sub.refl _) (fun q e => up q _ (fun z => nomatch z) e) c⟩
  · have t := S.temps j r u e
    by_cases hj : j = k
    · subst hj
      cases r with
      | d x => exact t
      | slot j => exact t
      | fn f => exact t
      | fresh xs => exact absurd rfl (hk _ _ xs e)
    · exact tempOk_step (Sub.refl _) (fun q e => up q _ (fun z => hj (Owner.temp.inj z)) e) t
theorem Sep.into {r : R} {v : V} (S : Sep K A B σ ρ (T ++ [(r, v)]) H F O) (hT : NoSlot T) {i : Nat} (e : r.into i ρ = some ρ') : At K A B (σ.set i (some v)) ρ' T H := by
  obtain ⟨hi, nl, e'⟩ := notLent e
  have t := S.top
  cases r with
  | d x => cases e'; exact ⟨F, O, S.drop.setD hT hi nl t (fun _ z => nomatch z)⟩
  | fn f => cases e'; exact ⟨F, O, S.drop.setD hT hi nl t (fun _ z => nomatch z)⟩
  | fresh xs =>
    cases e'
    obtain ⟨p, vs, a, b, c, d⟩ := t
    subst a
    have S1 := S.drop.reown (i := i) b (fun r u ys z => absurd (List.getElem?_eq_some_iff.mp z).1 (Nat.lt_irrefl _))
    exact ⟨F, _, S1.setD hT hi nl (w := W.own false xs) ⟨p, vs, rfl, setO_same, c, d⟩ (fun _ z => nomatch z) fun _ q _ e => by
      have e' : p = q := V.ref.inj e
      rw [← e']
      exact S.nn p (S.nt T.length xs p (by simp))⟩
  | slot j =>
    simp only [R.put] at e'
    cases q : (R.slot j).keep ρ with
    | none => simp only [q] at e'; cases e'
    | some z =>
      obtain ⟨x, ρ1⟩ := z
      simp only [q] at e'
      cases e'
      obtain ⟨F1, O1, S1, _, _⟩ := S.keep (k := T.length) (r := .slot j) (v := v) (by simp) q
      have S1' : Sep K A B σ ρ1 (T ++ [(R.d x, v)]) H F1 O1 := by simpa using S1
      have hl := keep_len q
      refine ⟨F1, O1, S1'.drop.setD hT (by rw [hl]; exact hi) (fun xs h => ?_) (w := W.d x) S1'.top (fun _ z => nomatch z)⟩
      refine nl xs ?_
      simp only [R.keep] at q
      split at q
      · cases q
        rcases getElem?_set_cases h with ⟨_, e2, _⟩ | ⟨_, e2⟩
        · cases e2
        · exact e2
      · cases q; exact h
      · cases q
/-- a list of one's own changes: slot i holds it -/
theorem Sep.mutate (S : Sep K A B σ ρ T H F O) {i : Nat} {l : Bool} {xs ys : List D} {p : Addr} {vs us : List V} (h : ρ[i]? = some (some (W.own l xs))) (hσ : σ[i]? = some (some (.ref p))) (hH : H p = some (.lst vs)) (hd : DqAll K F us ys) :
    Sep K A B σ (ρ.set i (some (W.own l ys))) T (upd H p (.lst us)) F O := by
  obtain ⟨v, a, p', vs', e1, e2, e3, e4⟩ := S.slots i _ h
  subst e1
  rw [hσ] at a
  cases a
  obtain ⟨f, b, _⟩ := S.ho p (by rw [e2]; exact Option.some_ne_none _)
  have up : ∀ q w, w ≠ .slot i → O q = some w → O q = some w ∧ ∀ u, H q = some u → upd H p (.lst us) q = some u := fun q w hw e => by
    have hq : q ≠ p := fun z => by rw [z, e2] at e; exact hw (Option.some.inj e).symm
    exact ⟨e, fun u eu => by rw [upd_ne hq]; exact eu⟩
  refine ⟨fun q u e => ?_, S.f0, S.fn, fun q u e n => ?_, fun q e => upd_ne_none nonT_lst (S.h1 q e), fun q e => ⟨(S.ho q e).1, (S.ho q e).2.1, upd_ne_none nonT_lst (S.ho q e).2.2⟩, by simp [S.len], fun j x e => ?_, fun k r u e => ?_, fun j zs e => ?_, S.nt, fun j zs q e e7 => ?_, S.nn, S.tb.mut hH⟩
  · rw [upd_ne (fun z => by rw [z, f] at e; cases e)]; exact S.fh q u e
  · rw [upd_ne (fun z => ?_)]
    · exact S.h0 q u e n
    · subst z
      rcases b with b | b
      · rw [b] at e; cases e
      · exact n b
  · rcases getElem?_set_cases e with ⟨e5, e6, _⟩ | ⟨e5, e6⟩
    · subst e5; cases e6
      exact ⟨_, hσ, p, us, rfl, e2, upd_same, hd⟩
    · obtain ⟨u, a, c⟩ := S.slots j x e6
      exact ⟨u, a, slotOk_step (Sub.refl _) (fun q e => up q _ (fun z => e5 (Owner.slot.inj z)) e) c⟩
  · exact tempOk_step (Sub.refl _) (fun q e => up q _ (fun z => nomatch z) e) (S.temps k r u e)
  · rcases getElem?_set_cases e with ⟨e5, e6, _⟩ | ⟨e5, e6⟩
    · subst e5; cases e6; exact S.lent j xs h
    · exact S.lent j zs e6
  · rcases getElem?_set_cases e with ⟨e5, e6, _⟩ | ⟨e5, e6⟩
    · subst e5; cases e6; exact S.ns j xs q h e7
    · exact S.ns j zs q e6 e7
/-- back from a part that ran by itself (a comprehension, a call) -/
theorem Sep.resume {P1 N1 : Addr → Prop} {L1 : St} {r : R} {v : V} {m : Nat → Nat} (S : Sep K A B σ ρ T H F O) (Sb : Sep K A (subB H F P1 L1 N1) σ' ρ' [(r, v)] H' F' O') (hP : ∀ b, P1 b → ∃ i, O b = some (.slot i)) (hr : ∀ i, r ≠ .slot i)
    {ρ2 : Env} (hl : ρ2.length = ρ.length)
    (hs : ∀ (j : Nat) (x : W), ρ2[j]? = some (some x) →
      ((ρ[j]? = some (some x) ∧ ((∀ l xs, x ≠ W.own l xs) ∨ ∀ p, O p = some (.slot j) → ¬ P1 p)) ∨
       (∃ i : Nat, ρ'[i]? = some (some x) ∧ (∀ l xs, x ≠ W.own l xs) ∧ ∃ u, σ'[i]? = some (some u) ∧ σ[j]? = some (some u)) ∨
       (∃ (i : Nat) (l l' : Bool) (xs ys : List D), x = W.own l ys ∧ ρ'[i]? = some (some (W.own l' ys)) ∧ ρ[j]? = some (some (W.own l xs)) ∧ m i = j ∧ ∃ u, σ'[i]? = some (some u) ∧ σ[j]? = some (some u) ∧ ∀ p, u = .ref p → P1 p))) :
    At K A B σ ρ2 (T ++ [(r, v)]) H' := by
  classical
  have hsub : Sub F F' := Sb.f0
  -- the new owners
  let O2 : Addr → Option Owner := fun b => match O b with
    | some (.temp k) => some (.temp k)
    | some (.slot j) => if P1 b then (match O' b with | some (.slot i) => some (.slot (m i)) | _ => none) else some (.slot j)
    | none => match O' b with
      | some (.temp _) => some (.temp T.length)
      | _ => none
  have o2t : ∀ {b k}, O b = some (.temp k) → O2 b = some (.temp k) := fun {b k} h => by show (match O b with | some (.temp k) => _ | some (.slot j) => _ | none => _) = _; rw [h]
  have o2s : ∀ {b j}, O b = some (.slot j) → ¬ P1 b → O2 b = some (.slot j) := fun {b j} h n => by show (match O b with | some (.temp k) => _ | some (.slot j) => _ | none => _) = _; rw [h]; exact if_neg n
  have o2p : ∀ {b j i}, O b = some (.slot j) → P1 b → O' b = some (.slot i) → O2 b = some (.slot (m i)) := fun {b j i} h n h' => by
    show (match O b with | some (.temp k) => _ | some (.slot j) => _ | none => _) = _
    rw [h]
    show (if P1 b then _ else _) = _
    rw [if_pos n, h']
  have o2n : ∀ {b k}, O b = none → O' b = some (.temp k) → O2 b = some (.temp T.length) := fun {b k} h h' => by show (match O b with | some (.temp k) => _ | some (.slot j) => _ | none => _) = _; rw [h]; show (match O' b with | some (.temp _) => _ | _ => _) = _; rw [h']
  -- what O2 owns
  have o2of : ∀ b, O2 b ≠ none → (O b ≠ none ∧ ¬ P1 b) ∨ O' b ≠ none := fun b h => by
    have h' : (match O b with
      | some (.temp k) => some (Owner.temp k)
      | some (.slot j) => if P1 b then (match O' b with | some (.slot i) => some (.slot (m i)) | _ => none) else some (.slot j)
      | none => match O' b with
        | some (.temp _) => some (.temp T.length)
        | _ => none) ≠ none := h
    cases q : O b with
    | none =>
      rw [q] at h'
      refine .inr fun z => ?_
      simp only [z] at h'
      exact h' rfl
    | some w =>
      cases w with
      | temp k =>
        refine .inl ⟨Option.some_ne_none _, fun z => ?_⟩
        obtain ⟨i, hi⟩ := hP b z
        rw [q] at hi; cases hi
      | slot j =>
        rw [q] at h'
        by_cases hp : P1 b
        · simp only [hp, if_true] at h'
          refine .inr fun z => ?_
          simp only [z] at h'
          exact h' rfl
        · exact .inl ⟨Option.some_ne_none _, hp⟩
  have keepH : ∀ {b o}, ¬ P1 b → nonT o → H b = some o → H' b = some o := fun {b o} n t h => Sb.h0 b o (mask_of h t) n
  have noF : ∀ {b}, ¬ P1 b → O b ≠ none → F' b = none := fun {b} n h => by
    cases e : F' b with
    | none => rfl
    | some o =>
      rcases Sb.fn b (by rw [e]; exact Option.some_ne_none _) with z | z | z
      · exact absurd (S.ho b h).1 z
      · exact absurd z (S.ho b h).2.2
      · exact absurd z n
  have temp1 : ∀ {k u x}, OwnAt K F H O (.temp k) u x → OwnAt K F' H' O2 (.temp k) u x := fun {k u x} ⟨p, vs, a, b, c, d⟩ => by
    have np : ¬ P1 p := fun z => by
      obtain ⟨i, hi⟩ := hP p z
      rw [b] at hi; cases hi
    exact ⟨p, vs, a, o2t b, keepH np nonT_lst c, dpa_sub hsub _ _ d⟩
  refine ⟨F', O2, Sb.fh, fun b o h => hsub b o (S.f0 b o h), fun b h => ?_, fun b o h n => ?_, fun b h => Sb.h1 b (S.h1 b h), fun b h => ?_, by rw [hl]; exact S.len, fun j x e => ?_, fun k r' u e => ?_, fun j xs e => ?_, fun k xs p e => ?_, fun j xs p e e9 => ?_, S.nn, Sb.tb⟩
  · rcases Sb.fn b h with z | z | z
    · exact S.fn b z
    · refine .inr (.inl ?_)
      cases e : B.H b with
      | none => rfl
      | some o => exact absurd z (S.h1 b (by rw [e]; exact Option.some_ne_none _))
    · obtain ⟨i, hi⟩ := hP b z
      exact .inr (S.ho b (by rw [hi]; exact Option.some_ne_none _)).2.1
  · refine Sb.h0 b o (mask_of (S.h0 b o h n) (B.hm b o h)) fun z => ?_
    obtain ⟨i, hi⟩ := hP b z
    rcases (S.ho b (by rw [hi]; exact Option.some_ne_none _)).2.1 with q | q
    · rw [q] at h; cases h
    · exact n q
  · rcases o2of b h with ⟨h1, h2⟩ | h1
    · obtain ⟨a, c, d⟩ := S.ho b h1
      exact ⟨noF h2 h1, c, Sb.h1 b d⟩
    · obtain ⟨a, c, d⟩ := Sb.ho b h1
      refine ⟨a, ?_, d⟩
      rcases c with c | c
      · refine .inl ?_
        cases e : B.H b with
        | none => rfl
        | some o => exact absurd c (S.h1 b (by rw [e]; exact Option.some_ne_none _))
      · obtain ⟨i, hi⟩ := hP b c
        exact (S.ho b (by rw [hi]; exact Option.some_ne_none _)).2.1
  · rcases hs j x e with ⟨h1, h2⟩ | ⟨i, h1, h2, u, h3, h4⟩ | ⟨i, l, l', xs, ys, h1, h2, h3, h4, u, h5, h6, h7⟩
    · obtain ⟨u, a, c⟩ := S.slots j x h1
      refine ⟨u, a, ?_⟩
      cases x with
      | d y => exact dp_sub hsub _ _ c
      | fn f => exact c
      | own l xs =>
        rcases h2 with h2 | h2
        · exact absurd rfl (h2 l xs)
        · obtain ⟨p, vs, a', b, c', d⟩ := c
          exact ⟨p, vs, a', o2s b (h2 p b), keepH (h2 p b) nonT_lst c', dpa_sub hsub _ _ d⟩
    · obtain ⟨u', a, c⟩ := Sb.slots i x h1
      rw [h3] at a
      cases a
      refine ⟨u, h4, ?_⟩
      cases x with
      | d y => exact c
      | fn f => exact c
      | own l xs => exact absurd rfl (h2 l xs)
    · subst h1
      obtain ⟨u', a, p, vs, e1, e2, e3, e4⟩ := Sb.slots i _ h2
      rw [h5] at a
      cases a
      subst e1
      obtain ⟨u2, a2, p2, vs2, f1, f2, f3, f4⟩ := S.slots j _ h3
      rw [h6] at a2
      cases a2
      cases f1
      refine ⟨_, h6, p, vs, rfl, ?_, e3, e4⟩
      rw [o2p f2 (h7 p rfl) e2, h4]
  · by_cases hk : k < T.length
    · rw [List.getElem?_append_left hk] at e
      have t := S.temps k r' u e
      cases r' with
      | d x => exact dp_sub hsub _ _ t
      | fresh xs => exact temp1 t
      | slot i => exact t
      | fn f => exact t
    · have hk' : k = T.length := by
        have := (List.getElem?_eq_some_iff.mp e).1
        simp at this; omega
      subst hk'
      simp at e
      obtain ⟨e1, e2⟩ := e
      subst e1 e2
      have t := Sb.temps 0 r v rfl
      cases r with
      | d x => exact t
      | fn f => exact t
      | slot i => exact absurd rfl (hr i)
      | fresh xs =>
        obtain ⟨p, vs, a, b, c, d⟩ := t
        refine ⟨p, vs, a, ?_, c, d⟩
        cases q : O p with
        | none => exact o2n q b
        | some w =>
          -- a temporary of the part is new
          exfalso
          subst a
          exact absurd (Sb.nt 0 xs p rfl) (S.ho p (by rw [q]; exact Option.some_ne_none _)).2.2
  · rcases hs j _ e with ⟨h1, _⟩ | ⟨i, h1, h2, _⟩ | ⟨i, l, l', xs', ys, h1, h2, h3, _⟩
    · exact S.lent j xs h1
    · exact absurd rfl (h2 true xs)
    · cases h1
      exact S.lent j xs' h3
  · by_cases hk : k < T.length
    · rw [List.getElem?_append_left hk] at e
      exact S.nt k xs p e
    · have hk' : k = T.length := by
        have := (List.getElem?_eq_some_iff.mp e).1
        simp at this; omega
      subst hk'
      simp at e
      obtain ⟨e1, e2⟩ := e
      subst e1 e2
      have z := Sb.nt 0 xs p rfl
      cases e : B.H p with
      | none => rfl
      | some o => exact absurd z (S.h1 p (by rw [e]; exact Option.some_ne_none _))
  · rcases hs j _ e with ⟨h1, _⟩ | ⟨i, h1, h2, _⟩ | ⟨i, l, l', xs', ys, h1, h2, h3, _⟩
    · exact S.ns j xs p h1 e9
    · exact absurd rfl (h2 false xs)
    · cases h1
      exact S.ns j xs' p h3 e9
end
end Mn
set_option Elab.async false
set_option linter.all false
set_option maxRecDepth 100000
set_option maxHeartbeats 1000000
namespace PySem.W
open PySem PySem.Calls PyProof.Rows
/-! sorted of a tuple, as of a list -/
section
variable {prog : Program} {w : World} {A : Around} {E : Value → Shared → Prop} {s : Shared} {β : Type} {vs : List Value} {bs : List β} {enc : β → PyData} {R : Value → β → Prop}
theorem collect_tup {l : Addr} {vs : List Value} {Q : List Value → Shared → Prop} (hl : s.heap.IsTuple l vs.toArray)
    (h : Q vs { s with heap := (s.heap.push (seqObj "list" #[] 0)).update s.heap.objs.size (Obj.mapSeq (· ++ vs.toArray)) }) (hsz : vs.length ≤ sizeLine := by size_fits) :
    wpAny (model prog w) A (collect (.ref l)) Q E s := by
  obtain ⟨o, ho, hc, n, hd⟩ := id hl
  unfold collect
  refine wpAny_bind (wpAny_runValue (codeAny_builtin entry_proto_collect' ?_))
  show wpAny _ _ (do again (.builtin "list.__iadd__" ⟨[← newList [], .ref l], []⟩)) _ _ s
  refine wpAny_bind (wpAny_newList (wpAny_pure ⟨Code.quiet_builtin _ (by decide +kernel), codeAny_builtin entry_list_iadd' ?_⟩))
  show wpAny _ _ (Builtin.List.listExtendWith (.ref s.heap.objs.size) (.ref l) (.ref s.heap.objs.size)) _ _ { s with heap := s.heap.push (seqObj "list" #[] 0) }
  unfold Builtin.List.listExtendWith
  have ho' : (s.heap.push (seqObj "list" #[] 0)).get? l = some o := Heap.get?_push_of_some _ ho
  refine wpAny_bind (wpAny_typeOf (T := "tuple") ⟨o, ho', hc⟩ ?_)
  have ht : (Value.type "tuple" == Value.type "tuple") = true := by rfl
  rw [if_pos (by rw [ht]; simp)]
  refine wpAny_bind (listItems_at ho' hd ?_)
  refine wpAny_bind (listItems_at (xs := #[]) (n := 0) (Heap.get?_push_size _ rfl) rfl ?_)
  rw [if_neg (by simp)]
  refine wpAny_bind (listUpdate_at (xs := #[]) (n := 0) (Heap.get?_push_size _ rfl) rfl ?_ (Nat.zero_le _) (by show (#[] ++ vs.toArray).size ≤ sizeLine + 1; simp only [Array.size_append, List.size_toArray, List.length_nil]; omega))
  refine wpAny_pure ?_
  show wpAny (model prog w) A (do
      let o ← load s.heap.objs.size
      match o.data with
      | .seq xs _ => pure xs.toList
      | _ => unsupported "internal:collect") Q E { s with heap := (s.heap.push (seqObj "list" #[] 0)).update s.heap.objs.size (Obj.mapSeq (· ++ vs.toArray)) }
  refine wpAny_bind (wpAny_load (get?_update_seq (Heap.get?_push_size _ rfl) _) ?_)
  show wpAny _ _ (pure ((#[] : Array Value) ++ vs.toArray).toList) Q E _
  rw [show ((#[] : Array Value) ++ vs.toArray).toList = vs by simp]
  exact wpAny_pure h
theorem sorted_of_sortT {l : Addr} {vs : List Value} {kw : List (Str × Value)} {Q : Value → Shared → Prop} (hl : s.heap.IsTuple l vs.toArray) (hL : vs.length ≤ sizeLine) (ha1 : argsOk "sorted" ⟨[.ref l], kw⟩) (ha2 : ∀ x, argsOk "list.sort" ⟨[.ref x], kw⟩)
    (body : ∀ E' : Value → Shared → Prop, wpAny (model prog w) A.in1.in1 (Builtin.«list.sort» ⟨[.ref (s.heap.objs.size + 1)], kw⟩) (fun f s' => f = .done (.ret .none) ∧ Q (.ref (s.heap.objs.size + 1)) s') E' { s with heap := copyHeap s.heap vs }) :
    wpAny (model prog w) A (call (.builtin "sorted") [.ref l] kw) Q E s := by
  refine call_function_entry_kw kind_sorted plain_sorted entry_sorted ha1 ?_
  unfold Builtin.«sorted»
  refine wpAny_bind (m := checkCount "sorted" 1 1 _) (wpAny_pure ?_)
  refine wpAny_bind (collect_tup hl ?_ hL)
  refine wpAny_bind (wpAny_newList ?_ hL)
  have hsz : ((s.heap.push (seqObj "list" #[] 0)).update s.heap.objs.size (Obj.mapSeq (· ++ vs.toArray))).objs.size = s.heap.objs.size + 1 := by
    rw [Heap.size_update, size_push']
  show wpAny _ _ _ _ _ { s with heap := copyHeap s.heap vs }
  rw [hsz]
  refine wpAny_bind (wpAny_holding (wpAny_call_entry_kw slot_list_sort ⟨_, copyHeap_at s.heap vs, rfl⟩ entry_list_sort ?body (ha2 _)))
  case body =>
    show wpAny (model prog w) A.in1.in1 (Builtin.«list.sort» ⟨[.ref (s.heap.objs.size + 1)], kw⟩) _ _ _
    refine wpAny_mono (body _) (fun f s' hf => ?_) fun _ _ e => e
    obtain ⟨rfl, hq⟩ := hf
    exact ⟨_, rfl, wpAny_pure ⟨_, rfl, hq⟩⟩
theorem sorted_dataT {l : Addr} {Q : Value → Shared → Prop} (hl : s.heap.IsTuple l vs.toArray) (e : EachIs R vs bs) (er : EachIs (fun v b => ∃ as, Reads s.heap v (enc b) as) vs bs) (hal : AllAlike (bs.map enc)) (hk : Sortable (bs.map enc)) (hL : bs.length ≤ sizeLine)
    (hu : ∀ b, b ∈ bs → A.units + 2 + (enc b).depth < cLine) (h : ∀ out, out.length = bs.length → EachIs R out (bs.mergeSort (dataLe false enc)) → Q (.ref (s.heap.objs.size + 1)) { s with heap := sortedAll s.heap vs (List.toArray out) }) :
    wpAny (model prog w) A (call (.builtin "sorted") [.ref l]) Q E s := by
  have er' : EachIs (fun v b => ∃ as, Reads (sortingHeap (copyHeap s.heap vs) (s.heap.objs.size + 1) vs) v (enc b) as) vs bs := er.mono fun _ _ ⟨as, r⟩ => ⟨as, PyProof.Rows.Reads.keeps (fun _ _ => sorting_copy_old) r⟩
  have hLv : vs.length ≤ sizeLine := by rw [e.length]; exact hL
  have S := SortsAt.data (prog := prog) (w := w) (A := A.in1.in1) (s := { s with heap := sortingHeap (copyHeap s.heap vs) (s.heap.objs.size + 1) vs }) (each_map (R := fun v d => ∃ as, Reads (sortingHeap (copyHeap s.heap vs) (s.heap.objs.size + 1) vs) v d as) enc er') hal hk (bound_map (A := A.in1.in1) hu)
  exact sorted_of_sortT hl hLv (args_sorted1 _) (fun _ => args_list_sort _) fun _ => list_sort_vals (s := { s with heap := copyHeap s.heap vs }) (copyHeap_at s.heap vs) S hLv ⟨rfl, h _ (by rw [sortVals_length false rfl]; exact e.length) (sortVals_data false e er' hal)⟩
end
end PySem.W
set_option Elab.async false
set_option linter.all false
set_option maxRecDepth 100000
set_option maxHeartbeats 1000000
namespace Mn
open PySem L2

/-! ## the small language -/
inductive Op2 where
  | add | sub | mul | mod | fdiv | pow
  deriving DecidableEq
inductive Cp where
  | eq | ne | lt | le | gt | ge | isin | notin
  deriving DecidableEq
/-- built-ins that take data and give data -/
inductive Blt where
  | len | abs | int | tuple | list | sorted | repr | all | any | isStr | isTup | sset | min2 | max2 | rngL1 | rngL2
  deriving DecidableEq
/-- targets: a slot; a row of slots -/
inductive Tg where
  | one (i : Nat) | row (is : List Nat)
mutual
inductive E where
  | non | bl (b : Bool) | int (i : Int) | str (s : Str)
  | var (i : Nat) | glo (x : Str) | fn (x : Str)
  | tup (es : Es) | lst (es : Es)
  | op (o : Op2) (a b : E) | rep (a b : E)
  | ite (c : C) (a b : E)
  | call (f : Str) (es : Es)
  | callV (i : Nat) (es : Es)
  | sortK (f : Str) (e : E)
  | blt (b : Blt) (es : Es)
  | idx (a i : E)
  | slc (a : E) (lo hi : Oe)
  | lc (elt : E) (tg : Tg) (it : I) (c : Oc) (own : List Nat)
  | lc2 (elt : E) (t1 : Tg) (i1 : I) (c1 : Oc) (t2 : Tg) (i2 : I) (c2 : Oc) (own own2 : List Nat)
  | ofC (c : C)
  | andV (a b : E) | orV (a b : E)
  | app (i : Nat) (e : E) | ext (i : Nat) (e : E) | ins (i : Nat) (a e : E) | pop (i : Nat)
  | heard (g : Str) (body : E)
inductive Es where
  | nil | cons (e : E) (es : Es)
inductive Oe where
  | none | some (e : E)
inductive Oc where
  | yes | some (c : C)
inductive C where
  | cmp (o : Cp) (a b : E)
  | chain (o o' : Cp) (a b c : E)
  | and (a b : C) | or (a b : C) | not (a : C)
  | tru (e : E)
  | isN (e : E) | notN (e : E)
inductive I where
  | seq (e : E) | rng1 (e : E) | rng2 (a b : E) | zip (a b : E) | enum (a : E)
end
mutual
inductive S where
  | set (i : Nat) (e : E)
  | unp (is : List Nat) (lst : Bool) (e : E)
  | par (i j : Nat) (a b : E)
  | aug (i : Nat) (o : Op2) (e : E)
  | setX (i : Nat) (ix e : E)
  | augX (i : Nat) (ix : E) (o : Op2) (e : E)
  | expr (e : E)
  | iff (c : C) (a b : Ss)
  | for_ (tg : Tg) (it : I) (b : Ss)
  | whil (c : C) (b : Ss)
  | ret (e : E) | retN
  | raise (x : Str)
  | pass | brk | cnt
inductive Ss where
  | nil | cons (s : S) (ss : Ss)
end

/-! ## what it computes -/
def LIM : Nat := 1000000
inductive CRes where
  | ret (r : R) (o : Option (List D)) | ex (c : Str) | stuck
structure Ctx where
  glo : Str → Option D
  isFn : Str → Bool
  lend : Str → Bool
  ar : Str → Option Nat
  call : Bool → Str → List W → CRes
  /-- g(lambda: ..): what it makes of what the lambda gave -/
  told : Str → Option (List (Str × D))
  wf : Nat
  g : Bool

def Res.bind {α β : Type} : Res α → (α → Res β) → Res β
  | .ok a, f => f a
  | .ex c ρ, _ => .ex c ρ
  | .stuck, _ => .stuck
instance : Monad Res where
  pure := .ok
  bind := Res.bind
def Res.of {α : Type} : Option α → Res α
  | some a => .ok a
  | none => .stuck

def strList (s : Str) : List D := s.cps.toList.map fun c => .str ⟨#[c]⟩
def bigOk (i j : Int) : Bool := decide (-(2 ^ 64) < i ∧ i < 2 ^ 64) || decide (-(2 ^ 64) < j ∧ j < 2 ^ 64)
def opD : Op2 → D → D → Option R
  | .add, .int i, .int j => some (.d (.int (i + j)))
  | .sub, .int i, .int j => some (.d (.int (i - j)))
  | .mul, .int i, .int j => if bigOk i j then some (.d (.int (i * j))) else none
  | .mod, .int i, .int j => if j ≠ 0 then some (.d (.int (i.fmod j))) else none
  | .fdiv, .int i, .int j => if j ≠ 0 ∧ j.natAbs < 1073741824 then some (.d (.int (i.fdiv j))) else none
  | .pow, .int i, .int j => if 0 ≤ j ∧ j ≤ 1000000 ∧ i.natAbs < 2 ^ 64 then some (.d (.int (i ^ j.toNat))) else none
  | .add, .str a, .str b => if a.length + b.length ≤ LIM then some (.d (.str (a ++ b))) else none
  | .add, .list a, .list b => if a.length + b.length ≤ LIM then some (.fresh (a ++ b)) else none
  | .add, .tuple a, .tuple b => if a.length + b.length ≤ LIM ∧ a ≠ [] then some (.d (.tuple (a ++ b))) else none
  | _, _, _ => none
def isNoneD : D → Bool
  | .none => true
  | _ => false
def cmpD : Cp → D → D → Option Bool
  | .eq, a, b => if SeqAt.shaped a && SeqAt.shaped b then some (PyData.eqv a b) else none
  | .ne, a, b => if SeqAt.shaped a && SeqAt.shaped b then some (!PyData.eqv a b) else none
  | .lt, .int i, .int j => some (decide (i < j))
  | .le, .int i, .int j => some (decide (i ≤ j))
  | .gt, .int i, .int j => some (decide (j < i))
  | .ge, .int i, .int j => some (decide (j ≤ i))
  | .lt, a, b => if PySem.W.alike a b && !isNoneD a && decide (a.depth ≤ 60) then some (PySem.W.dataLt a b) else none
  | .isin, .str a, .str b => match a.cps.toList with
    | [c] => some (decide (c ∈ b.cps.toList))
    | _ => none
  | .notin, .str a, .str b => match a.cps.toList with
    | [c] => some (!decide (c ∈ b.cps.toList))
    | _ => none
  | .isin, a, .list xs => if SeqAt.shaped a && SeqAt.shaped (.list xs) then some (xs.any fun x => PyData.eqv x a) else none
  | .isin, a, .tuple xs => if SeqAt.shaped a && SeqAt.shaped (.tuple xs) then some (xs.any fun x => PyData.eqv x a) else none
  | .notin, a, .list xs => if SeqAt.shaped a && SeqAt.shaped (.list xs) then some (!xs.any fun x => PyData.eqv x a) else none
  | .notin, a, .tuple xs => if SeqAt.shaped a && SeqAt.shaped (.tuple xs) then some (!xs.any fun x => PyData.eqv x a) else none
  | _, _, _ => none
def truD : D → Option Bool
  | .none => some false
  | .bool b => some b
  | .int i => some (i != 0)
  | .str s => if s.length ≤ LIM then some ((s.length : Int) != 0) else none
  | .list xs => some !xs.isEmpty
  | .tuple xs => some !xs.isEmpty
  | .dict _ => none
def idxD : D → D → Option D
  | .list xs, .int i => atI xs i
  | .tuple xs, .int i => atI xs i
  | .str s, .int i => if s.length ≤ LIM then (atI s.cps.toList i).map fun c => .str ⟨#[c]⟩ else none
  | _, _ => none
/-- xs[lo:hi] -/
def cutL {α : Type} (xs : List α) (lo hi : Option Int) : List α :=
  (xs.drop (HT.sIx xs.length 0 lo)).take (HT.sIx xs.length xs.length hi - HT.sIx xs.length 0 lo)
def slcD : D → Option Int → Option Int → Option R
  | .list xs, lo, hi => some (.fresh (cutL xs lo hi))
  | .tuple xs, lo, hi => some (.d (.tuple (cutL xs lo hi)))
  | .str s, lo, hi => if s.length ≤ LIM then some (.d (.str (cutS s lo hi))) else none
  | _, _, _ => none
def itemsD : D → Option (List D)
  | .list xs => some xs
  | .tuple xs => some xs
  | .str s => some (strList s)
  | _ => none
def boolsD : List D → Option (List Bool)
  | [] => some []
  | .bool b :: r => (boolsD r).map (b :: ·)
  | _ => none
/-- sorted of data of one kind -/
def isNeTup : D → Bool
  | .tuple (_ :: _) => true
  | _ => false
def isTupNon : D → Bool
  | .tuple _ => true
  | .none => true
  | _ => false
def sortOk (xs : List D) : Bool := (xs.all fun a => xs.all fun b => PySem.W.alike a b) && (xs.all isNeTup || xs.all fun a => !isTupNon a) && decide (xs.length ≤ LIM) && xs.all fun a => decide (a.depth ≤ 60)
/-- a stable sort that the kernel can reckon -/
def ins {α : Type} (le : α → α → Bool) (x : α) : List α → List α
  | [] => [x]
  | y :: ys => if le x y then x :: y :: ys else y :: ins le x ys
def isort {α : Type} (le : α → α → Bool) : List α → List α
  | [] => []
  | x :: xs => ins le x (isort le xs)
theorem ins_split {α : Type} {le : α → α → Bool} {x : α} : ∀ {l1 l2 : List α}, (∀ b, b ∈ l1 → le x b = false) → (∀ b, b ∈ l2 → le x b = true) → ins le x (l1 ++ l2) = l1 ++ x :: l2
  | [], [], _, _ => rfl
  | [], y :: l2, _, h => by
    show (if le x y then _ else _) = _
    rw [if_pos (h y List.mem_cons_self)]
    rfl
  | y :: l1, l2, h, h2 => by
    show (if le x y then _ else y :: ins le x (l1 ++ l2)) = _
    rw [if_neg (by rw [h y List.mem_cons_self]; exact Bool.false_ne_true), ins_split (fun b hb => h b (List.mem_cons_of_mem _ hb)) h2]
    rfl
theorem isort_eq {α : Type} {le : α → α → Bool} (tr : ∀ a b c, le a b = true → le b c = true → le a c = true) (tot : ∀ a b, (le a b || le b a) = true) : ∀ l : List α, isort le l = l.mergeSort le
  | [] => by simp [isort]
  | x :: xs => by
    obtain ⟨l1, l2, e1, e2, e3⟩ := List.mergeSort_cons (le := le) tr tot x xs
    have pw := List.pairwise_mergeSort tr tot (x :: xs)
    rw [e1] at pw
    show ins le x (isort le xs) = _
    rw [isort_eq tr tot xs, e2, e1]
    refine ins_split (fun b hb => by simpa using e3 b hb) fun b hb => ?_
    have := (List.pairwise_append.mp pw).2.1
    exact (List.pairwise_cons.mp this).1 b hb
theorem leD_total {β : Type} (k : β → D) : PySem.W.TotalLe (PySem.W.dataLe false k) := PySem.W.sortLe_total _ false _
theorem isort_leD {β : Type} (k : β → D) (l : List β) : isort (PySem.W.dataLe false k) l = l.mergeSort (PySem.W.dataLe false k) := isort_eq (leD_total k).trans (fun a b => by simpa using (leD_total k).total a b) l
def sortD (xs : List D) : List D := isort (PySem.W.dataLe false fun d => d) xs
theorem sortD_eq (xs : List D) : sortD xs = xs.mergeSort (PySem.W.dataLe false fun d => d) := isort_leD _ xs
def dedup : List D → List D
  | [] => []
  | x :: xs => if (dedup xs).any (fun y => PyData.eqv y x) then dedup xs else x :: dedup xs
mutual
/-- data of ints, texts and tuples alone -/
def isKeyD : D → Bool
  | .int _ => true
  | .str _ => true
  | .tuple xs => areKeysD xs
  | _ => false
def areKeysD : List D → Bool
  | [] => true
  | x :: xs => isKeyD x && areKeysD xs
end
def setKey : D → Bool
  | .tuple xs => areKeysD xs && decide ((PyData.tuple xs).depth ≤ 8)
  | _ => false
def isSeqD : D → Bool
  | .list _ => true
  | .tuple _ => true
  | _ => false
def bltD (g : Bool) : Blt → List D → Option R
  | .len, [.list xs] => some (.d (.int xs.length))
  | .len, [.tuple xs] => some (.d (.int xs.length))
  | .len, [.str s] => if s.length ≤ LIM then some (.d (.int s.length)) else none
  | .abs, [.int i] => some (.d (.int (if i < 0 then -i else i)))
  | .int, [.int i] => some (.d (.int i))
  | .int, [.bool b] => some (.d (.int (if b = true then 1 else 0)))
  | .tuple, [.list xs] => some (.d (.tuple xs))
  | .tuple, [.tuple xs] => some (.d (.tuple xs))
  | .list, [.list xs] => some (.fresh xs)
  | .list, [.tuple xs] => some (.fresh xs)
  | .sorted, [.list xs] => if sortOk xs then some (.fresh (sortD xs)) else none
  | .sorted, [.tuple xs] => if sortOk xs then some (.fresh (sortD xs)) else none
  | .sset, [.list xs] => if sortOk xs && xs.all setKey && decide (xs.length < 64) then some (.fresh (sortD (dedup xs))) else none
  | .repr, [d] => if g && d.showable && !d.hasDict && decide (d.depth ≤ 60) && decide (d.shown.length ≤ sizeLine) then some (.d (.str d.shown)) else none
  | .rngL1, [.int j] => if -(LIM : Int) ≤ j ∧ j ≤ LIM then some (.fresh ((List.range j.toNat).map fun (k : Nat) => .int k)) else none
  | .rngL2, [.int i, .int j] => if (-(LIM : Int) ≤ i ∧ i ≤ LIM) ∧ -(LIM : Int) ≤ j ∧ j ≤ LIM then some (.fresh ((List.range (j - i).toNat).map fun (k : Nat) => .int (i + k))) else none
  | .all, [.list xs] => (boolsD xs).map fun bs => .d (.bool (bs.all id))
  | .any, [.list xs] => (boolsD xs).map fun bs => .d (.bool (bs.any id))
  | .isStr, [.str _] => some (.d (.bool true))
  | .isStr, [_] => some (.d (.bool false))
  | .isTup, [.tuple _] => some (.d (.bool true))
  | .isTup, [_] => some (.d (.bool false))
  | .min2, [.int i, .int j] => some (.d (.int (if j < i then j else i)))
  | .max2, [.int i, .int j] => some (.d (.int (if j > i then j else i)))
  | _, _ => none
def peekAll (ρ : Env) : List R → Option (List D)
  | [] => some []
  | r :: rs => match r.peek ρ, peekAll ρ rs with
    | some x, some xs => some (x :: xs)
    | _, _ => none

/-! ### slots in parts that run by themselves -/
def wipeE (ρ : Env) : List Nat → Env
  | [] => ρ
  | v :: vs => (wipeE ρ vs).set v none
def noOwn : Option W → Option W
  | some (.own _ _) => none
  | w => w
def back1 : Option W → Option W → Option W
  | some (.own l _), some (.own _ ys) => some (.own l ys)
  | _, some (.own _ _) => none
  | _, w => w
/-- behind a comprehension: its own slots are as they were, the others as they are -/
def backE (own : List Nat) : Nat → Env → Env → Env
  | _, [], _ => []
  | _, w :: ρ, [] => none :: ρ.map fun _ => none
  | k, w :: ρ, u :: ρn => (if own.contains k then noOwn w else back1 w u) :: backE own (k + 1) ρ ρn
def Tg.set (ρ : Env) (x : D) : Tg → Option Env
  | .one i => (R.d x).into i ρ
  | .row is => match x with
    | .tuple xs => setRow is xs ρ
    | _ => none
where setRow : List Nat → List D → Env → Option Env
  | [], [], ρ => some ρ
  | i :: is, x :: xs, ρ => match (R.d x).into i ρ with
    | some ρ1 => setRow is xs ρ1
    | none => none
  | _, _, _ => none
/-- the turns of a comprehension -/
def lcLoop (f : D → Env → Res (Option D × Env)) : List D → List D → Env → Res (List D × Env)
  | [], acc, ρ => .ok (acc, ρ)
  | x :: xs, acc, ρ => match f x ρ with
    | .ok (some y, ρ1) => if acc.length < LIM then lcLoop f xs (acc ++ [y]) ρ1 else .stuck
    | .ok (none, ρ1) => lcLoop f xs acc ρ1
    | _ => .stuck
def lc2Loop (f : D → List D → Env → Res (List D × Env)) : List D → List D → Env → Res (List D × Env)
  | [], acc, ρ => .ok (acc, ρ)
  | x :: xs, acc, ρ => match f x acc ρ with
    | .ok (acc1, ρ1) => lc2Loop f xs acc1 ρ1
    | _ => .stuck
def keepR (p : R × Env) : Res (D × Env) := Res.of (p.1.keep p.2)
/-- arguments: data, defs -/
def passAll : List R → Env → Option (List W × Env)
  | [], ρ => some ([], ρ)
  | .fn f :: rs, ρ => match passAll rs ρ with
    | none => none
    | some (ws, ρ2) => some (.fn f :: ws, ρ2)
  | r :: rs, ρ => match r.keep ρ with
    | none => none
    | some (x, ρ1) => match passAll rs ρ1 with
      | none => none
      | some (ws, ρ2) => some (.d x :: ws, ρ2)
/-- a call -/
def callF (Γ : Ctx) (f : Str) (rs : List R) (ρ : Env) : Res (R × Env) :=
  if Γ.lend f then match rs with
    | .slot i :: rest => match ρ[i]?, keepAll rest ρ with
      | some (some (.own l xs)), some (ds, ρ1) => match ρ1[i]? with
        | some (some (.own _ _)) => match Γ.call Γ.g f (.own true xs :: ds.map .d) with
          | .ret (.slot _) _ => .stuck
          | .ret r (some ys) => .ok (r, ρ1.set i (some (.own l ys)))
          | _ => .stuck
        | _ => .stuck
      | _, _ => .stuck
    | _ => .stuck
  else match passAll rs ρ with
    | some (ws, ρ1) => match Γ.call Γ.g f ws with
      | .ret (.slot _) _ => .stuck
      | .ret r _ => .ok (r, ρ1)
      | .ex c => .ex c ρ1
      | .stuck => .stuck
    | none => .stuck
def lookupEx (c : Str) : List (Str × D) → Option D
  | [] => none
  | (x, d) :: r => if x = c then some d else lookupEx c r

def Es.len : Es → Nat
  | .nil => 0
  | .cons _ es => es.len + 1
/-- the keys that a def gives -/
def keysBy (call : List W → CRes) : List D → Option (List D)
  | [] => some []
  | x :: xs => match call [.d x], keysBy call xs with
    | .ret (.d k) none, some ks => some (k :: ks)
    | _, _ => none
mutual
def noListD : D → Bool
  | .list _ => false
  | .dict _ => false
  | .tuple xs => noListsD xs
  | _ => true
def noListsD : List D → Bool
  | [] => true
  | x :: xs => noListD x && noListsD xs
end
def sortByK (xs ks : List D) : List D := (isort (PySem.W.dataLe false fun p => p.2) (xs.zip ks)).map (·.1)
theorem sortByK_eq (xs ks : List D) : sortByK xs ks = ((xs.zip ks).mergeSort (PySem.W.dataLe false fun p => p.2)).map (·.1) := by
  unfold sortByK
  rw [isort_leD]
mutual
def evE (Γ : Ctx) : E → Env → Res (R × Env)
  | .non, ρ => .ok (.d .none, ρ)
  | .bl b, ρ => .ok (.d (.bool b), ρ)
  | .int i, ρ => .ok (.d (.int i), ρ)
  | .str s, ρ => .ok (.d (.str s), ρ)
  | .var i, ρ => match ρ[i]? with
    | some (some (.d x)) => .ok (.d x, ρ)
    | some (some (.own _ _)) => .ok (.slot i, ρ)
    | some (some (.fn f)) => .ok (.fn f, ρ)
    | _ => .stuck
  | .glo x, ρ => match Γ.glo x with
    | some d => .ok (.d d, ρ)
    | none => .stuck
  | .fn x, ρ => if Γ.isFn x then .ok (.fn x, ρ) else .stuck
  | .tup es, ρ => do
    let (rs, ρ) ← evEs Γ es ρ
    let (xs, ρ) ← Res.of (keepAll rs ρ)
    if xs.length ≤ LIM then .ok (.d (.tuple xs), ρ) else .stuck
  | .lst es, ρ => do
    let (rs, ρ) ← evEs Γ es ρ
    let (xs, ρ) ← Res.of (keepAll rs ρ)
    if xs.length ≤ LIM then .ok (.fresh xs, ρ) else .stuck
  | .op o a b, ρ => do
    let (x, ρ) ← evE Γ a ρ
    let (y, ρ) ← evE Γ b ρ
    let u ← Res.of (x.peek ρ)
    let v ← Res.of (y.peek ρ)
    let r ← Res.of (opD o u v)
    .ok (r, ρ)
  | .rep a b, ρ => do
    let (x, ρ) ← evE Γ a ρ
    let (y, ρ) ← evE Γ b ρ
    match x, y with
    | .fresh xs, .d (.int j) => if 0 ≤ j ∧ j ≤ 1000 ∧ xs.length ≤ 1000 then .ok (.fresh ((List.replicate j.toNat xs).flatten), ρ) else .stuck
    | _, _ => .stuck
  | .ite c a b, ρ => do
    let (t, ρ) ← evC Γ c ρ
    if t then evE Γ a ρ else evE Γ b ρ
  | .call f es, ρ => do
    let (rs, ρ) ← evEs Γ es ρ
    callF Γ f rs ρ
  | .callV i es, ρ => match ρ[i]? with
    | some (some (.fn f)) => if Γ.ar f = some es.len then do
      let (rs, ρ) ← evEs Γ es ρ
      callF Γ f rs ρ else .stuck
    | _ => .stuck
  | .sortK f e, ρ => do
    let (x, ρ) ← evE Γ e ρ
    let u ← Res.of (x.peek ρ)
    match u with
    | .list xs => do
      let ks ← Res.of (keysBy (Γ.call Γ.g f) xs)
      if (sortOk ks && noListsD ks) = true then .ok (.fresh (sortByK xs ks), ρ) else .stuck
    | _ => .stuck
  | .blt b es, ρ => do
    let (rs, ρ) ← evEs Γ es ρ
    let xs ← Res.of (peekAll ρ rs)
    let r ← Res.of (bltD Γ.g b xs)
    .ok (r, ρ)
  | .idx a i, ρ => do
    let (x, ρ) ← evE Γ a ρ
    let (y, ρ) ← evE Γ i ρ
    let u ← Res.of (x.peek ρ)
    let v ← Res.of (y.peek ρ)
    let r ← Res.of (idxD u v)
    .ok (.d r, ρ)
  | .slc a lo hi, ρ => do
    let (x, ρ) ← evE Γ a ρ
    let (l, ρ) ← evO Γ lo ρ
    let (h, ρ) ← evO Γ hi ρ
    let u ← Res.of (x.peek ρ)
    let r ← Res.of (slcD u l h)
    .ok (r, ρ)
  | .lc elt tg it c own, ρ => do
    let (xs, ρ) ← evI Γ it ρ
    let (ys, ρn) ← lcLoop (fun x ρ => do
      let ρ ← Res.of (tg.set ρ x)
      let (b, ρ) ← evOc Γ c ρ
      if b then do
        let p ← evE Γ elt ρ
        let (y, ρ) ← keepR p
        .ok (some y, wipeE ρ own)
      else .ok (none, wipeE ρ own)) xs [] (wipeE ρ own)
    .ok (.fresh ys, backE own 0 ρ ρn)
  | .lc2 elt t1 i1 c1 t2 i2 c2 own own2, ρ => do
    let (xs, ρ) ← evI Γ i1 ρ
    let (ys, ρn) ← lc2Loop (fun x acc ρ => do
      let ρ ← Res.of (t1.set ρ x)
      let (b, ρ) ← evOc Γ c1 ρ
      if b then do
        let (zs, ρ) ← evI Γ i2 ρ
        let (acc, ρ) ← lcLoop (fun x ρ => do
          let ρ ← Res.of (t2.set ρ x)
          let (b, ρ) ← evOc Γ c2 ρ
          if b then do
            let p ← evE Γ elt ρ
            let (y, ρ) ← keepR p
            .ok (some y, wipeE ρ own2)
          else .ok (none, wipeE ρ own2)) zs acc (wipeE ρ own2)
        .ok (acc, wipeE ρ own)
      else .ok (acc, wipeE ρ own)) xs [] (wipeE ρ own)
    .ok (.fresh ys, backE own 0 ρ ρn)
  | .ofC c, ρ => do
    let (b, ρ) ← evC Γ c ρ
    .ok (.d (.bool b), ρ)
  | .andV a b, ρ => do
    let (x, ρ) ← evE Γ a ρ
    match x with
    | .d (.bool true) => evE Γ b ρ
    | .d (.bool false) => .ok (.d (.bool false), ρ)
    | _ => .stuck
  | .orV a b, ρ => do
    let (x, ρ) ← evE Γ a ρ
    match x with
    | .d (.bool false) => evE Γ b ρ
    | .d (.bool true) => .ok (.d (.bool true), ρ)
    | _ => .stuck
  | .app i e, ρ => match ρ[i]? with
    | some (some (.own _ _)) => do
      let p ← evE Γ e ρ
      let (y, ρ) ← keepR p
      match ρ[i]? with
      | some (some (.own l xs)) => if xs.length < LIM then .ok (.d .none, ρ.set i (some (.own l (xs ++ [y])))) else .stuck
      | _ => .stuck
    | _ => .stuck
  | .ext i e, ρ => match ρ[i]? with
    | some (some (.own _ _)) => do
      let (x, ρ) ← evE Γ e ρ
      let u ← Res.of (x.peek ρ)
      match ρ[i]?, u with
      | some (some (.own l xs)), .list ys => if x.isSlot i = false ∧ xs.length + ys.length ≤ LIM then .ok (.d .none, ρ.set i (some (.own l (xs ++ ys)))) else .stuck
      | some (some (.own l xs)), .tuple ys => if xs.length + ys.length ≤ LIM then .ok (.d .none, ρ.set i (some (.own l (xs ++ ys)))) else .stuck
      | _, _ => .stuck
    | _ => .stuck
  | .ins i a e, ρ => match ρ[i]? with
    | some (some (.own _ _)) => do
      let (x, ρ) ← evE Γ a ρ
      let p ← evE Γ e ρ
      let (y, ρ) ← keepR p
      match ρ[i]?, x with
      | some (some (.own l xs)), .d (.int j) => if 0 ≤ j ∧ j ≤ LIM ∧ xs.length < LIM then .ok (.d .none, ρ.set i (some (.own l (xs.take j.toNat ++ [y] ++ xs.drop j.toNat)))) else .stuck
      | _, _ => .stuck
    | _ => .stuck
  | .pop i, ρ => match ρ[i]? with
    | some (some (.own l xs)) => match xs.getLast? with
      | some y => .ok (.d y, ρ.set i (some (.own l xs.dropLast)))
      | none => .stuck
    | _ => .stuck
  | .heard g body, ρ => match Γ.told g with
    | none => .stuck
    | some hs => match evE { Γ with g := false, told := fun _ => none } body (wipeE ρ []) with
      | .ok p => match p.1.keep p.2 with
        | some (y, ρ1) => .ok (.d (.tuple [.str "told", y]), backE [] 0 ρ ρ1)
        | none => .stuck
      | .ex c ρ1 => match lookupEx c hs with
        | some d => .ok (.d d, backE [] 0 ρ ρ1)
        | none => .stuck
      | .stuck => .stuck
def evEs (Γ : Ctx) : Es → Env → Res (List R × Env)
  | .nil, ρ => .ok ([], ρ)
  | .cons e es, ρ => do
    let (r, ρ) ← evE Γ e ρ
    let (rs, ρ) ← evEs Γ es ρ
    .ok (r :: rs, ρ)
def evO (Γ : Ctx) : Oe → Env → Res (Option Int × Env)
  | .none, ρ => .ok (none, ρ)
  | .some e, ρ => do
    let (r, ρ) ← evE Γ e ρ
    match r with
    | .d (.int i) => .ok (some i, ρ)
    | _ => .stuck
def evOc (Γ : Ctx) : Oc → Env → Res (Bool × Env)
  | .yes, ρ => .ok (true, ρ)
  | .some c, ρ => evC Γ c ρ
def evC (Γ : Ctx) : C → Env → Res (Bool × Env)
  | .cmp o a b, ρ => do
    let (x, ρ) ← evE Γ a ρ
    let (y, ρ) ← evE Γ b ρ
    let u ← Res.of (x.peek ρ)
    let v ← Res.of (y.peek ρ)
    let t ← Res.of (cmpD o u v)
    .ok (t, ρ)
  | .chain o o' a b c, ρ => do
    let (x, ρ) ← evE Γ a ρ
    let (y, ρ) ← evE Γ b ρ
    let u ← Res.of (x.peek ρ)
    let v ← Res.of (y.peek ρ)
    let t ← Res.of (cmpD o u v)
    if t then do
      let (z, ρ) ← evE Γ c ρ
      let v ← Res.of (y.peek ρ)
      let w ← Res.of (z.peek ρ)
      let t ← Res.of (cmpD o' v w)
      .ok (t, ρ)
    else .ok (false, ρ)
  | .and a b, ρ => do
    let (t, ρ) ← evC Γ a ρ
    if t then evC Γ b ρ else .ok (false, ρ)
  | .or a b, ρ => do
    let (t, ρ) ← evC Γ a ρ
    if t then .ok (true, ρ) else evC Γ b ρ
  | .not a, ρ => do
    let (t, ρ) ← evC Γ a ρ
    .ok (!t, ρ)
  | .tru e, ρ => do
    let (x, ρ) ← evE Γ e ρ
    let u ← Res.of (x.peek ρ)
    let t ← Res.of (truD u)
    .ok (t, ρ)
  | .isN e, ρ => do
    let (x, ρ) ← evE Γ e ρ
    let u ← Res.of (x.peek ρ)
    .ok (isNoneD u, ρ)
  | .notN e, ρ => do
    let (x, ρ) ← evE Γ e ρ
    let u ← Res.of (x.peek ρ)
    .ok (!isNoneD u, ρ)
def evI (Γ : Ctx) : I → Env → Res (List D × Env)
  | .seq e, ρ => do
    let p ← evE Γ e ρ
    let (y, ρ) ← keepR p
    let xs ← Res.of (itemsD y)
    .ok (xs, ρ)
  | .rng1 e, ρ => do
    let (x, ρ) ← evE Γ e ρ
    match x with
    | .d (.int j) => if j < 2 ^ 62 ∧ -(2 ^ 62) ≤ j then .ok ((List.range j.toNat).map fun (k : Nat) => .int k, ρ) else .stuck
    | _ => .stuck
  | .rng2 a b, ρ => do
    let (x, ρ) ← evE Γ a ρ
    let (y, ρ) ← evE Γ b ρ
    match x, y with
    | .d (.int i), .d (.int j) => if (-(2 ^ 62) ≤ i ∧ i < 2 ^ 62) ∧ -(2 ^ 62) ≤ j ∧ j < 2 ^ 62 then .ok ((List.range (j - i).toNat).map fun (k : Nat) => .int (i + k), ρ) else .stuck
    | _, _ => .stuck
  | .zip a b, ρ => do
    let (x, ρ) ← evE Γ a ρ
    let (y, ρ) ← evE Γ b ρ
    let (ds, ρ) ← Res.of (keepAll [x, y] ρ)
    match ds with
    | [.list xs, .list ys] => .ok ((xs.zip ys).map fun p => .tuple [p.1, p.2], ρ)
    | [.tuple xs, .tuple ys] => .ok ((xs.zip ys).map fun p => .tuple [p.1, p.2], ρ)
    | _ => .stuck
  | .enum a, ρ => do
    let p ← evE Γ a ρ
    let (y, ρ) ← keepR p
    match y with
    | .list xs => .ok (xs.zipIdx.map fun p => .tuple [.int p.2, p.1], ρ)
    | .tuple xs => .ok (xs.zipIdx.map fun p => .tuple [.int p.2, p.1], ρ)
    | _ => .stuck
end

/-! ### statements -/
inductive Fl where
  | nx (ρ : Env) | rt (r : R) (ρ : Env) | bk (ρ : Env) | ct (ρ : Env) | ex (c : Str) (ρ : Env) | stuck
def Res.fl {α : Type} : Res α → (α → Fl) → Fl
  | .ok a, f => f a
  | .ex c ρ, _ => .ex c ρ
  | .stuck, _ => .stuck
def forLoop (f : D → Env → Fl) : List D → Env → Fl
  | [], ρ => .nx ρ
  | x :: xs, ρ => match f x ρ with
    | .nx ρ1 => forLoop f xs ρ1
    | .ct ρ1 => forLoop f xs ρ1
    | .bk ρ1 => .nx ρ1
    | .rt r ρ1 => .rt r ρ1
    | .ex c ρ1 => .ex c ρ1
    | .stuck => .stuck
def whLoop (t : Env → Res (Bool × Env)) (f : Env → Fl) : Nat → Env → Fl
  | 0, _ => .stuck
  | n + 1, ρ => match t ρ with
    | .ok (true, ρ1) => match f ρ1 with
      | .nx ρ2 => whLoop t f n ρ2
      | .ct ρ2 => whLoop t f n ρ2
      | .bk ρ2 => .nx ρ2
      | .rt r ρ2 => .rt r ρ2
      | .ex c ρ2 => .ex c ρ2
      | .stuck => .stuck
    | .ok (false, ρ1) => .nx ρ1
    | .ex c ρ1 => .ex c ρ1
    | .stuck => .stuck
mutual
def evS (Γ : Ctx) : S → Env → Fl
  | .set i e, ρ => (evE Γ e ρ).fl fun (r, ρ) => match r.into i ρ with
    | some ρ1 => .nx ρ1
    | none => .stuck
  | .unp is lst e, ρ => (evE Γ e ρ).fl fun (r, ρ) => match r.keep ρ with
    | some (.tuple xs, ρ) => if lst then .stuck else match Tg.set.setRow is xs ρ with
      | some ρ => .nx ρ
      | none => .stuck
    | some (.list xs, ρ) => if lst then match Tg.set.setRow is xs ρ with
      | some ρ => .nx ρ
      | none => .stuck
      else .stuck
    | _ => .stuck
  | .par i j a b, ρ => (evE Γ a ρ).fl fun (r, ρ) => (evE Γ b ρ).fl fun (r', ρ) => match r.peek ρ, r' with
    | _, .slot _ => .stuck
    | _, r' => if i = j then .stuck else match r with
      | .slot _ => .stuck
      | r => match r.into i ρ with
        | some ρ => match r'.into j ρ with
          | some ρ => .nx ρ
          | none => .stuck
        | none => .stuck
  | .aug i o e, ρ => match ρ[i]? with
    | some (some (.d u)) => (evE Γ e ρ).fl fun (r, ρ) => match r.peek ρ with
      | some v => match u, v, opD o u v with
        | .int _, .int _, some (.d z) => match (R.d z).into i ρ with
          | some ρ => .nx ρ
          | none => .stuck
        | _, _, _ => .stuck
      | none => .stuck
    | _ => .stuck
  | .setX i ix e, ρ => (evE Γ e ρ).fl fun (r, ρ) => match r.keep ρ with
    | some (y, ρ) => match ρ[i]? with
      | some (some (.own _ _)) => (evE Γ ix ρ).fl fun (k, ρ) => match ρ[i]?, k with
        | some (some (.own l xs)), .d (.int k) => match ixN xs.length k with
          | some j => .nx (ρ.set i (some (.own l (xs.set j y))))
          | none => .stuck
        | _, _ => .stuck
      | _ => .stuck
    | none => .stuck
  | .augX i ix o e, ρ => match ρ[i]? with
    | some (some (.own _ _)) => (evE Γ ix ρ).fl fun (k, ρ) => match ρ[i]?, k with
      | some (some (.own _ xs)), .d (.int k) => match atI xs k with
        | some (.int u) => (evE Γ e ρ).fl fun (r, ρ) => match ρ[i]?, r with
          | some (some (.own l xs)), .d (.int v) => match opD o (.int u) (.int v), ixN xs.length k with
            | some (.d z), some j => if o = .add ∨ o = .sub then .nx (ρ.set i (some (.own l (xs.set j z)))) else .stuck
            | _, _ => .stuck
          | _, _ => .stuck
        | _ => .stuck
      | _, _ => .stuck
    | _ => .stuck
  | .expr e, ρ => (evE Γ e ρ).fl fun (_, ρ) => .nx ρ
  | .iff c a b, ρ => (evC Γ c ρ).fl fun (t, ρ) => if t then evSs Γ a ρ else evSs Γ b ρ
  | .for_ tg it b, ρ => (evI Γ it ρ).fl fun (xs, ρ) => forLoop (fun x ρ => match tg.set ρ x with
    | some ρ => evSs Γ b ρ
    | none => .stuck) xs ρ
  | .whil c b, ρ => whLoop (evC Γ c) (evSs Γ b) Γ.wf ρ
  | .ret e, ρ => (evE Γ e ρ).fl fun (r, ρ) => .rt r ρ
  | .retN, ρ => .rt (.d .none) ρ
  | .raise x, ρ => .ex x ρ
  | .pass, ρ => .nx ρ
  | .brk, ρ => .bk ρ
  | .cnt, ρ => .ct ρ
def evSs (Γ : Ctx) : Ss → Env → Fl
  | .nil, ρ => .nx ρ
  | .cons s ss, ρ => match evS Γ s ρ with
    | .nx ρ => evSs Γ ss ρ
    | f => f
end
end Mn
set_option Elab.async false
set_option linter.all false
set_option maxRecDepth 100000
set_option maxHeartbeats 1000000
namespace Mn
open PySem PySem.Spec PyProof.Rows L2

/-! ## defs whose promise may lean on what runs around (repr) -/
structure FnG (g : Bool) (P : Program) (w : World) (K : PySem.W.Frag) (mg : Str → Option Value) (base : Heap) (k : Nat) (f : Addr) (fd : FuncData) (ps : List Str) (sp : Sp) : Prop where
  len : ∀ vs H Q Ex, sp vs H Q Ex → vs.length = ps.length
  run : ∀ (A : Around) (outer : List PySem.Env) (s : Shared) (H : Hp) (args : Args) (us : List Value) (vs : List V) (Q : VK) (Ex : XK), (g = true → A.guards = some []) → Room k A → Env0 P w K mg base A outer s H →
    BindsTo s fd args (ps.zip us) → Vals vs us → sp vs H Q Ex → codeAny (model P w) A (.call (.ref f) args) (CR (L2.CX P w) outer P w H s Q Ex) s
theorem FnG.imp {g : Bool} {P : Program} {w : World} {K : PySem.W.Frag} {mg : Str → Option Value} {base : Heap} {k : Nat} {f : Addr} {fd : FuncData} {ps : List Str} {sp sp' : Sp} (F : FnG g P w K mg base k f fd ps sp)
    (h : ∀ vs H Q Ex, sp' vs H Q Ex → sp vs H Q Ex) : FnG g P w K mg base k f fd ps sp' :=
  ⟨fun _ _ _ _ q => F.len _ _ _ _ (h _ _ _ _ q), fun A outer s H args us vs Q Ex hg hr he hb hv hs => F.run A outer s H args us vs Q Ex hg hr he hb hv (h _ _ _ _ hs)⟩
section
variable {X : Cx} {g : Bool} {k : Nat} {f : Addr} {fd : FuncData} {ps : List Str} {sp : Sp} {Wx : WX} {x : Str} {q pos : Pos} {es : List Expr} {t : TA}
def tCallG (sp : Sp) (Wx : WX) (t : TA) : TE := fun σ H Q => t σ H fun vs H1 => sp vs H1 Q (WE Wx σ)
theorem run_g {pins : List (Addr × Obj)} {σ : L2.St} {H : Hp} {s : Shared} {Q : VK} {us : List Value} {vs : List V} (Fn : FnG g X.prog X.w X.K X.mg X.base k f fd ps sp) (hg : g = true → X.A.guards = some []) (hr : Room k X.A) (hb : Binds X.K fd ps []) (tk : Takes X Wx)
    (I : Inv X pins σ H s) (r : Vals vs us) (h : sp vs H Q (WE Wx σ)) : wpAny (model X.prog X.w) X.A (call (.ref f) us) (EP X pins σ Q) X.xe s := by
  have hl : (us ++ ([] : List Value)).length = ps.length := by
    rw [List.append_nil, ← r.length]
    exact Fn.len _ _ _ _ h
  have b := hb s us I.kIn hl
  rw [List.append_nil] at b
  have rr := Fn.run X.A X.stack s H ⟨us, []⟩ us vs Q (WE Wx σ) hg hr I.env0 b r h
  refine wpAny_call (codeAny_mono rr fun res s' hq => ?_)
  match res, hq with
  | .error e, hq => exact passAt tk σ pins H s e s' I hq
  | .ok (.ret u), hq => exact I.after hq
  | .ok .next, hq => exact (show False from hq).elim
  | .ok .brk, hq => exact (show False from hq).elim
  | .ok .cont, hq => exact (show False from hq).elim
theorem star_head {e : Expr} {es : List Expr} {env : PySem.Env} (h : ∀ v p, e ≠ .Starred v p) : starEach (e :: es) env = (false, eval e env) :: starEach es env := by
  cases e <;> first | rfl | exact absurd rfl (h _ _)
def noStar : Expr → Bool
  | .Starred _ _ => false
  | _ => true
theorem noStar_ne {e : Expr} (h : noStar e = true) : ∀ v p, e ≠ .Starred v p := fun v p z => by subst z; cases h
theorem star_plain {env : PySem.Env} {pos : Pos} : ∀ {es : List Expr}, es.all noStar = true → (backTo pos (starEach es env)).any (·.1) = false
  | [], _ => rfl
  | e :: es, h => by
    rw [List.all_cons, Bool.and_eq_true] at h
    rw [star_head (noStar_ne h.1)]
    exact (star_plain (es := es) h.2)
theorem pe_g {e : Expr} (Fn : FnG g X.prog X.w X.K X.mg X.base k f fd ps sp) (hg : g = true → X.A.guards = some []) (hr : Room k X.A) (hb : Binds X.K fd ps []) (tk : Takes X Wx) (gl : Gl X x) (hm : X.mg x = some (.ref f)) (hk : PySem.W.keepIn X.K (.ref f) = true)
    (ha : PA X (e :: es) t) (hs : (e :: es).all noStar = true) (hdb : (x == ("__debug__" : Str)) = false) : PE X (.Call (.Name x q) (e :: es) [] pos) (tCallG sp Wx t) := by
  rw [List.all_cons, Bool.and_eq_true] at hs
  refine ⟨fun pins s σ H Q I h => wpAny_Call_Name_kw (ld_glob I gl hm ?_ hdb)⟩
  refine PySem.W.callWith_K (h₀ := X.base) I.ok.mod.kin hk (thn (ha.run pos pins s σ H _ I h) fun us s1 hh => ?_) (star_head (noStar_ne hs.1)) (star_plain hs.2)
  obtain ⟨vs, H1, I1, r, q1⟩ := hh
  exact ⟨I1.kIn, run_g Fn hg hr hb tk I1 r q1⟩
theorem pe_g0 (Fn : FnG g X.prog X.w X.K X.mg X.base k f fd ps sp) (hg : g = true → X.A.guards = some []) (hr : Room k X.A) (hb : Binds X.K fd ps []) (tk : Takes X Wx) (gl : Gl X x) (hm : X.mg x = some (.ref f)) (hk : PySem.W.keepIn X.K (.ref f) = true)
    (hdb : (x == ("__debug__" : Str)) = false) : PE X (.Call (.Name x q) [] [] pos) (tCallG sp Wx tNil) := by
  refine ⟨fun pins s σ H Q I h => wpAny_Call_Name_kw (ld_glob I gl hm ?_ hdb)⟩
  exact PySem.W.callWith_K0 I.kIn hk (run_g (us := []) Fn hg hr hb tk I .nil h)
end
section
variable {P : Program} {w : World} {K : PySem.W.Frag} {mg : Str → Option Value} {base : Heap}
theorem fnG_of {g : Bool} {k : Nat} {f : Addr} {name qual : Str} {params : Arguments} {body : List Stmt} {scope : Scope} {dV kV doc pm cdv ct oc : Value} {an od : Option Addr} {osl : Array (Option Value)} {N ps : List Str} {sp : Sp}
    (lk : K.lookup f = some ⟨oc, od, .func (PySem.W.fnOf name qual params body scope dV kV doc pm an cdv ct), osl⟩) (hcd : PySem.W.codeIn K cdv qual = true) (Sc : FnScope N ps scope) (len : ∀ vs H Q Ex, sp vs H Q Ex → vs.length = ps.length)
    (hbody : ∀ (A : Around) (outer : List PySem.Env) (s : Shared) (H : Hp) (vs : List V) (Q : VK) (Ex : XK), (g = true → A.guards = some []) → Room k (A.deeper (envOfC qual scope s.heap.objs.size f cdv)) → sp vs H Q Ex →
      ∃ t, PSs (cxOf (L2.CX P w) P w K mg base N qual scope f cdv A outer s H Ex) body t ∧ t { nx := fun _ H' => Q .non H', rt := Q } (start N vs) H) :
    FnG g P w K mg base (k + 1) f (PySem.W.fnOf name qual params body scope dV kV doc pm an cdv ct) ps sp := by
  refine ⟨len, fun A outer s H args us vs Q Ex hg hr e0 hb r hsp => ?_⟩
  have vl := len _ _ _ _ hsp
  have keepB : ∀ b o, base.get? b = some o → s.heap.get? b = some o := fun b o e => (e0.bs b o e).1
  have kinds : ∀ y ∈ ps.zip us, scope.names.lookup y.1 = some .local ∨ (scope.names.lookup y.1 = some .cell ∧ ((cellsFrom (s.heap.objs.size + 1) scope.names []).lookup y.1).isSome = true) := by
    rintro ⟨n, v⟩ hy
    exact (Sc.par n (List.of_mem_zip hy).1).imp id fun z => ⟨z, PySem.W.cellsFrom_some _ _ _ (.inl z)⟩
  refine codeAny_call_function hr.depth ((e0.mod.kin.keeps keepB) _ _ lk) rfl Sc.co Sc.gen rfl (PySem.W.codeRec_of (e0.mod.kin.keeps keepB) hcd) (hb _ _ _ _ ?_)
  refine wpAny_newFunctionEnv_cells Sc.kind kinds fun env he s1 ic => ?_
  subst he
  refine ⟨(e0.mod.nolimit.keeps keepB).keeps ic.toInCall.keep, codeAny_func ?_⟩
  obtain ⟨t, ht, hq⟩ := hbody A outer s H vs Q Ex hg (hr.deeper _) hsp
  have I : Inv (cxOf (L2.CX P w) P w K mg base N qual scope f cdv A outer s H Ex) [] (start N vs) H s1 := inv_start Sc hr.hd e0 vl r ic
  refine wpAny_mono (ht.run [] s1 (start N vs) H _ I hq) (fun fl s' hs => ?_) fun _ _ hs => hs
  match fl, hs with
  | .ret u, ⟨v, σ', H', J, rv, z⟩ => exact ⟨v, H', J.os, J.bare, J.base, J.hok, rv, z⟩
  | .next, ⟨σ', H', J, z⟩ => exact ⟨.non, H', J.os, J.bare, J.base, J.hok, rfl, z⟩
  | .brk, ⟨_, _, _, z⟩ => exact (show False from z).elim
  | .cont, ⟨_, _, _, z⟩ => exact (show False from z).elim
end
end Mn
set_option Elab.async false
set_option linter.all false
set_option maxRecDepth 100000
set_option maxHeartbeats 1000000
namespace Mn
open PySem PySem.Spec L2

/-! ## readings -/
def Gd {α : Type} (m : Res α) (ok : α → Prop) (ex : Str → Env → Prop) : Prop := match m with
  | .ok a => ok a
  | .ex c ρ => ex c ρ
  | .stuck => False
theorem Gd.mono {α : Type} {m : Res α} {ok ok' : α → Prop} {ex ex' : Str → Env → Prop} (h : Gd m ok ex) (h1 : ∀ a, ok a → ok' a) (h2 : ∀ c ρ, ex c ρ → ex' c ρ) : Gd m ok' ex' := by
  cases m with
  | ok a => exact h1 a h
  | ex c ρ => exact h2 c ρ h
  | stuck => exact h
theorem gd_bind {α β : Type} {m : Res α} {f : α → Res β} {ok : β → Prop} {ex : Str → Env → Prop} : Gd (m >>= f) ok ex ↔ Gd m (fun a => Gd (f a) ok ex) ex := by
  cases m <;> exact Iff.rfl
theorem gd_of {α : Type} {o : Option α} {ok : α → Prop} {ex : Str → Env → Prop} (h : Gd (Res.of o) ok ex) : ∃ a, o = some a ∧ ok a := by
  cases o with
  | some a => exact ⟨a, rfl, h⟩
  | none => exact (show False from h).elim
theorem gd_if {α : Type} {c : Prop} [Decidable c] {m m' : Res α} {ok : α → Prop} {ex : Str → Env → Prop} (h : Gd (if c then m else m') ok ex) : (c ∧ Gd m ok ex) ∨ (¬ c ∧ Gd m' ok ex) := by
  split at h
  · exact .inl ⟨by assumption, h⟩
  · exact .inr ⟨by assumption, h⟩
theorem gd_if_stuck {α : Type} {c : Prop} [Decidable c] {m : Res α} {ok : α → Prop} {ex : Str → Env → Prop} (h : Gd (if c then m else .stuck) ok ex) : c ∧ Gd m ok ex := by
  rcases gd_if h with h | h
  · exact h
  · exact (show False from h.2).elim

section
variable (K : PySem.W.Frag) (A : Ad) (Wx : WX)
/-- what an exception is to find -/
def ExP (B : Bs) (σ : St) : Str → Env → Prop := fun c ρ' => ∀ H', At K A B σ ρ' [] H' → Wx (.ref (A c)) none σ H'
def RdE (ev : Env → Res (R × Env)) : TE := fun σ H Q => ∃ B ρ T, At K A B σ ρ T H ∧
  Gd (ev ρ) (fun p => ∀ v H', At K A B σ p.2 (T ++ [(p.1, v)]) H' → Q v H') (ExP K A Wx B σ)
def RdT (ev : Env → Res (Bool × Env)) : TT := fun σ H Q => ∃ B ρ T, At K A B σ ρ T H ∧
  Gd (ev ρ) (fun p => ∀ H', At K A B σ p.2 T H' → Q p.1 H') (ExP K A Wx B σ)
def RdO (ev : Env → Res (Option Int × Env)) : TO := fun σ H Q => ∃ B ρ T, At K A B σ ρ T H ∧
  Gd (ev ρ) (fun p => ∀ H', At K A B σ p.2 T H' → Q p.1 H') (ExP K A Wx B σ)
def RdA (ev : Env → Res (List R × Env)) : TA := fun σ H Q => ∃ B ρ T, At K A B σ ρ T H ∧
  Gd (ev ρ) (fun p => ∀ vs H', vs.length = p.1.length → At K A B σ p.2 (T ++ p.1.zip vs) H' → Q vs H') (ExP K A Wx B σ)
end
section
variable {X : Cx} {K : PySem.W.Frag} {A : Ad} {Wx : WX} {B : Bs} {σ : St} {ρ ρ' : Env} {T : Tmps} {H H' F : Hp} {O : Addr → Option Owner}
theorem PE_imp {e : Expr} {t t' : TE} (h : PE X e t) (hi : ∀ σ H Q, t' σ H Q → t σ H Q) : PE X e t' := ⟨fun pins s σ H Q I q => h.run pins s σ H Q I (hi _ _ _ q)⟩
theorem PT_imp {e : Expr} {t t' : TT} (h : PT X e t) (hi : ∀ σ H Q, t' σ H Q → t σ H Q) : PT X e t' := ⟨fun pins s σ H Q I q => h.run pins s σ H Q I (hi _ _ _ q)⟩
theorem PW_imp {e : Expr} {t t' : TT} (h : PW X e t) (hi : ∀ σ H Q, t' σ H Q → t σ H Q) : PW X e t' := ⟨fun wh pins s σ H Q I q => h.run wh pins s σ H Q I (hi _ _ _ q)⟩
theorem PA_imp {es : List Expr} {t t' : TA} (h : PA X es t) (hi : ∀ σ H Q, t' σ H Q → t σ H Q) : PA X es t' := ⟨fun pos pins s σ H Q I q => h.run pos pins s σ H Q I (hi _ _ _ q)⟩
theorem PO_imp {e : Option Expr} {t t' : TO} (h : PO X e t) (hi : ∀ σ H Q, t' σ H Q → t σ H Q) : PO X e t' := ⟨fun pins s σ H Q I q => h.run pins s σ H Q I (hi _ _ _ q)⟩
theorem OpR_or {f : Value → Value → Sem Value} {r r' : R2} (h : OpR X f r) (h' : OpR X f r') : OpR X f (fun x y H Q => r x y H Q ∨ r' x y H Q) := fun pins s σ H x y v u Q I rx ry q =>
  q.elim (h pins s σ H x y v u Q I rx ry) (h' pins s σ H x y v u Q I rx ry)
theorem CallR_or {f : Value} {r r' : List V → Hp → VK → Prop} (h : CallR X f r) (h' : CallR X f r') : CallR X f (fun x H Q => r x H Q ∨ r' x H Q) := fun pins s σ H x u Q I rx q =>
  q.elim (h pins s σ H x u Q I rx) (h' pins s σ H x u Q I rx)

/-! ### what a temporary tells of its value -/
theorem dp_int {i : Int} {v : V} (h : Dq K F v (.int i)) : v = .int i := by cases h; rfl
theorem dp_str {i : Str} {v : V} (h : Dq K F v (.str i)) : v = .str i := by cases h; rfl
theorem dp_bl {i : Bool} {v : V} (h : Dq K F v (.bool i)) : v = .bl i := by cases h; rfl
theorem dp_non {v : V} (h : Dq K F v .none) : v = .non := by cases h; rfl
theorem Sep.peekL (S : Sep K A B σ ρ T H F O) {k : Nat} {r : R} {v : V} {xs : List D} (h : T[k]? = some (r, v)) (e : r.peek ρ = some (.list xs)) :
    ∃ p vs, v = .ref p ∧ Rd H p (.lst vs) ∧ DqAll K F vs xs := by
  have t := S.temps k r v h
  have own : ∀ w xs, OwnAt K F H O w v xs → ∃ p vs, v = .ref p ∧ Rd H p (.lst vs) ∧ DqAll K F vs xs := fun w xs ⟨p, vs, a, _, c, d⟩ => ⟨p, vs, a, .inl c, d⟩
  have dat : Dq K F v (.list xs) → ∃ p vs, v = .ref p ∧ Rd H p (.lst vs) ∧ DqAll K F vs xs := fun q => by
    cases q with
    | lst h1 h2 => exact ⟨_, _, rfl, rd_sub S.fh h1, h2⟩
  cases r with
  | d y => cases e; exact dat t
  | fresh ys => cases e; exact own _ _ t
  | fn f => cases e
  | slot i =>
    cases q : ρ[i]? with
    | none => simp only [R.peek, q] at e; cases e
    | some w =>
      simp only [R.peek, q] at e
      cases w with
      | none => cases e
      | some w =>
        obtain ⟨v', h1, h2⟩ := S.slots i w q
        have hv : v' = v := by
          have t' : σ[i]? = some (some v) := t
          rw [t'] at h1
          exact (Option.some.inj (Option.some.inj h1)).symm
        subst hv
        cases w with
        | d y => cases e; exact dat h2
        | own l ys => cases e; exact own _ _ h2
        | fn f => cases e
theorem Sep.peekT (S : Sep K A B σ ρ T H F O) {k : Nat} {r : R} {v : V} {xs : List D} (h : T[k]? = some (r, v)) (e : r.peek ρ = some (.tuple xs)) :
    Dq K F v (.tuple xs) ∧ ∃ p vs, v = .ref p ∧ SqT K H p vs ∧ DqAll K F vs xs := by
  have t := S.temps k r v h
  have dat : Dq K F v (.tuple xs) → Dq K F v (.tuple xs) ∧ ∃ p vs, v = .ref p ∧ SqT K H p vs ∧ DqAll K F vs xs := fun q => ⟨q, by
    cases q with
    | tup h1 h2 => exact ⟨_, _, rfl, sqt_sub S.fh h1, h2⟩⟩
  cases r with
  | d y => cases e; exact dat t
  | fresh ys => cases e
  | fn f => cases e
  | slot i =>
    cases q : ρ[i]? with
    | none => simp only [R.peek, q] at e; cases e
    | some w =>
      simp only [R.peek, q] at e
      cases w with
      | none => cases e
      | some w =>
        obtain ⟨v', h1, h2⟩ := S.slots i w q
        have hv : v' = v := by
          have t' : σ[i]? = some (some v) := t
          rw [t'] at h1
          exact (Option.some.inj (Option.some.inj h1)).symm
        subst hv
        cases w with
        | d y => cases e; exact dat h2
        | own l ys => cases e
        | fn f => cases e
/-- a new tuple of data -/
theorem Sep.newTup (S : Sep K A B σ ρ T H F O) {p : Addr} {vs : List V} {xs : List D} (h : H p = none) (hd : DqAll K F vs xs) : At K A B σ ρ (T ++ [(.d (.tuple xs), .ref p)]) (upd H p (.tup vs)) := by
  have f := (S.fresh h).1
  exact ⟨_, O, (S.laid (o := .tup vs) h nonT_tup).push (.tup (.inl (.inl upd_same)) (dpa_sub (Sub.upd f) _ _ hd))⟩
theorem Sep.newLst (S : Sep K A B σ ρ T H F O) {p : Addr} {vs : List V} {xs : List D} (h : H p = none) (hd : DqAll K F vs xs) : At K A B σ ρ (T ++ [(.fresh xs, .ref p)]) (upd H p (.lst vs)) := ⟨F, _, S.newList h hd⟩
theorem Sep.pushD (S : Sep K A B σ ρ T H F O) {v : V} {x : D} (h : Dq K F v x) : At K A B σ ρ (T ++ [(.d x, v)]) H := ⟨F, O, S.push h⟩
theorem Sep.sc (S : Sep K A B σ ρ T H F O) : At K A B σ ρ T H := ⟨F, O, S⟩

/-! ### constants and names -/
theorem rd_c {v : V} {x : D} {e : Expr} (hp : PE X e (tC v)) (hd : ∀ F, Dq K F v x) : PE X e (RdE K A Wx fun ρ => .ok (.d x, ρ)) := PE_imp hp fun σ H Q ⟨B, ρ, T, ⟨F, O, S⟩, g⟩ => g v H (S.pushD (hd F))
theorem rd_var {i : Nat} {e : Expr} (Γ : Ctx) (hp : PE X e (tVar i)) : PE X e (RdE K A Wx (evE Γ (.var i))) := PE_imp hp fun σ H Q ⟨B, ρ, T, ⟨F, O, S⟩, g⟩ => by
  simp only [evE] at g
  cases q : ρ[i]? with
  | none => simp only [q] at g; exact (show False from g).elim
  | some w =>
    cases w with
    | none => simp only [q] at g; exact (show False from g).elim
    | some w =>
      simp only [q] at g
      obtain ⟨v, h1, h2⟩ := S.slots i w q
      refine ⟨v, h1, ?_⟩
      cases w with
      | d x => exact g v H (S.pushD h2)
      | own l xs => exact g v H ⟨F, O, S.push (r := .slot i) h1⟩
      | fn f => exact g v H ⟨F, O, S.push (r := .fn f) h2⟩

/-! ### rows of expressions -/
theorem rda_nil : PA X [] (RdA K A Wx fun ρ => .ok ([], ρ)) := PA_imp pa_nil fun σ H Q ⟨B, ρ, T, at_, g⟩ => g [] H rfl (by simpa using at_)
theorem rda_cons {e : Expr} {es : List Expr} {ev : Env → Res (R × Env)} {evs : Env → Res (List R × Env)} (h1 : PE X e (RdE K A Wx ev)) (h2 : PA X es (RdA K A Wx evs)) (hs : noStar e = true) :
    PA X (e :: es) (RdA K A Wx fun ρ => do let (r, ρ) ← ev ρ; let (rs, ρ) ← evs ρ; .ok (r :: rs, ρ)) := by
  refine PA_imp (pa_cons h1 h2 (star_head (noStar_ne hs))) fun σ H Q ⟨B, ρ, T, at_, g⟩ => ?_
  refine ⟨B, ρ, T, at_, (gd_bind.mp g).mono (fun ⟨r, ρ1⟩ g1 v H1 at1 => ?_) fun _ _ h => h⟩
  refine ⟨B, ρ1, _, at1, (gd_bind.mp g1).mono (fun ⟨rs, ρ2⟩ g2 vs H2 hl at2 => ?_) fun _ _ h => h⟩
  exact g2 (v :: vs) H2 (by simp [hl]) (by simpa using at2)
/-- displays -/
theorem rd_tup {es : List Expr} {x1 : Nat} {pos : Pos} {evs : Env → Res (List R × Env)} (h : PA X es (RdA K A Wx evs)) :
    PE X (.Tuple es x1 pos) (RdE K A Wx fun ρ => do let (rs, ρ) ← evs ρ; let (xs, ρ) ← Res.of (keepAll rs ρ); if xs.length ≤ LIM then .ok (.d (.tuple xs), ρ) else .stuck) := by
  refine PE_imp (pe_tup h) fun σ H Q ⟨B, ρ, T, at_, g⟩ => ?_
  refine ⟨B, ρ, T, at_, (gd_bind.mp g).mono (fun ⟨rs, ρ1⟩ g1 vs H1 hl ⟨F, O, S⟩ => ?_) fun _ _ h => h⟩
  obtain ⟨⟨xs, ρ2⟩, e1, g2⟩ := gd_of (gd_bind.mp g1)
  obtain ⟨hz, g3⟩ := gd_if_stuck g2
  obtain ⟨F1, O1, S1, _, da, _⟩ := S.keepAll hl e1
  have hn := dpa_len da
  exact ⟨Nat.le_trans (by rw [hn]; exact hz) (by decide), fun p hp => g3 _ _ (S1.drop.newTup hp da)⟩
theorem rd_lst {es : List Expr} {pos : Pos} {evs : Env → Res (List R × Env)} (h : PA X es (RdA K A Wx evs)) :
    PE X (.List es pos) (RdE K A Wx fun ρ => do let (rs, ρ) ← evs ρ; let (xs, ρ) ← Res.of (keepAll rs ρ); if xs.length ≤ LIM then .ok (.fresh xs, ρ) else .stuck) := by
  refine PE_imp (pe_lst h) fun σ H Q ⟨B, ρ, T, at_, g⟩ => ?_
  refine ⟨B, ρ, T, at_, (gd_bind.mp g).mono (fun ⟨rs, ρ1⟩ g1 vs H1 hl ⟨F, O, S⟩ => ?_) fun _ _ h => h⟩
  obtain ⟨⟨xs, ρ2⟩, e1, g2⟩ := gd_of (gd_bind.mp g1)
  obtain ⟨hz, g3⟩ := gd_if_stuck g2
  obtain ⟨F1, O1, S1, _, da, _⟩ := S.keepAll hl e1
  have hn := dpa_len da
  exact ⟨Nat.le_trans (by rw [hn]; exact hz) (by decide), fun p hp => g3 _ _ (S1.drop.newLst hp da)⟩
end
end Mn
set_option Elab.async false
set_option linter.all false
set_option maxRecDepth 100000
set_option maxHeartbeats 1000000
namespace Mn
open PySem PySem.Spec PyProof.Rows L2

section
variable {X : Cx} {K : PySem.W.Frag} {A : Ad} {Wx : WX} {B : Bs} {σ : L2.St} {ρ ρ' : Env} {T : Tmps} {H H' F : Hp} {O : Addr → Option Owner}
theorem rd_list {pins : List (Addr × Obj)} {s : Shared} {a : Addr} {xs : List V} (I : Inv X pins σ H s) (h : Rd H a (.lst xs)) :
    ∃ its n, Vals xs its ∧ s.heap.get? a = some { cls := .type "list", data := .seq its.toArray n } ∧ xs.length ≤ sizeLine := by
  obtain ⟨z, its, n, r, e⟩ := h.ok I.hok
  exact ⟨its, n, r, e, z⟩
/-- xs + ys -/
def rCatL : R2 := fun x y H Q => ∃ l b xs zs, x = V.ref l ∧ y = V.ref b ∧ Rd H l (.lst xs) ∧ Rd H b (.lst zs) ∧ xs.length + zs.length ≤ sizeLine ∧ ∀ p, H p = none → Q (.ref p) (upd H p (.lst (xs ++ zs)))
theorem op_catL : OpR X (binaryOp .Add) rCatL := by
  intro pins s σ H x y v u Q I rx ry h
  obtain ⟨l, b, xs, zs, rfl, rfl, hl, hb, hz, q⟩ := h
  obtain rfl : v = Value.ref l := rx
  obtain rfl : u = Value.ref b := ry
  obtain ⟨i1, n1, r1, e1, _⟩ := rd_list I hl
  obtain ⟨i2, n2, r2, e2, _⟩ := rd_list I hb
  have l1 := r1.length
  have l2 := r2.length
  refine PySem.P.add_list e1 e2 ?_ (by simp only [List.size_toArray]; omega)
  have ea : i1.toArray ++ i2.toArray = (i1 ++ i2).toArray := by simp
  rw [ea]
  refine ⟨V.ref s.heap.objs.size, _, I.laid (t' := s.toks) (o := .lst (xs ++ zs)) (fun c o z => Heap.get?_push_of_some _ z) (Nat.le_refl _) ?_, rfl, q _ (I.hok.fresh (Nat.le_refl _))⟩
  exact ⟨by rw [List.length_append]; omega, i1 ++ i2, 0, r1.append r2, Heap.get?_push_size _ rfl⟩
def opRule (K : PySem.W.Frag) : Op2 → R2
  | .add => fun x y H Q => (rI0 (fun i j => .int (i + j)) x y H Q ∨ (∃ i j, x = V.str i ∧ y = V.str j ∧ i.length + j.length ≤ sizeLine ∧ Q (V.str (i ++ j)) H)) ∨ (rCatL x y H Q ∨ rCatT K x y H Q)
  | .sub => rI0 fun i j => .int (i - j)
  | .mul => rI CMul fun i j => .int (i * j)
  | .mod => rI (fun _ j => j ≠ 0) fun i j => .int (i.fmod j)
  | .fdiv => rI CDivN fun i j => .int (i.fdiv j)
  | .pow => rI CPow fun i j => .int (i ^ j.toNat)
def Op2.py : Op2 → Operator
  | .add => .Add | .sub => .Sub | .mul => .Mult | .mod => .Mod | .fdiv => .FloorDiv | .pow => .Pow
theorem opRule_ok : ∀ o : Op2, OpR X (binaryOp o.py) (opRule X.K o)
  | .add => OpR_or (OpR_or op_add op_add_str) (OpR_or op_catL op_catT)
  | .sub => op_sub
  | .mul => op_mul
  | .mod => op_modN
  | .fdiv => op_fdivN
  | .pow => op_pow
theorem lim_size : LIM ≤ sizeLine := by decide
/-- where two temporaries stand on top -/
theorem two_top {T : Tmps} {a b : R × V} : (T ++ [a] ++ [b])[T.length]? = some a ∧ (T ++ [a] ++ [b])[T.length + 1]? = some b := by
  constructor
  · rw [List.append_assoc, List.getElem?_append_right (Nat.le_refl _)]; simp
  · rw [List.append_assoc, List.getElem?_append_right (by omega)]; simp
theorem one_top {T : Tmps} {a : R × V} : (T ++ [a])[T.length]? = some a := by simp
theorem bigOk_mul {i j : Int} (h : bigOk i j = true) : CMul i j := by
  unfold bigOk at h
  rw [Bool.or_eq_true, decide_eq_true_eq, decide_eq_true_eq] at h
  exact h
/-- an operation on data, on the heap -/
theorem op_sound {o : Op2} {a b : R} {x y : V} {u v : D} {r : R} {Q : VK} (S : Sep K A B σ ρ (T ++ [(a, x)] ++ [(b, y)]) H F O) (hu : a.peek ρ = some u) (hv : b.peek ρ = some v) (e : opD o u v = some r)
    (g : ∀ z H', At K A B σ ρ (T ++ [(r, z)]) H' → Q z H') : opRule K o x y H Q := by
  have px := S.peek two_top.1 hu
  have py := S.peek two_top.2 hv
  have S0 := S.drop.drop
  have int : ∀ z : Int, r = .d (.int z) → Q (.int z) H := fun z hz => g _ _ (by rw [hz]; exact S0.pushD (.int z))
  cases o with
  | add =>
    cases u with
    | int i =>
      cases v with
      | int j => cases e; exact .inl (.inl ⟨i, j, dp_int px, dp_int py, int _ rfl⟩)
      | _ => cases e
    | str i =>
      cases v with
      | str j =>
        simp only [opD] at e
        split at e
        · rename_i hz
          cases e
          exact .inl (.inr ⟨i, j, dp_str px, dp_str py, Nat.le_trans hz lim_size, g _ _ (S0.pushD (.str _))⟩)
        · cases e
      | _ => cases e
    | list xs =>
      cases v with
      | list ys =>
        simp only [opD] at e
        split at e
        · rename_i hz
          cases e
          obtain ⟨p, vs, ex, hp, dp⟩ := S.peekL two_top.1 hu
          obtain ⟨q, us, ey, hq, dq⟩ := S.peekL two_top.2 hv
          refine .inr (.inl ⟨p, q, vs, us, ex, ey, hp, hq, ?_, fun z hz' => g _ _ (S0.newLst hz' (dpa_app dp dq))⟩)
          rw [dpa_len dp, dpa_len dq]; exact Nat.le_trans hz lim_size
        · cases e
      | _ => cases e
    | tuple xs =>
      cases v with
      | tuple ys =>
        simp only [opD] at e
        split at e
        · rename_i hz
          cases e
          obtain ⟨dx, p, vs, ex, hp, dp⟩ := S.peekT two_top.1 hu
          obtain ⟨_, q, us, ey, hq, dq⟩ := S.peekT two_top.2 hv
          refine .inr (.inr ⟨p, q, vs, us, ex, ey, hp, hq, fun z => hz.2 ?_, ?_, fun z => ?_, fun _ z hz' => g _ _ (S0.newTup hz' (dpa_app dp dq))⟩)
          · subst z; cases dp; rfl
          · rw [dpa_len dp, dpa_len dq]; exact Nat.le_trans hz.1 lim_size
          · subst z
            cases dq
            refine g _ _ ?_
            rw [List.append_nil, ← ex]
            exact S0.pushD dx
        · cases e
      | _ => cases e
    | _ => cases v <;> cases e
  | sub =>
    cases u with
    | int i =>
      cases v with
      | int j => cases e; exact ⟨i, j, dp_int px, dp_int py, int _ rfl⟩
      | _ => cases e
    | _ => cases v <;> cases e
  | mul =>
    cases u with
    | int i =>
      cases v with
      | int j =>
        simp only [opD] at e
        split at e
        · rename_i hz
          cases e
          exact ⟨i, j, dp_int px, dp_int py, bigOk_mul hz, int _ rfl⟩
        · cases e
      | _ => cases e
    | _ => cases v <;> cases e
  | mod =>
    cases u with
    | int i =>
      cases v with
      | int j =>
        simp only [opD] at e
        split at e
        · rename_i hz
          cases e
          exact ⟨i, j, dp_int px, dp_int py, hz, int _ rfl⟩
        · cases e
      | _ => cases e
    | _ => cases v <;> cases e
  | fdiv =>
    cases u with
    | int i =>
      cases v with
      | int j =>
        simp only [opD] at e
        split at e
        · rename_i hz
          cases e
          exact ⟨i, j, dp_int px, dp_int py, hz, int _ rfl⟩
        · cases e
      | _ => cases e
    | _ => cases v <;> cases e
  | pow =>
    cases u with
    | int i =>
      cases v with
      | int j =>
        simp only [opD] at e
        split at e
        · rename_i hz
          cases e
          exact ⟨i, j, dp_int px, dp_int py, hz, int _ rfl⟩
        · cases e
      | _ => cases e
    | _ => cases v <;> cases e
theorem rd_op {o : Op2} {a b : Expr} {pos : Pos} {ea eb : Env → Res (R × Env)} (ha : PE X a (RdE X.K A Wx ea)) (hb : PE X b (RdE X.K A Wx eb)) :
    PE X (.BinOp a o.py b pos) (RdE X.K A Wx fun ρ => do
      let (x, ρ) ← ea ρ
      let (y, ρ) ← eb ρ
      let u ← Res.of (x.peek ρ)
      let v ← Res.of (y.peek ρ)
      let r ← Res.of (opD o u v)
      .ok (r, ρ)) := by
  refine PE_imp (pe_op (opRule_ok o) ha hb) fun σ H Q ⟨B, ρ, T, at_, g⟩ => ?_
  refine ⟨B, ρ, T, at_, (gd_bind.mp g).mono (fun ⟨x, ρ1⟩ g1 v H1 at1 => ?_) fun _ _ h => h⟩
  refine ⟨B, ρ1, _, at1, (gd_bind.mp g1).mono (fun ⟨y, ρ2⟩ g2 v' H2 ⟨F, O, S⟩ => ?_) fun _ _ h => h⟩
  obtain ⟨u, e1, g3⟩ := gd_of (gd_bind.mp g2)
  obtain ⟨w, e2, g4⟩ := gd_of (gd_bind.mp g3)
  obtain ⟨r, e3, g5⟩ := gd_of (gd_bind.mp g4)
  exact op_sound S e1 e2 e3 g5
end
end Mn
set_option Elab.async false
set_option linter.all false
set_option maxRecDepth 100000
set_option maxHeartbeats 1000000
namespace Mn
open PySem PySem.Spec PyProof.Rows L2

section
variable {X : Cx} {K : PySem.W.Frag} {A : Ad} {Wx : WX} {B : Bs} {σ : L2.St} {ρ ρ' : Env} {T : Tmps} {H H' F : Hp} {O : Addr → Option Owner}
def Cp.py : Cp → CmpOp
  | .eq => .Eq | .ne => .NotEq | .lt => .Lt | .le => .LtE | .gt => .Gt | .ge => .GtE | .isin => .In | .notin => .NotIn
def rCmp (K : PySem.W.Frag) (o : Cp) : R2 := fun x y H Q => ∃ u v b, Dp K H x u ∧ Dp K H y v ∧ cmpD o u v = some b ∧ Q (.bl b) H
theorem p_int {i : Int} {v : V} (h : Dp K F v (.int i)) : v = .int i := by cases h; rfl
theorem p_str {i : Str} {v : V} (h : Dp K F v (.str i)) : v = .str i := by cases h; rfl
theorem room_in {A : Around} {d : D} {xs : List D} (h : SeqAt.shaped d = true) (hu : A.units + 65 < cLine) : A.units + 1 + min (PyData.depthAll xs) d.depth < cLine := by
  have h1 := SeqAt.depth_of_shaped h
  have h2 : min (PyData.depthAll xs) d.depth ≤ d.depth := Nat.min_le_right _ _
  omega
theorem lt_ok (hu : X.A.units + 65 < cLine) {pins : List (Addr × Obj)} {s : Shared} {x y : V} {u v : Value} {a b : D} {Q : VK} (I : Inv X pins σ H s) (rx : RelV x u) (ry : RelV y v) (ha : Dp X.K H x a) (hb : Dp X.K H y b)
    (hal : PySem.W.alike a b = true) (hn : isNoneD a = false) (hd : a.depth ≤ 60) (q : Q (.bl (PySem.W.dataLt a b)) H) : wpAny (model X.prog X.w) X.A (compareOp .Lt u v) (EP X pins σ Q) X.xe s := by
  obtain ⟨as, r1⟩ := Dp.reads I a x u ha rx
  obtain ⟨bs, r2⟩ := Dp.reads I b y v hb ry
  have hn' : a ≠ .none := fun z => by subst z; cases hn
  have h := PySem.W.rcLt_alike a b X.A s u v as bs r1 r2 hal hn' (by have := Nat.min_le_left a.depth b.depth; omega)
  exact h X.prog X.w X.xe (EP X pins σ Q) ⟨.bl _, H, I, rfl, q⟩
theorem cmp_ok (hu : X.A.units + 65 < cLine) : ∀ o : Cp, OpR X (compareOp o.py) (rCmp X.K o) := by
  have hu64 : X.A.units + 64 < cLine := by omega
  intro o pins s σ H x y v u Q I rx ry ⟨a, b, t, ha, hb, e, q⟩
  cases o with
  | eq =>
    simp only [cmpD] at e
    split at e
    · rename_i hs
      rw [Bool.and_eq_true] at hs
      cases e
      exact op_eqD hu64 pins s σ H x y v u Q I rx ry ⟨a, b, ha, hb, hs.1, hs.2, q⟩
    · cases e
  | ne =>
    simp only [cmpD] at e
    split at e
    · rename_i hs
      rw [Bool.and_eq_true] at hs
      cases e
      exact op_neD hu64 pins s σ H x y v u Q I rx ry ⟨a, b, ha, hb, hs.1, hs.2, q⟩
    · cases e
  | lt =>
    have gen : (if PySem.W.alike a b && !isNoneD a && decide (a.depth ≤ 60) then some (PySem.W.dataLt a b) else none) = some t → wpAny (model X.prog X.w) X.A (compareOp .Lt v u) (EP X pins σ Q) X.xe s := fun e => by
      split at e
      · rename_i hs
        simp only [Bool.and_eq_true, Bool.not_eq_true', decide_eq_true_eq] at hs
        cases e
        exact lt_ok hu I rx ry ha hb hs.1.1 hs.1.2 hs.2 q
      · cases e
    cases a with
    | int i =>
      cases b with
      | int j => cases e; exact op_lt pins s σ H x y v u Q I rx ry ⟨i, j, p_int ha, p_int hb, q⟩
      | _ => exact gen e
    | _ => exact gen e
  | le =>
    cases a with
    | int i =>
      cases b with
      | int j => cases e; exact op_le pins s σ H x y v u Q I rx ry ⟨i, j, p_int ha, p_int hb, q⟩
      | _ => cases e
    | _ => cases b <;> cases e
  | gt =>
    cases a with
    | int i =>
      cases b with
      | int j => cases e; exact op_gt pins s σ H x y v u Q I rx ry ⟨i, j, p_int ha, p_int hb, q⟩
      | _ => cases e
    | _ => cases b <;> cases e
  | ge =>
    cases a with
    | int i =>
      cases b with
      | int j => cases e; exact op_ge pins s σ H x y v u Q I rx ry ⟨i, j, p_int ha, p_int hb, q⟩
      | _ => cases e
    | _ => cases b <;> cases e
  | isin =>
    cases b with
    | str z =>
      cases a with
      | str w =>
        simp only [cmpD] at e
        split at e
        · rename_i c hc
          cases e
          have ew : w = ⟨#[c]⟩ := by
            obtain ⟨cs⟩ := w
            have : cs = #[c] := by
              apply Array.ext'
              simpa using hc
            rw [this]
          subst ew
          exact op_in_sign pins s σ H x y v u Q I rx ry ⟨c, z, p_str ha, p_str hb, q⟩
        · cases e
      | _ => cases e
    | list xs =>
      have gen : (if SeqAt.shaped a && SeqAt.shaped (.list xs) then some (xs.any fun x => PyData.eqv x a) else none) = some t → wpAny (model X.prog X.w) X.A (compareOp .In v u) (EP X pins σ Q) X.xe s := fun e => by
        split at e
        · rename_i hs
          rw [Bool.and_eq_true] at hs
          cases e
          exact op_inD hu pins s σ H x y v u Q I rx ry ⟨a, xs, ha, hb, hs.1, hs.2, q⟩
        · cases e
      cases a <;> exact gen e
    | tuple xs =>
      have gen : (if SeqAt.shaped a && SeqAt.shaped (.tuple xs) then some (xs.any fun x => PyData.eqv x a) else none) = some t → wpAny (model X.prog X.w) X.A (compareOp .In v u) (EP X pins σ Q) X.xe s := fun e => by
        split at e
        · rename_i hs
          rw [Bool.and_eq_true] at hs
          cases e
          obtain ⟨as, r1⟩ := Dp.reads I a x v ha rx
          obtain ⟨bs, r2⟩ := Dp.reads I (.tuple xs) y u hb ry
          exact SeqAt.in_tuple_reads r2 r1 (SeqAt.canLay_of_shaped hs.2) (SeqAt.canLay_of_shaped hs.1) (room_in hs.1 hu) ⟨.bl _, H, I, rfl, q⟩
        · cases e
      cases a <;> exact gen e
    | _ => cases a <;> cases e
  | notin =>
    cases b with
    | str z =>
      cases a with
      | str w =>
        simp only [cmpD] at e
        split at e
        · rename_i c hc
          cases e
          have ew : w = ⟨#[c]⟩ := by
            obtain ⟨cs⟩ := w
            have : cs = #[c] := by
              apply Array.ext'
              simpa using hc
            rw [this]
          subst ew
          exact op_notIn_sign pins s σ H x y v u Q I rx ry ⟨c, z, p_str ha, p_str hb, q⟩
        · cases e
      | _ => cases e
    | list xs =>
      have gen : (if SeqAt.shaped a && SeqAt.shaped (.list xs) then some (!xs.any fun x => PyData.eqv x a) else none) = some t → wpAny (model X.prog X.w) X.A (compareOp .NotIn v u) (EP X pins σ Q) X.xe s := fun e => by
        split at e
        · rename_i hs
          rw [Bool.and_eq_true] at hs
          cases e
          exact op_notInD hu pins s σ H x y v u Q I rx ry ⟨a, xs, ha, hb, hs.1, hs.2, q⟩
        · cases e
      cases a <;> exact gen e
    | tuple xs =>
      have gen : (if SeqAt.shaped a && SeqAt.shaped (.tuple xs) then some (!xs.any fun x => PyData.eqv x a) else none) = some t → wpAny (model X.prog X.w) X.A (compareOp .NotIn v u) (EP X pins σ Q) X.xe s := fun e => by
        split at e
        · rename_i hs
          rw [Bool.and_eq_true] at hs
          cases e
          obtain ⟨as, r1⟩ := Dp.reads I a x v ha rx
          obtain ⟨bs, r2⟩ := Dp.reads I (.tuple xs) y u hb ry
          exact SeqAt.notIn_tuple_reads r2 r1 (SeqAt.canLay_of_shaped hs.2) (SeqAt.canLay_of_shaped hs.1) (room_in hs.1 hu) ⟨.bl _, H, I, rfl, q⟩
        · cases e
      cases a <;> exact gen e
    | _ => cases a <;> cases e

/-! ### tests -/
def noSet : Expr → Bool
  | .Set _ _ _ => false
  | _ => true
theorem noSet_marks {o : CmpOp} {b : Expr} (h : noSet b = true) : behindInMarks o b = false := by
  cases b <;> first | rfl | cases h
theorem rdt_cmp (hu : X.A.units + 65 < cLine) {o : Cp} {a b : Expr} {pos : Pos} {ea eb : Env → Res (R × Env)} (hs : noSet b = true) (ha : PE X a (RdE X.K A Wx ea)) (hb : PE X b (RdE X.K A Wx eb)) :
    PT X (.Compare a [o.py] [b] pos) (RdT X.K A Wx fun ρ => do
      let (x, ρ) ← ea ρ
      let (y, ρ) ← eb ρ
      let u ← Res.of (x.peek ρ)
      let v ← Res.of (y.peek ρ)
      let t ← Res.of (cmpD o u v)
      .ok (t, ρ)) := by
  refine PT_imp (pt_cmpR (cmp_ok hu o) ha hb (noSet_marks hs)) fun σ H Q ⟨B, ρ, T, at_, g⟩ => ?_
  refine ⟨B, ρ, T, at_, (gd_bind.mp g).mono (fun ⟨x, ρ1⟩ g1 v H1 at1 => ?_) fun _ _ h => h⟩
  refine ⟨B, ρ1, _, at1, (gd_bind.mp g1).mono (fun ⟨y, ρ2⟩ g2 v' H2 ⟨F, O, S⟩ => ?_) fun _ _ h => h⟩
  obtain ⟨u, e1, g3⟩ := gd_of (gd_bind.mp g2)
  obtain ⟨w, e2, g4⟩ := gd_of (gd_bind.mp g3)
  obtain ⟨r, e3, g5⟩ := gd_of (gd_bind.mp g4)
  exact ⟨u, w, r, (S.peek two_top.1 e1).dp, (S.peek two_top.2 e2).dp, e3, r, rfl, g5 H2 S.drop.drop.sc⟩
theorem last_marks {o o' : CmpOp} {b c : Expr} (h : noSet c = true) : lastMarks [o, o'] [b, c] = false := by
  show behindInMarks o' c = false
  exact noSet_marks h
theorem rdt_chain (hu : X.A.units + 65 < cLine) {o o' : Cp} {a b c : Expr} {pos : Pos} {ea eb ec : Env → Res (R × Env)} (hs : noSet c = true) (ha : PE X a (RdE X.K A Wx ea)) (hb : PE X b (RdE X.K A Wx eb)) (hc : PE X c (RdE X.K A Wx ec)) :
    PT X (.Compare a [o.py, o'.py] [b, c] pos) (RdT X.K A Wx fun ρ => do
      let (x, ρ) ← ea ρ
      let (y, ρ) ← eb ρ
      let u ← Res.of (x.peek ρ)
      let v ← Res.of (y.peek ρ)
      let t ← Res.of (cmpD o u v)
      if t then do
        let (z, ρ) ← ec ρ
        let v ← Res.of (y.peek ρ)
        let w ← Res.of (z.peek ρ)
        let t ← Res.of (cmpD o' v w)
        .ok (t, ρ)
      else .ok (false, ρ)) := by
  refine PT_imp (pt_chain (cmp_ok hu o) (cmp_ok hu o') ha hb hc (last_marks hs)) fun σ H Q ⟨B, ρ, T, at_, g⟩ => ?_
  refine ⟨B, ρ, T, at_, (gd_bind.mp g).mono (fun ⟨x, ρ1⟩ g1 v H1 at1 => ?_) fun _ _ h => h⟩
  refine ⟨B, ρ1, _, at1, (gd_bind.mp g1).mono (fun ⟨y, ρ2⟩ g2 v' H2 ⟨F, O, S⟩ => ?_) fun _ _ h => h⟩
  obtain ⟨u, e1, g3⟩ := gd_of (gd_bind.mp g2)
  obtain ⟨w, e2, g4⟩ := gd_of (gd_bind.mp g3)
  obtain ⟨r, e3, g5⟩ := gd_of (gd_bind.mp g4)
  refine ⟨u, w, r, (S.peek two_top.1 e1).dp, (S.peek two_top.2 e2).dp, e3, r, rfl, ?_⟩
  cases r with
  | false =>
    refine iteF ⟨false, rfl, ?_⟩
    exact g5 H2 S.drop.drop.sc
  | true =>
    refine iteT ?_
    have g6 := gd_bind.mp g5
    refine ⟨B, ρ2, _, S.sc, g6.mono (fun ⟨z, ρ3⟩ g7 v3 H3 ⟨F3, O3, S3⟩ => ?_) fun _ _ h => h⟩
    obtain ⟨u2, e5, g8⟩ := gd_of (gd_bind.mp g7)
    obtain ⟨w2, e6, g9⟩ := gd_of (gd_bind.mp g8)
    obtain ⟨r2, e7, g10⟩ := gd_of (gd_bind.mp g9)
    have i1 : ((T ++ [(x, v)] ++ [(y, v')]) ++ [(z, v3)])[T.length + 1]? = some (y, v') := by
      rw [List.getElem?_append_left (by simp)]
      exact two_top.2
    exact ⟨u2, w2, r2, (S3.peek i1 e5).dp, (S3.peek one_top e6).dp, e7, r2, rfl, g10 H3 S3.drop.drop.drop.sc⟩
/-- a plain expression's truth -/
def plainTest : Expr → Bool
  | .UnaryOp _ _ _ => false
  | .BoolOp _ _ _ => false
  | .IfExp _ _ _ _ => false
  | .Compare _ _ _ _ => false
  | _ => true
theorem plain_true {e : Expr} {env : PySem.Env} (h : plainTest e = true) (whole : Sem Value) : isTrue e env whole = (do let v ← whole; standAt e.pos; holding [v] (truthy v)) := by
  cases e <;> first | rfl | cases h
theorem tru_sound {v : V} {u : D} {t : Bool} (h : Dp K H v u) (e : truD u = some t) : TruV K v H t := by
  cases u with
  | none => cases h; cases e; rfl
  | bool b => cases h; cases e; rfl
  | int i => cases h; cases e; rfl
  | str s =>
    cases h
    simp only [truD] at e
    split at e
    · rename_i hz
      cases e
      exact ⟨Nat.le_trans hz lim_size, rfl⟩
    · cases e
  | list xs =>
    cases h with
    | lst h1 h2 =>
      cases e
      rename_i a vs
      refine .inl ⟨vs, h1, ?_⟩
      cases h2 <;> rfl
  | tuple xs =>
    cases h with
    | tup h1 h2 =>
      cases e
      rename_i a vs
      refine .inr (.inl ⟨vs, h1, ?_⟩)
      cases h2 <;> rfl
  | dict _ => cases e
theorem rdt_tru {a : Expr} {ea : Env → Res (R × Env)} (hp : plainTest a = true) (ha : PE X a (RdE X.K A Wx ea)) :
    PT X a (RdT X.K A Wx fun ρ => do
      let (x, ρ) ← ea ρ
      let u ← Res.of (x.peek ρ)
      let t ← Res.of (truD u)
      .ok (t, ρ)) := by
  refine PT_imp (pt_truth ha (plain_true hp)) fun σ H Q ⟨B, ρ, T, at_, g⟩ => ?_
  refine ⟨B, ρ, T, at_, (gd_bind.mp g).mono (fun ⟨x, ρ1⟩ g1 v H1 ⟨F, O, S⟩ => ?_) fun _ _ h => h⟩
  obtain ⟨u, e1, g3⟩ := gd_of (gd_bind.mp g1)
  obtain ⟨t, e2, g4⟩ := gd_of (gd_bind.mp g3)
  exact ⟨t, tru_sound (S.peek one_top e1).dp e2, g4 H1 S.drop.sc⟩
end
end Mn
set_option Elab.async false
set_option linter.all false
set_option maxRecDepth 100000
set_option maxHeartbeats 1000000
namespace Mn
open PySem PySem.Spec PyProof.Rows L2

section
variable {X : Cx} {K : PySem.W.Frag} {A : Ad} {Wx : WX} {B : Bs} {σ : L2.St} {ρ ρ' : Env} {T : Tmps} {H H' F : Hp} {O : Addr → Option Owner}
/-! ### sorted, repr -/
def RD (K : PySem.W.Frag) (F : Hp) : Value → D → Prop := fun u d => ∃ x, RelV x u ∧ Dq K F x d
theorem each_of {F : Hp} : ∀ {vs : List V} {us : List Value} {ds : List D}, Vals vs us → DqAll K F vs ds → PySem.W.EachIs (RD K F) us ds
  | _, _, _, .nil, .nil => .nil
  | _, _, _, .cons r t, .cons d ds => .cons ⟨_, r, d⟩ (each_of t ds)
theorem of_each {F : Hp} : ∀ {us : List Value} {ds : List D}, PySem.W.EachIs (RD K F) us ds → ∃ vs, Vals vs us ∧ DqAll K F vs ds
  | _, _, .nil => ⟨[], .nil, .nil⟩
  | _, _, .cons ⟨x, r, d⟩ t => by
    obtain ⟨vs, a, b⟩ := of_each t
    exact ⟨x :: vs, .cons r a, .cons d b⟩
theorem each_reads {pins : List (Addr × Obj)} {s : Shared} (I : Inv X pins σ H s) (hs : Sub F H) : ∀ {us : List Value} {ds : List D}, PySem.W.EachIs (RD X.K F) us ds → PySem.W.EachIs (fun v b => ∃ as, Reads s.heap v b as) us ds
  | _, _, .nil => .nil
  | _, _, .cons ⟨x, r, d⟩ t => .cons (Dp.reads I _ x _ (Dq.dp _ _ (dp_sub hs _ _ d)) r) (each_reads I hs t)
theorem sortOk_of {ds : List D} (h : sortOk ds = true) : PySem.W.AllAlike ds ∧ PySem.W.Sortable ds ∧ ds.length ≤ LIM ∧ ∀ d ∈ ds, d.depth ≤ 60 := by
  unfold sortOk at h
  simp only [Bool.and_eq_true, decide_eq_true_eq, List.all_eq_true, Bool.or_eq_true] at h
  obtain ⟨⟨⟨h1, h2⟩, h3⟩, h4⟩ := h
  refine ⟨fun a ha b hb => h1 a ha b hb, ?_, h3, h4⟩
  rcases h2 with h2 | h2
  · refine .inl fun d hd => ?_
    have := h2 d hd
    cases d with
    | tuple xs =>
      cases xs with
      | nil => cases this
      | cons x r => exact ⟨x, r, rfl⟩
    | _ => cases this
  · refine .inr fun d hd => ?_
    have := h2 d hd
    constructor
    · intro z; subst z; cases this
    · intro xs z; subst z; cases this
def rSortD (K : PySem.W.Frag) : List V → Hp → VK → Prop := fun xs H Q => ∃ F l vs ds, Sub F H ∧ xs = [V.ref l] ∧ (Rd H l (.lst vs) ∨ SqT K H l vs) ∧ DqAll K F vs ds ∧ sortOk ds = true ∧
  ∀ us p, H p = none → DqAll K F us (sortD ds) → Q (.ref p) (upd H p (.lst us))
theorem cr_sortD (hu : X.A.units + 65 < cLine) : CallR X (.builtin "sorted") (rSortD X.K) := by
  intro pins s σ H xs us Q I r h
  obtain ⟨F, l, vs, ds, hF, rfl, hl, hd, hk, q⟩ := h
  obtain ⟨al, so, len, dep⟩ := sortOk_of hk
  rw [Vals.ref1 r]
  rcases hl with hl | hl
  · obtain ⟨its, n, rv, e1, hz⟩ := rd_list I hl
    have es := each_of rv hd
    have hlen := PySem.W.EachIs.length es
    refine PySem.W.sorted_data (s := s) (vs := its) (bs := ds) (enc := fun d => d) (R := RD X.K F) ⟨_, e1, rfl, n, rfl⟩ es (each_reads I hF es) (by simpa using al) (by simpa using so) (Nat.le_trans len lim_size) (fun d m => ?_) fun out ho eo => ?_
    · have := dep d m; omega
    · obtain ⟨ws, rw', dw⟩ := of_each eo
      obtain ⟨ep, he⟩ := PyProof.Rows.sortedAll_at s.heap its out.toArray
      have wl : ws.length ≤ sizeLine := by
        rw [rw'.length, ho]; exact Nat.le_trans len lim_size
      refine ⟨.ref (s.heap.objs.size + 1), upd H (s.heap.objs.size + 1) (.lst ws), I.laid (t' := s.toks) (fun b o z => PyProof.Rows.sortedAll_old z) (Nat.le_succ _) ⟨wl, out, ep, rw', he⟩, rfl, q ws _ (I.hok.fresh (Nat.le_succ _)) (by rw [sortD_eq]; exact dw)⟩
  · obtain ⟨its, rv, pl, hz⟩ := I.tuple hl
    have es := each_of rv hd
    have hlen := PySem.W.EachIs.length es
    refine PySem.W.sorted_dataT (s := s) (vs := its) (bs := ds) (enc := fun d => d) (R := RD X.K F) pl es (each_reads I hF es) (by simpa using al) (by simpa using so) (Nat.le_trans len lim_size) (fun d m => ?_) fun out ho eo => ?_
    · have := dep d m; omega
    · obtain ⟨ws, rw', dw⟩ := of_each eo
      obtain ⟨ep, he⟩ := PyProof.Rows.sortedAll_at s.heap its out.toArray
      have wl : ws.length ≤ sizeLine := by
        rw [rw'.length, ho]; exact Nat.le_trans len lim_size
      refine ⟨.ref (s.heap.objs.size + 1), upd H (s.heap.objs.size + 1) (.lst ws), I.laid (t' := s.toks) (fun b o z => PyProof.Rows.sortedAll_old z) (Nat.le_succ _) ⟨wl, out, ep, rw', he⟩, rfl, q ws _ (I.hok.fresh (Nat.le_succ _)) (by rw [sortD_eq]; exact dw)⟩
def rReprD (K : PySem.W.Frag) : List V → Hp → VK → Prop := fun xs H Q => ∃ v d, xs = [v] ∧ Dq K H v d ∧ d.showable = true ∧ d.hasDict = false ∧ d.depth ≤ 60 ∧ d.shown.length ≤ sizeLine ∧ Q (.str d.shown) H
theorem cr_reprD (hu : X.A.units + 65 < cLine) (hg : X.A.guards = some []) : CallR X (.builtin "repr") (rReprD X.K) := by
  intro pins s σ H xs us Q I r h
  obtain ⟨v, d, rfl, hd, hs, hn, dep, hz, q⟩ := h
  have ref : ∀ a, v = .ref a → wpAny (model X.prog X.w) X.A (call (.builtin "repr") us) (EP X pins σ Q) X.xe s := fun a e => by
    subst e
    rw [Vals.ref1 r]
    obtain ⟨as, rd⟩ := Dp.reads I d (.ref a) (.ref a) (Dq.dp _ _ hd) rfl
    exact repr_of_reads' rd hs (fun z => by rw [hn] at z; cases z) hg (by omega) (fun _ _ e => e) (fun h' u tk k => ⟨.str d.shown, H, I.kept (t' := tk) k, ⟨u, rfl⟩, q⟩) hz
  obtain ⟨u, eu, ru⟩ := vals1 r
  subst eu
  have kept : ∀ tk, Inv X pins σ H { s with toks := tk } := fun tk => I.kept (t' := tk) fun _ _ e => e
  cases d with
  | none =>
    cases hd
    obtain rfl : u = Value.none := ru
    exact P.repr_of_none ⟨.str (PyData.none).shown, H, kept _, ⟨_, rfl⟩, q⟩
  | bool b =>
    cases hd
    obtain rfl : u = Value.bool b := ru
    exact P.repr_of_bool ⟨.str (PyData.bool b).shown, H, kept _, ⟨s.toks, by simp [PyData.shown]⟩, q⟩
  | int i =>
    cases hd
    obtain ⟨t, rfl⟩ := ru
    refine P.repr_of_int (by simpa [PyData.showable] using hs) ⟨.str (PyData.int i).shown, H, kept _, ⟨s.toks, by simp [PyData.shown]⟩, q⟩
  | str x =>
    cases hd
    obtain ⟨t, rfl⟩ := ru
    refine P.repr_of_str ⟨.str (PyData.str x).shown, H, kept _, ⟨s.toks, by simp [PyData.shown]⟩, q⟩ (by simpa [PyData.shown] using hz)
  | list xs => cases hd; exact ref _ rfl
  | tuple xs => cases hd; exact ref _ rfl
  | dict kvs => cases hd

/-! ### built-ins by name -/
/-- an argument alone -/
theorem one_arg {rs : List R} {vs : List V} {d : D} (hl : vs.length = rs.length) (e : peekAll ρ rs = some [d]) : ∃ r v, rs = [r] ∧ vs = [v] ∧ r.peek ρ = some d := by
  cases rs with
  | nil => cases e
  | cons r rs =>
    cases rs with
    | nil =>
      obtain ⟨v, rfl⟩ : ∃ v, vs = [v] := by
        cases vs with
        | nil => cases hl
        | cons v vs =>
          cases vs with
          | nil => exact ⟨v, rfl⟩
          | cons _ _ => cases hl
      refine ⟨r, v, rfl, rfl, ?_⟩
      simp only [peekAll] at e
      split at e
      · rename_i x xs h1 h2
        cases h2
        cases e
        exact h1
      · cases e
    | cons r2 rs =>
      simp only [peekAll] at e
      split at e
      · rename_i x xs h1 h2
        split at h2
        · cases h2; cases e
        · cases h2
      · cases e
theorem two_arg {rs : List R} {vs : List V} {d d' : D} (hl : vs.length = rs.length) (e : peekAll ρ rs = some [d, d']) : ∃ r v r' v', rs = [r, r'] ∧ vs = [v, v'] ∧ r.peek ρ = some d ∧ r'.peek ρ = some d' := by
  cases rs with
  | nil => cases e
  | cons r rs =>
    cases vs with
    | nil => cases hl
    | cons v vs =>
      simp only [peekAll] at e
      split at e
      · rename_i x xs h1 h2
        cases e
        obtain ⟨r', v', e1, e2, e3⟩ := one_arg (rs := rs) (vs := vs) (by simpa using hl) h2
        subst e1 e2
        exact ⟨r, v, r', v', rfl, rfl, h1, e3⟩
      · cases e
/-- the ones with a rule of their own -/
def Blt.sp : Blt → Bool
  | .isStr => true | .isTup => true | .sset => true | .rngL1 => true | .rngL2 => true
  | _ => false
def Blt.name : Blt → Str
  | .len => "len" | .abs => "abs" | .int => "int" | .tuple => "tuple" | .list => "list" | .sorted => "sorted" | .repr => "repr" | .all => "all" | .any => "any" | .min2 => "min" | .max2 => "max"
  | .isStr => "isinstance" | .isTup => "isinstance" | .sset => "sorted" | .rngL1 => "list" | .rngL2 => "list"
def bltRule (K : PySem.W.Frag) : Blt → List V → Hp → VK → Prop
  | .len => fun xs H Q => ∃ x n, xs = [x] ∧ LenV K x H n ∧ Q (V.int n) H
  | .abs => fun xs H Q => ∃ i, xs = [V.int i] ∧ Q (V.int (if i < 0 then -i else i)) H
  | .int => fun xs H Q => (∃ i, xs = [V.int i] ∧ Q (V.int i) H) ∨ ∃ k, xs = [V.bl k] ∧ Q (V.int (if k = true then 1 else 0)) H
  | .tuple => fun xs H Q => ∃ p ys, xs = [V.ref p] ∧ ((SqL K H p ys ∧ ∀ l, H l = none → Q (V.ref l) (upd H l (HO.tup ys))) ∨ SqT K H p ys ∧ Q (V.ref p) H)
  | .list => fun xs H Q => ∃ p ys, xs = [V.ref p] ∧ (SqL K H p ys ∨ SqT K H p ys) ∧ ∀ l, H l = none → Q (V.ref l) (upd H l (HO.lst ys))
  | .sorted => rSortD K
  | .repr => rReprD K
  | .all => rAll K
  | .any => rAny K
  | .min2 => fun xs H Q => ∃ i j, xs = [V.int i, V.int j] ∧ Q (V.int (if j < i then j else i)) H
  | .max2 => fun xs H Q => ∃ i j, xs = [V.int i, V.int j] ∧ Q (V.int (if j > i then j else i)) H
  | _ => fun _ _ _ => False
theorem bools_of : ∀ {xs : List D} {bs : List Bool} {vs : List V}, boolsD xs = some bs → DqAll K F vs xs → vs = bs.map V.bl
  | [], bs, vs, e, h => by cases e; cases h; rfl
  | .bool b :: r, bs, vs, e, h => by
    simp only [boolsD] at e
    cases q : boolsD r with
    | none => rw [q] at e; cases e
    | some l =>
      rw [q] at e
      cases e
      cases h with
      | cons h1 h2 =>
        rw [bools_of q h2, dp_bl h1]
        rfl
  | .none :: _, _, _, e, _ => by cases e
  | .int _ :: _, _, _, e, _ => by cases e
  | .str _ :: _, _, _, e, _ => by cases e
  | .list _ :: _, _, _, e, _ => by cases e
  | .tuple _ :: _, _, _, e, _ => by cases e
  | .dict _ :: _, _, _, e, _ => by cases e
theorem top_zip {r : R} {v : V} : (T ++ [r].zip [v])[T.length]? = some (r, v) := by simp
theorem zip2_at {a b : R} {v u : V} : (T ++ [a, b].zip [v, u])[T.length]? = some (a, v) ∧ (T ++ [a, b].zip [v, u])[T.length + 1]? = some (b, u) := by
  constructor <;> (rw [List.getElem?_append_right (by omega)]; simp)
theorem blt_sound {b : Blt} {g : Bool} {rs : List R} {vs : List V} {ds : List D} {r : R} {Q : VK} (S : Sep K A B σ ρ (T ++ rs.zip vs) H F O) (hl : vs.length = rs.length) (hp : peekAll ρ rs = some ds) (e : bltD g b ds = some r)
    (q : ∀ z H', At K A B σ ρ (T ++ [(r, z)]) H' → Q z H') (h1 : b.sp = false) : bltRule K b vs H Q := by
  have S0 := S.drop
  cases b with
  | rngL1 => cases h1
  | rngL2 => cases h1
  | isStr => cases h1
  | isTup => cases h1
  | sset => cases h1
  | len =>
    match ds, e with
    | [.list xs], e =>
      cases e
      obtain ⟨a, v, rfl, rfl, pk⟩ := one_arg hl hp
      obtain ⟨p, us, rfl, hp', dd⟩ := S.peekL top_zip pk
      refine ⟨_, us.length, rfl, .inl ⟨us, .inl hp', rfl⟩, q _ _ ?_⟩
      rw [dpa_len dd]; exact S0.pushD (.int _)
    | [.tuple xs], e =>
      cases e
      obtain ⟨a, v, rfl, rfl, pk⟩ := one_arg hl hp
      obtain ⟨_, p, us, rfl, hp', dd⟩ := S.peekT top_zip pk
      refine ⟨_, us.length, rfl, .inr ⟨us, hp', rfl⟩, q _ _ ?_⟩
      rw [dpa_len dd]; exact S0.pushD (.int _)
    | [.str z], e =>
      simp only [bltD] at e
      split at e
      · rename_i hz
        cases e
        obtain ⟨a, v, rfl, rfl, pk⟩ := one_arg hl hp
        have := dp_str (S.peek top_zip pk)
        subst this
        exact ⟨_, z.length, rfl, ⟨Nat.le_trans hz lim_size, rfl⟩, q _ _ (S0.pushD (.int _))⟩
      · cases e
  | abs =>
    match ds, e with
    | [.int i], e =>
      cases e
      obtain ⟨a, v, rfl, rfl, pk⟩ := one_arg hl hp
      have := dp_int (S.peek top_zip pk)
      subst this
      exact ⟨i, rfl, q _ _ (S0.pushD (.int _))⟩
  | int =>
    match ds, e with
    | [.int i], e =>
      cases e
      obtain ⟨a, v, rfl, rfl, pk⟩ := one_arg hl hp
      have := dp_int (S.peek top_zip pk)
      subst this
      exact .inl ⟨i, rfl, q _ _ (S0.pushD (.int _))⟩
    | [.bool i], e =>
      cases e
      obtain ⟨a, v, rfl, rfl, pk⟩ := one_arg hl hp
      have := dp_bl (S.peek top_zip pk)
      subst this
      exact .inr ⟨i, rfl, q _ _ (S0.pushD (.int _))⟩
  | tuple =>
    match ds, e with
    | [.list xs], e =>
      cases e
      obtain ⟨a, v, rfl, rfl, pk⟩ := one_arg hl hp
      obtain ⟨p, us, rfl, hp', dd⟩ := S.peekL top_zip pk
      exact ⟨p, us, rfl, .inl ⟨.inl hp', fun l hl => q _ _ (S0.newTup hl dd)⟩⟩
    | [.tuple xs], e =>
      cases e
      obtain ⟨a, v, rfl, rfl, pk⟩ := one_arg hl hp
      obtain ⟨dt, p, us, rfl, hp', dd⟩ := S.peekT top_zip pk
      exact ⟨p, us, rfl, .inr ⟨hp', q _ _ (S0.pushD dt)⟩⟩
  | list =>
    match ds, e with
    | [.list xs], e =>
      cases e
      obtain ⟨a, v, rfl, rfl, pk⟩ := one_arg hl hp
      obtain ⟨p, us, rfl, hp', dd⟩ := S.peekL top_zip pk
      exact ⟨p, us, rfl, .inl (.inl hp'), fun l hl => q _ _ (S0.newLst hl dd)⟩
    | [.tuple xs], e =>
      cases e
      obtain ⟨a, v, rfl, rfl, pk⟩ := one_arg hl hp
      obtain ⟨dt, p, us, rfl, hp', dd⟩ := S.peekT top_zip pk
      exact ⟨p, us, rfl, .inr hp', fun l hl => q _ _ (S0.newLst hl dd)⟩
  | sorted =>
    match ds, e with
    | [.list xs], e =>
      simp only [bltD] at e
      split at e
      · rename_i hk
        cases e
        obtain ⟨a, v, rfl, rfl, pk⟩ := one_arg hl hp
        obtain ⟨p, us, rfl, hp', dd⟩ := S.peekL top_zip pk
        exact ⟨F, p, us, xs, S.fh, rfl, .inl hp', dd, hk, fun ws l hl dw => q _ _ (S0.newLst hl dw)⟩
      · cases e
    | [.tuple xs], e =>
      simp only [bltD] at e
      split at e
      · rename_i hk
        cases e
        obtain ⟨a, v, rfl, rfl, pk⟩ := one_arg hl hp
        obtain ⟨dt, p, us, rfl, hp', dd⟩ := S.peekT top_zip pk
        exact ⟨F, p, us, xs, S.fh, rfl, .inr hp', dd, hk, fun ws l hl dw => q _ _ (S0.newLst hl dw)⟩
      · cases e
  | repr =>
    match ds, e with
    | [d], e =>
      simp only [bltD] at e
      split at e
      · rename_i hk
        cases e
        simp only [Bool.and_eq_true, Bool.not_eq_true', decide_eq_true_eq] at hk
        obtain ⟨a, v, rfl, rfl, pk⟩ := one_arg hl hp
        have pd := S.peek top_zip pk
        obtain ⟨⟨⟨⟨_, h5⟩, h6⟩, h7⟩, h8⟩ := hk
        exact ⟨v, d, rfl, pd, h5, h6, h7, h8, q _ _ (S0.pushD (.str _))⟩
      · cases e
  | all =>
    match ds, e with
    | [.list xs], e =>
      simp only [bltD] at e
      cases hb : boolsD xs with
      | none => rw [hb] at e; cases e
      | some bs =>
        rw [hb] at e
        cases e
        obtain ⟨a, v, rfl, rfl, pk⟩ := one_arg hl hp
        obtain ⟨p, us, rfl, hp', dd⟩ := S.peekL top_zip pk
        have := bools_of hb dd
        subst this
        exact ⟨p, bs, rfl, .inl hp', q _ _ (S0.pushD (.bl _))⟩
  | any =>
    match ds, e with
    | [.list xs], e =>
      simp only [bltD] at e
      cases hb : boolsD xs with
      | none => rw [hb] at e; cases e
      | some bs =>
        rw [hb] at e
        cases e
        obtain ⟨a, v, rfl, rfl, pk⟩ := one_arg hl hp
        obtain ⟨p, us, rfl, hp', dd⟩ := S.peekL top_zip pk
        have := bools_of hb dd
        subst this
        exact ⟨p, bs, rfl, .inl hp', q _ _ (S0.pushD (.bl _))⟩
  | min2 =>
    match ds, e with
    | [.int i, .int j], e =>
      cases e
      obtain ⟨a, v, a', v', rfl, rfl, p1, p2⟩ := two_arg hl hp
      have e1 := dp_int (S.peek zip2_at.1 p1)
      have e2 := dp_int (S.peek zip2_at.2 p2)
      subst e1 e2
      exact ⟨i, j, rfl, q _ _ (S0.pushD (.int _))⟩
  | max2 =>
    match ds, e with
    | [.int i, .int j], e =>
      cases e
      obtain ⟨a, v, a', v', rfl, rfl, p1, p2⟩ := two_arg hl hp
      have e1 := dp_int (S.peek zip2_at.1 p1)
      have e2 := dp_int (S.peek zip2_at.2 p2)
      subst e1 e2
      exact ⟨i, j, rfl, q _ _ (S0.pushD (.int _))⟩
end
end Mn
set_option Elab.async false
set_option linter.all false
set_option maxRecDepth 100000
set_option maxHeartbeats 1000000
namespace Mn
open PySem PySem.Spec PyProof.Rows L2

section
variable {X : Cx} {A : Ad} {Wx : WX} {B : Bs} {σ : L2.St} {ρ ρ' : Env} {T : Tmps} {H H' F : Hp} {O : Addr → Option Owner}
abbrev bltEv (g : Bool) (b : Blt) (evs : Env → Res (List R × Env)) : Env → Res (R × Env) := fun ρ => do
  let (rs, ρ) ← evs ρ
  let xs ← Res.of (peekAll ρ rs)
  let r ← Res.of (bltD g b xs)
  .ok (r, ρ)
theorem rd_bltB {g : Bool} {b : Blt} {id : String} {e : Expr} {es : List Expr} {p pos : Pos} {evs : Env → Res (List R × Env)} (hc : CallR X (.builtin id) (bltRule X.K b)) (hg : Gl X b.name) (hm : X.mg b.name = none) (hv : bootBuiltins b.name = some (.builtin id))
    (hn : b.name ≠ "__name__") (hdb : (b.name == ("__debug__" : Str)) = false) (ha : PA X (e :: es) (RdA X.K A Wx evs)) (hs : (e :: es).all noStar = true) (h1 : b.sp = false) :
    PE X (.Call (.Name b.name p) (e :: es) [] pos) (RdE X.K A Wx (bltEv g b evs)) := by
  rw [List.all_cons, Bool.and_eq_true] at hs
  refine PE_imp (pe_callB hc hg hm hv ha hn hdb (star_head (noStar_ne hs.1)) (star_plain hs.2)) fun σ H Q ⟨B, ρ, T, at_, gg⟩ => ?_
  refine ⟨B, ρ, T, at_, (gd_bind.mp gg).mono (fun ⟨rs, ρ1⟩ g1 vs H1 hl ⟨F, O, S⟩ => ?_) fun _ _ h => h⟩
  obtain ⟨xs, e1, g2⟩ := gd_of (gd_bind.mp g1)
  obtain ⟨r, e2, g3⟩ := gd_of (gd_bind.mp g2)
  exact blt_sound S hl e1 e2 g3 h1
theorem rd_bltT {g : Bool} {b : Blt} {id : String} {e : Expr} {es : List Expr} {p pos : Pos} {evs : Env → Res (List R × Env)} (hc : CallR X (.type id) (bltRule X.K b)) (hg : Gl X b.name) (hm : X.mg b.name = none) (hv : bootBuiltins b.name = some (.type id))
    (hn : b.name ≠ "__name__") (hdb : (b.name == ("__debug__" : Str)) = false) (ha : PA X (e :: es) (RdA X.K A Wx evs)) (hs : (e :: es).all noStar = true) (h1 : b.sp = false) :
    PE X (.Call (.Name b.name p) (e :: es) [] pos) (RdE X.K A Wx (bltEv g b evs)) := by
  rw [List.all_cons, Bool.and_eq_true] at hs
  refine PE_imp (pe_callTy hc hg hm hv ha hn hdb (star_head (noStar_ne hs.1)) (star_plain hs.2)) fun σ H Q ⟨B, ρ, T, at_, gg⟩ => ?_
  refine ⟨B, ρ, T, at_, (gd_bind.mp gg).mono (fun ⟨rs, ρ1⟩ g1 vs H1 hl ⟨F, O, S⟩ => ?_) fun _ _ h => h⟩
  obtain ⟨xs, e1, g2⟩ := gd_of (gd_bind.mp g1)
  obtain ⟨r, e2, g3⟩ := gd_of (gd_bind.mp g2)
  exact blt_sound S hl e1 e2 g3 h1
/-- the built-ins that are functions, by their rules -/
theorem blt_fun (hc : X.calm = true) (hu : X.A.units + 65 < cLine) (hg : X.A.guards = some []) : CallR X (.builtin "repr") (bltRule X.K .repr) := cr_reprD hu hg
/-- isinstance(x, str), (x, tuple) -/
def tyD : D → String
  | .none => "NoneType" | .bool _ => "bool" | .int _ => "int" | .str _ => "str" | .list _ => "list" | .tuple _ => "tuple" | .dict _ => "dict"
theorem ty_of {K : PySem.W.Frag} {x : V} : ∀ {d : D}, Dp K H x d → TyX K H x (.type (tyD d))
  | .none, h => by cases h; exact .base .non
  | .bool b, h => by cases h; exact .base (.bl b)
  | .int i, h => by cases h; exact .base (.int i)
  | .str s, h => by cases h; exact .base (.str s)
  | .list xs, h => by
    cases h with
    | lst h1 h2 =>
      rcases h1 with (h1 | ⟨o, h1⟩) | ⟨o, its, n, h1, h3, _⟩
      · exact .base (.lst h1)
      · exact .base (.frz h1)
      · exact .kList h1 h3
  | .tuple xs, h => by
    cases h with
    | tup h1 h2 =>
      rcases h1 with (h1 | ⟨o, h1⟩) | ⟨o, its, n, h1, h3, _⟩
      · exact .base (.tup h1)
      · exact .fTuple h1
      · exact .kTuple h1 h3
theorem isi_val : ∀ d : D, kitB (tyD d) "str" = some (match d with | .str _ => true | _ => false) ∧ kitB (tyD d) "tuple" = some (match d with | .tuple _ => true | _ => false)
  | .none => ⟨(by decide +kernel : kitB "NoneType" "str" = some false), (by decide +kernel : kitB "NoneType" "tuple" = some false)⟩
  | .bool b => ⟨(by decide +kernel : kitB "bool" "str" = some false), (by decide +kernel : kitB "bool" "tuple" = some false)⟩
  | .int i => ⟨(by decide +kernel : kitB "int" "str" = some false), (by decide +kernel : kitB "int" "tuple" = some false)⟩
  | .str i => ⟨(by decide +kernel : kitB "str" "str" = some true), (by decide +kernel : kitB "str" "tuple" = some false)⟩
  | .list i => ⟨(by decide +kernel : kitB "list" "str" = some false), (by decide +kernel : kitB "list" "tuple" = some false)⟩
  | .tuple i => ⟨(by decide +kernel : kitB "tuple" "str" = some false), (by decide +kernel : kitB "tuple" "tuple" = some true)⟩
  | .dict i => ⟨(by decide +kernel : kitB "dict" "str" = some false), (by decide +kernel : kitB "dict" "tuple" = some false)⟩
theorem rd_isi {g : Bool} {b : Blt} {n : String} {e : Expr} {p p2 pos : Pos} {ev : Env → Res (R × Env)} (hb : (b = .isStr ∧ n = "str") ∨ (b = .isTup ∧ n = "tuple")) (hg : Gl X "isinstance") (hm : X.mg "isinstance" = none) (hg2 : Gl X n) (hm2 : X.mg n = none)
    (ha : PE X e (RdE X.K A Wx ev)) (hs : noStar e = true) :
    PE X (.Call (.Name "isinstance" p) [e, .Name n p2] [] pos) (RdE X.K A Wx fun ρ => do
      let (x, ρ) ← ev ρ
      let u ← Res.of (x.peek ρ)
      let r ← Res.of (bltD g b [u])
      .ok (r, ρ)) := by
  have hty : PE X (.Name n p2) (tC (.ty n)) := by
    rcases hb with ⟨_, rfl⟩ | ⟨_, rfl⟩
    · exact pe_bltn (u := .type "str") hg2 hm2 (by decide +kernel) rfl (by decide) (by decide)
    · exact pe_bltn (u := .type "tuple") hg2 hm2 (by decide +kernel) rfl (by decide) (by decide)
  refine PE_imp (pe_callB call_isi hg hm (by decide +kernel) (pa_cons ha (pa_cons hty pa_nil rfl) (star_head (noStar_ne hs))) (by decide) (by decide) (star_head (noStar_ne hs)) rfl) fun σ H Q ⟨B, ρ, T, at_, gg⟩ => ?_
  refine ⟨B, ρ, T, at_, (gd_bind.mp gg).mono (fun ⟨x, ρ1⟩ g1 v H1 ⟨F, O, S⟩ => ?_) fun _ _ h => h⟩
  obtain ⟨u, e1, g2⟩ := gd_of (gd_bind.mp g1)
  obtain ⟨r, e2, g3⟩ := gd_of (gd_bind.mp g2)
  have pd := Dq.dp _ _ (S.peek one_top e1)
  have ty := ty_of pd
  have S0 := S.drop
  rcases hb with ⟨rfl, rfl⟩ | ⟨rfl, rfl⟩
  · refine ⟨v, .ty "str", _, .type "str", _, rfl, .ty "str", ty, kit_ty (isi_val u).1, g3 _ _ ?_⟩
    cases u <;> cases e2 <;> exact S0.pushD (.bl _)
  · refine ⟨v, .ty "tuple", _, .type "tuple", _, rfl, .ty "tuple", ty, kit_ty (isi_val u).2, g3 _ _ ?_⟩
    cases u <;> cases e2 <;> exact S0.pushD (.bl _)

/-! ### places, parts -/
theorem atI_dq {K : PySem.W.Frag} {vs : List V} {xs : List D} {i : Int} {x : D} (h : DqAll K F vs xs) (e : atI xs i = some x) : ∃ v, atI vs i = some v ∧ Dq K F v x := by
  unfold atI at e ⊢
  rw [dpa_len h]
  cases q : ixN xs.length i with
  | none => rw [q] at e; cases e
  | some j =>
    rw [q] at e
    exact dpa_get h e
def plainIx : Expr → Bool
  | .Slice _ _ _ _ => false
  | .Tuple _ _ _ => false
  | _ => true
theorem plain_ix {b : Expr} (h : plainIx b = true) : PlainIx b := by
  cases b <;> first | (exact fun _ _ => rfl) | cases h
theorem rd_idx {a b : Expr} {pos : Pos} {ea eb : Env → Res (R × Env)} (hb : plainIx b = true) (ha : PE X a (RdE X.K A Wx ea)) (hb' : PE X b (RdE X.K A Wx eb)) :
    PE X (.Subscript a b pos) (RdE X.K A Wx fun ρ => do
      let (x, ρ) ← ea ρ
      let (y, ρ) ← eb ρ
      let u ← Res.of (x.peek ρ)
      let v ← Res.of (y.peek ρ)
      let r ← Res.of (idxD u v)
      .ok (.d r, ρ)) := by
  refine PE_imp (pe_ix ix_seq ha hb' (plain_ix hb)) fun σ H Q ⟨B, ρ, T, at_, g⟩ => ?_
  refine ⟨B, ρ, T, at_, (gd_bind.mp g).mono (fun ⟨x, ρ1⟩ g1 v H1 at1 => ?_) fun _ _ h => h⟩
  refine ⟨B, ρ1, _, at1, (gd_bind.mp g1).mono (fun ⟨y, ρ2⟩ g2 v' H2 ⟨F, O, S⟩ => ?_) fun _ _ h => h⟩
  obtain ⟨u, e1, g3⟩ := gd_of (gd_bind.mp g2)
  obtain ⟨w, e2, g4⟩ := gd_of (gd_bind.mp g3)
  obtain ⟨r, e3, g5⟩ := gd_of (gd_bind.mp g4)
  have S0 := S.drop.drop
  have py := S.peek two_top.2 e2
  cases u with
  | list xs =>
    cases w with
    | int i =>
      obtain ⟨p, vs, ex, hp, dd⟩ := S.peekL two_top.1 e1
      obtain ⟨z, hz, dz⟩ := atI_dq dd e3
      exact .inl ⟨p, vs, i, z, ex, dp_int py, .inl hp, hz, g5 _ _ (S0.pushD dz)⟩
    | _ => cases e3
  | tuple xs =>
    cases w with
    | int i =>
      obtain ⟨_, p, vs, ex, hp, dd⟩ := S.peekT two_top.1 e1
      obtain ⟨z, hz, dz⟩ := atI_dq dd e3
      exact .inr (.inl ⟨p, vs, i, z, ex, dp_int py, hp, hz, g5 _ _ (S0.pushD dz)⟩)
    | _ => cases e3
  | str s =>
    cases w with
    | int i =>
      simp only [idxD] at e3
      split at e3
      · rename_i hz
        cases q : atI s.cps.toList i with
        | none => rw [q] at e3; cases e3
        | some c =>
          rw [q] at e3
          cases e3
          exact .inr (.inr ⟨s, i, c, dp_str (S.peek two_top.1 e1), dp_int py, Nat.le_trans hz lim_size, q, g5 _ _ (S0.pushD (.str _))⟩)
      · cases e3
    | _ => cases e3
  | _ => cases w <;> cases e3
theorem rdo_none : PO X none (RdO X.K A Wx fun ρ => .ok (none, ρ)) := PO_imp po_none fun σ H Q ⟨B, ρ, T, at_, g⟩ => g H at_
theorem rdo_some {e : Expr} {ev : Env → Res (R × Env)} (h : PE X e (RdE X.K A Wx ev)) : PO X (some e) (RdO X.K A Wx fun ρ => do
    let (r, ρ) ← ev ρ
    match r with
    | .d (.int i) => .ok (some i, ρ)
    | _ => .stuck) := by
  refine PO_imp (po_some h) fun σ H Q ⟨B, ρ, T, at_, g⟩ => ?_
  refine ⟨B, ρ, T, at_, (gd_bind.mp g).mono (fun ⟨x, ρ1⟩ g1 v H1 ⟨F, O, S⟩ => ?_) fun _ _ h => h⟩
  match x, g1, S with
  | .d (.int i), g1, S => exact ⟨i, dp_int S.top, g1 H1 S.drop.sc⟩
theorem cut_dq {K : PySem.W.Frag} {vs : List V} {xs : List D} {lo hi : Option Int} (h : DqAll K F vs xs) : DqAll K F (cutV vs lo hi) (cutL xs lo hi) := by
  unfold cutV cutL
  rw [dpa_len h]
  exact dpa_take _ (dpa_drop _ h)
theorem SlR_or {r r' : V → Option Int → Option Int → Hp → VK → Prop} (h : SlR X r) (h' : SlR X r') : SlR X (fun x l u H Q => r x l u H Q ∨ r' x l u H Q) := fun pins s σ H x v vl vu lo hi sl Q I rx hs pl pu q =>
  q.elim (h pins s σ H x v vl vu lo hi sl Q I rx hs pl pu) (h' pins s σ H x v vl vu lo hi sl Q I rx hs pl pu)
theorem rd_slc {a : Expr} {lo hi : Option Expr} {pos p2 : Pos} {ea : Env → Res (R × Env)} {el eh : Env → Res (Option Int × Env)} (ha : PE X a (RdE X.K A Wx ea)) (hl : PO X lo (RdO X.K A Wx el)) (hh : PO X hi (RdO X.K A Wx eh)) :
    PE X (.Subscript a (.Slice lo hi none p2) pos) (RdE X.K A Wx fun ρ => do
      let (x, ρ) ← ea ρ
      let (l, ρ) ← el ρ
      let (h, ρ) ← eh ρ
      let u ← Res.of (x.peek ρ)
      let r ← Res.of (slcD u l h)
      .ok (r, ρ)) := by
  refine PE_imp (pe_slice (SlR_or sl_list (SlR_or sl_tupA sl_str)) ha hl hh) fun σ H Q ⟨B, ρ, T, at_, g⟩ => ?_
  refine ⟨B, ρ, T, at_, (gd_bind.mp g).mono (fun ⟨x, ρ1⟩ g1 v H1 at1 => ?_) fun _ _ h => h⟩
  refine ⟨B, ρ1, _, at1, (gd_bind.mp g1).mono (fun ⟨l, ρ2⟩ g2 H2 at2 => ?_) fun _ _ h => h⟩
  refine ⟨B, ρ2, _, at2, (gd_bind.mp g2).mono (fun ⟨h, ρ3⟩ g3 H3 ⟨F, O, S⟩ => ?_) fun _ _ h => h⟩
  obtain ⟨u, e1, g4⟩ := gd_of (gd_bind.mp g3)
  obtain ⟨r, e2, g5⟩ := gd_of (gd_bind.mp g4)
  have S0 := S.drop
  cases u with
  | list xs =>
    cases e2
    obtain ⟨p, vs, ex, hp, dd⟩ := S.peekL one_top e1
    exact .inl ⟨p, vs, ex, .inl hp, fun z hz => g5 _ _ (S0.newLst hz (cut_dq dd))⟩
  | tuple xs =>
    cases e2
    obtain ⟨dt, p, vs, ex, hp, dd⟩ := S.peekT one_top e1
    refine .inr (.inl ⟨p, vs, ex, hp, fun hw => g5 _ _ ?_, fun _ z hz => g5 _ _ (S0.newTup hz (cut_dq dd))⟩)
    have : cutL xs l h = xs := by
      rw [dpa_len dd] at hw
      unfold cutL
      rw [hw.1, hw.2]
      simp
    rw [this, ← ex]
    exact S0.pushD dt
  | str s =>
    simp only [slcD] at e2
    split at e2
    · rename_i hz
      cases e2
      exact .inr (.inr ⟨s, dp_str (S.peek one_top e1), Nat.le_trans hz lim_size, g5 _ _ (S0.pushD (.str _))⟩)
    · cases e2
  | _ => cases e2

/-! ### and, or, not; a if c else b -/
theorem rdw_and {a b : Expr} {rest : List Expr} {pos : Pos} {ea eb : Env → Res (Bool × Env)} (ha : PT X a (RdT X.K A Wx ea)) (hb : PW X (.BoolOp .And (b :: rest) pos) (RdT X.K A Wx eb)) :
    PW X (.BoolOp .And (a :: b :: rest) pos) (RdT X.K A Wx fun ρ => do let (t, ρ) ← ea ρ; if t then eb ρ else .ok (false, ρ)) := by
  refine PW_imp (pw_and ha hb) fun σ H Q ⟨B, ρ, T, at_, g⟩ => ?_
  refine ⟨B, ρ, T, at_, (gd_bind.mp g).mono (fun ⟨t, ρ1⟩ g1 H1 at1 => ?_) fun _ _ h => h⟩
  cases t with
  | true => exact iteT ⟨B, ρ1, T, at1, g1⟩
  | false => exact iteF (g1 H1 at1)
theorem rdw_or {a b : Expr} {rest : List Expr} {pos : Pos} {ea eb : Env → Res (Bool × Env)} (ha : PT X a (RdT X.K A Wx ea)) (hb : PW X (.BoolOp .Or (b :: rest) pos) (RdT X.K A Wx eb)) :
    PW X (.BoolOp .Or (a :: b :: rest) pos) (RdT X.K A Wx fun ρ => do let (t, ρ) ← ea ρ; if t then .ok (true, ρ) else eb ρ) := by
  refine PW_imp (pw_or ha hb) fun σ H Q ⟨B, ρ, T, at_, g⟩ => ?_
  refine ⟨B, ρ, T, at_, (gd_bind.mp g).mono (fun ⟨t, ρ1⟩ g1 H1 at1 => ?_) fun _ _ h => h⟩
  cases t with
  | true => exact iteT (g1 H1 at1)
  | false => exact iteF ⟨B, ρ1, T, at1, g1⟩
theorem rdt_not {a : Expr} {pos : Pos} {ea : Env → Res (Bool × Env)} (ha : PT X a (RdT X.K A Wx ea)) : PT X (.UnaryOp .Not a pos) (RdT X.K A Wx fun ρ => do let (t, ρ) ← ea ρ; .ok (!t, ρ)) := by
  refine PT_imp (pt_not ha) fun σ H Q ⟨B, ρ, T, at_, g⟩ => ?_
  exact ⟨B, ρ, T, at_, (gd_bind.mp g).mono (fun ⟨t, ρ1⟩ g1 H1 at1 => g1 H1 at1) fun _ _ h => h⟩
theorem rd_ite {c a b : Expr} {pos : Pos} {ec : Env → Res (Bool × Env)} {ea eb : Env → Res (R × Env)} (hc : PT X c (RdT X.K A Wx ec)) (ha : PE X a (RdE X.K A Wx ea)) (hb : PE X b (RdE X.K A Wx eb)) :
    PE X (.IfExp c a b pos) (RdE X.K A Wx fun ρ => do let (t, ρ) ← ec ρ; if t then ea ρ else eb ρ) := by
  refine PE_imp (pe_ifExp hc ha hb) fun σ H Q ⟨B, ρ, T, at_, g⟩ => ?_
  refine ⟨B, ρ, T, at_, (gd_bind.mp g).mono (fun ⟨t, ρ1⟩ g1 H1 at1 => ?_) fun _ _ h => h⟩
  cases t with
  | true => exact iteT ⟨B, ρ1, T, at1, g1⟩
  | false => exact iteF ⟨B, ρ1, T, at1, g1⟩
/-- as values -/
theorem rd_one {op : BoolOp} {a : Expr} {pos : Pos} {ea : Env → Res (R × Env)} (ha : PE X a (RdE X.K A Wx ea)) : PE X (.BoolOp op [a] pos) (RdE X.K A Wx ea) := pe_one ha
theorem rd_and {a b : Expr} {rest : List Expr} {pos : Pos} {ea eb : Env → Res (R × Env)} (ha : PE X a (RdE X.K A Wx ea)) (hb : PE X (.BoolOp .And (b :: rest) pos) (RdE X.K A Wx eb)) :
    PE X (.BoolOp .And (a :: b :: rest) pos) (RdE X.K A Wx fun ρ => do
      let (x, ρ) ← ea ρ
      match x with
      | .d (.bool true) => eb ρ
      | .d (.bool false) => .ok (.d (.bool false), ρ)
      | _ => .stuck) := by
  refine PE_imp (pe_and ha hb) fun σ H Q ⟨B, ρ, T, at_, g⟩ => ?_
  refine ⟨B, ρ, T, at_, (gd_bind.mp g).mono (fun ⟨x, ρ1⟩ g1 v H1 ⟨F, O, S⟩ => ?_) fun _ _ h => h⟩
  match x, g1, S with
  | .d (.bool true), g1, S => exact ⟨true, dp_bl S.top, iteT ⟨B, ρ1, T, S.drop.sc, g1⟩⟩
  | .d (.bool false), g1, S => exact ⟨false, dp_bl S.top, iteF (g1 _ _ (S.drop.pushD (.bl _)))⟩
theorem rd_or {a b : Expr} {rest : List Expr} {pos : Pos} {ea eb : Env → Res (R × Env)} (ha : PE X a (RdE X.K A Wx ea)) (hb : PE X (.BoolOp .Or (b :: rest) pos) (RdE X.K A Wx eb)) :
    PE X (.BoolOp .Or (a :: b :: rest) pos) (RdE X.K A Wx fun ρ => do
      let (x, ρ) ← ea ρ
      match x with
      | .d (.bool false) => eb ρ
      | .d (.bool true) => .ok (.d (.bool true), ρ)
      | _ => .stuck) := by
  refine PE_imp (pe_or ha hb) fun σ H Q ⟨B, ρ, T, at_, g⟩ => ?_
  refine ⟨B, ρ, T, at_, (gd_bind.mp g).mono (fun ⟨x, ρ1⟩ g1 v H1 ⟨F, O, S⟩ => ?_) fun _ _ h => h⟩
  match x, g1, S with
  | .d (.bool false), g1, S => exact ⟨false, dp_bl S.top, iteF ⟨B, ρ1, T, S.drop.sc, g1⟩⟩
  | .d (.bool true), g1, S => exact ⟨true, dp_bl S.top, iteT (g1 _ _ (S.drop.pushD (.bl _)))⟩
/-- a comparison, a not as a value -/
theorem rd_cmp (hu : X.A.units + 65 < cLine) {o : Cp} {a b : Expr} {pos : Pos} {ea eb : Env → Res (R × Env)} (hs : noSet b = true) (ha : PE X a (RdE X.K A Wx ea)) (hb : PE X b (RdE X.K A Wx eb)) :
    PE X (.Compare a [o.py] [b] pos) (RdE X.K A Wx fun ρ => do
      let (t, ρ) ← (do
        let (x, ρ) ← ea ρ
        let (y, ρ) ← eb ρ
        let u ← Res.of (x.peek ρ)
        let v ← Res.of (y.peek ρ)
        let t ← Res.of (cmpD o u v)
        .ok (t, ρ) : Res (Bool × Env))
      .ok (.d (.bool t), ρ)) := by
  refine PE_imp (pe_cmpR (cmp_ok hu o) ha hb (noSet_marks hs)) fun σ H Q ⟨B, ρ, T, at_, g⟩ => ?_
  refine ⟨B, ρ, T, at_, (gd_bind.mp (gd_bind.mp g)).mono (fun ⟨x, ρ1⟩ g1 v H1 at1 => ?_) fun _ _ h => h⟩
  refine ⟨B, ρ1, _, at1, (gd_bind.mp g1).mono (fun ⟨y, ρ2⟩ g2 v' H2 ⟨F, O, S⟩ => ?_) fun _ _ h => h⟩
  obtain ⟨u, e1, g3⟩ := gd_of (gd_bind.mp g2)
  obtain ⟨w, e2, g4⟩ := gd_of (gd_bind.mp g3)
  obtain ⟨r, e3, g5⟩ := gd_of (gd_bind.mp g4)
  exact ⟨u, w, r, Dq.dp _ _ (S.peek two_top.1 e1), Dq.dp _ _ (S.peek two_top.2 e2), e3, g5 _ H2 (S.drop.drop.pushD (.bl _))⟩
theorem rd_notT {a : Expr} {pos : Pos} {ea : Env → Res (R × Env)} (ha : PE X a (RdE X.K A Wx ea)) :
    PE X (.UnaryOp .Not a pos) (RdE X.K A Wx fun ρ => do
      let (t, ρ) ← (do
        let (t, ρ) ← (do
          let (x, ρ) ← ea ρ
          let u ← Res.of (x.peek ρ)
          let t ← Res.of (truD u)
          .ok (t, ρ) : Res (Bool × Env))
        .ok (!t, ρ) : Res (Bool × Env))
      .ok (.d (.bool t), ρ)) := by
  refine PE_imp (pe_notT ha) fun σ H Q ⟨B, ρ, T, at_, g⟩ => ?_
  refine ⟨B, ρ, T, at_, (gd_bind.mp (gd_bind.mp (gd_bind.mp g))).mono (fun ⟨x, ρ1⟩ g1 v H1 ⟨F, O, S⟩ => ?_) fun _ _ h => h⟩
  obtain ⟨u, e1, g2⟩ := gd_of (gd_bind.mp g1)
  obtain ⟨t, e2, g3⟩ := gd_of (gd_bind.mp g2)
  exact ⟨t, tru_sound (Dq.dp _ _ (S.peek one_top e1)) e2, g3 _ _ (S.drop.pushD (.bl _))⟩
theorem none_iff {K : PySem.W.Frag} {v : V} {u : D} (h : Dp K H v u) : decide (v = .non) = isNoneD u := by
  cases h <;> rfl
theorem rd_isN {a : Expr} {j : Nat} {p pos : Pos} {ea : Env → Res (R × Env)} (ha : PE X a (RdE X.K A Wx ea)) :
    PE X (.Compare a [.Is] [.Constant .none j p] pos) (RdE X.K A Wx fun ρ => do
      let (t, ρ) ← (do
        let (x, ρ) ← ea ρ
        let u ← Res.of (x.peek ρ)
        .ok (isNoneD u, ρ) : Res (Bool × Env))
      .ok (.d (.bool t), ρ)) := by
  refine PE_imp (pe_cmp (pc_isN ha) rfl) fun σ H Q ⟨B, ρ, T, at_, g⟩ => ?_
  refine ⟨B, ρ, T, at_, (gd_bind.mp (gd_bind.mp g)).mono (fun ⟨x, ρ1⟩ g1 v H1 ⟨F, O, S⟩ => ?_) fun _ _ h => h⟩
  obtain ⟨u, e1, g2⟩ := gd_of (gd_bind.mp g1)
  rw [none_iff (Dq.dp _ _ (S.peek one_top e1))]
  exact g2 _ _ (S.drop.pushD (.bl _))
theorem rd_notN {a : Expr} {j : Nat} {p pos : Pos} {ea : Env → Res (R × Env)} (ha : PE X a (RdE X.K A Wx ea)) :
    PE X (.Compare a [.IsNot] [.Constant .none j p] pos) (RdE X.K A Wx fun ρ => do
      let (t, ρ) ← (do
        let (x, ρ) ← ea ρ
        let u ← Res.of (x.peek ρ)
        .ok (!isNoneD u, ρ) : Res (Bool × Env))
      .ok (.d (.bool t), ρ)) := by
  refine PE_imp (pe_cmp (pc_notN ha) rfl) fun σ H Q ⟨B, ρ, T, at_, g⟩ => ?_
  refine ⟨B, ρ, T, at_, (gd_bind.mp (gd_bind.mp g)).mono (fun ⟨x, ρ1⟩ g1 v H1 ⟨F, O, S⟩ => ?_) fun _ _ h => h⟩
  obtain ⟨u, e1, g2⟩ := gd_of (gd_bind.mp g1)
  rw [none_iff (Dq.dp _ _ (S.peek one_top e1))]
  exact g2 _ _ (S.drop.pushD (.bl _))
/-- a value that is a truth, as a test (for comparisons with None) -/
theorem rdt_isN {a : Expr} {j : Nat} {p pos : Pos} {ea : Env → Res (R × Env)} (ha : PE X a (RdE X.K A Wx ea)) :
    PT X (.Compare a [.Is] [.Constant .none j p] pos) (RdT X.K A Wx fun ρ => do
      let (x, ρ) ← ea ρ
      let u ← Res.of (x.peek ρ)
      .ok (isNoneD u, ρ)) := by
  refine PT_imp (pt_cmp (pc_isN ha) rfl) fun σ H Q ⟨B, ρ, T, at_, g⟩ => ?_
  refine ⟨B, ρ, T, at_, (gd_bind.mp g).mono (fun ⟨x, ρ1⟩ g1 v H1 ⟨F, O, S⟩ => ?_) fun _ _ h => h⟩
  obtain ⟨u, e1, g2⟩ := gd_of (gd_bind.mp g1)
  refine ⟨_, rfl, ?_⟩
  rw [none_iff (Dq.dp _ _ (S.peek one_top e1))]
  exact g2 _ S.drop.sc
theorem rdt_notN {a : Expr} {j : Nat} {p pos : Pos} {ea : Env → Res (R × Env)} (ha : PE X a (RdE X.K A Wx ea)) :
    PT X (.Compare a [.IsNot] [.Constant .none j p] pos) (RdT X.K A Wx fun ρ => do
      let (x, ρ) ← ea ρ
      let u ← Res.of (x.peek ρ)
      .ok (!isNoneD u, ρ)) := by
  refine PT_imp (pt_cmp (pc_notN ha) rfl) fun σ H Q ⟨B, ρ, T, at_, g⟩ => ?_
  refine ⟨B, ρ, T, at_, (gd_bind.mp g).mono (fun ⟨x, ρ1⟩ g1 v H1 ⟨F, O, S⟩ => ?_) fun _ _ h => h⟩
  obtain ⟨u, e1, g2⟩ := gd_of (gd_bind.mp g1)
  refine ⟨_, rfl, ?_⟩
  rw [none_iff (Dq.dp _ _ (S.peek one_top e1))]
  exact g2 _ S.drop.sc
/-- a list times a number -/
theorem rd_rep {a b : Expr} {pos : Pos} {ea eb : Env → Res (R × Env)} (ha : PE X a (RdE X.K A Wx ea)) (hb : PE X b (RdE X.K A Wx eb)) :
    PE X (.BinOp a .Mult b pos) (RdE X.K A Wx fun ρ => do
      let (x, ρ) ← ea ρ
      let (y, ρ) ← eb ρ
      match x, y with
      | .fresh xs, .d (.int j) => if 0 ≤ j ∧ j ≤ 1000 ∧ xs.length ≤ 1000 then .ok (.fresh ((List.replicate j.toNat xs).flatten), ρ) else .stuck
      | _, _ => .stuck) := by
  refine PE_imp (pe_op op_rep ha hb) fun σ H Q ⟨B, ρ, T, at_, g⟩ => ?_
  refine ⟨B, ρ, T, at_, (gd_bind.mp g).mono (fun ⟨x, ρ1⟩ g1 v H1 at1 => ?_) fun _ _ h => h⟩
  refine ⟨B, ρ1, _, at1, (gd_bind.mp g1).mono (fun ⟨y, ρ2⟩ g2 v' H2 ⟨F, O, S⟩ => ?_) fun _ _ h => h⟩
  match x, y, g2, S with
  | .fresh xs, .d (.int j), g2, S =>
    obtain ⟨⟨h1, h2, h3⟩, g3⟩ := gd_if_stuck g2
    obtain ⟨p, vs, e1, e2, e3, e4⟩ := S.temps _ _ _ two_top.1
    have e5 := dp_int (S.temps _ _ _ two_top.2)
    have rep : ∀ n : Nat, DqAll X.K F (List.replicate n vs).flatten (List.replicate n xs).flatten := fun n => by
      induction n with
      | zero => exact .nil
      | succ n ih =>
        rw [List.replicate_succ, List.replicate_succ, List.flatten_cons, List.flatten_cons]
        exact dpa_app e4 ih
    refine ⟨p, j, vs, e1, e5, e3, by omega, by omega, ?_, fun z hz => g3 _ _ (S.drop.drop.newLst hz (rep _))⟩
    have : vs.length * j.toNat ≤ 1000 * 1000 := Nat.mul_le_mul (by rw [dpa_len e4]; exact h3) (by omega)
    exact Nat.le_trans this (by decide)
end
end Mn
set_option Elab.async false
set_option linter.all false
set_option maxRecDepth 100000
set_option maxHeartbeats 1000000
namespace Mn
open PySem PySem.Spec PyProof.Rows L2

section
variable {X : Cx} {A : Ad} {Wx : WX} {B : Bs} {σ : L2.St} {ρ ρ' : Env} {T : Tmps} {H H' F : Hp} {O : Addr → Option Owner}
/-! ### methods that change a list of one's own -/
theorem Sep.ownSlot {K : PySem.W.Frag} (S : Sep K A B σ ρ T H F O) {i : Nat} {l : Bool} {xs : List D} (h : ρ[i]? = some (some (W.own l xs))) : ∃ p vs, σ[i]? = some (some (.ref p)) ∧ H p = some (.lst vs) ∧ DqAll K F vs xs := by
  obtain ⟨v, a, p, vs, e1, e2, e3, e4⟩ := S.slots i _ h
  subst e1
  exact ⟨p, vs, a, e3, e4⟩
theorem tyV_list {K : PySem.W.Frag} {p : Addr} {vs : List V} (h : H p = some (.lst vs)) : tyV K "list" (.ref p) H := .inl ⟨rfl, vs, SqL.of h⟩
theorem base_name {x a : Str} {p : Pos} {env : PySem.Env} : attributeBase (.Name x p) a env (eval (.Name x p) env) = eval (.Name x p) env := rfl
theorem stars1 {e : Expr} {env : PySem.Env} {pos : Pos} (h : noStar e = true) : (((((backTo pos (starEach [e] env)).all fun x => !x.fst) && (backToKw pos (keywordEach [] env)).all fun x => x.fst.isSome) && decide (([e] : List Expr).length + ([] : List Keyword).length + (if ([] : List Keyword).isEmpty = true then 0 else 1) < 30)) = true) := by
  rw [star_head (noStar_ne h)]
  rfl
theorem stars2 {e e' : Expr} {env : PySem.Env} {pos : Pos} (h : noStar e = true) (h' : noStar e' = true) : (((((backTo pos (starEach [e, e'] env)).all fun x => !x.fst) && (backToKw pos (keywordEach [] env)).all fun x => x.fst.isSome) && decide (([e, e'] : List Expr).length + ([] : List Keyword).length + (if ([] : List Keyword).isEmpty = true then 0 else 1) < 30)) = true) := by
  rw [star_head (noStar_ne h), star_head (noStar_ne h')]
  rfl
/-- the object's own reading -/
theorem own_var {i : Nat} {Q : VK} {σ : L2.St} {p : Addr} (h : σ[i]? = some (some (.ref p))) (q : Q (.ref p) H) : tVar i σ H Q := ⟨_, h, q⟩
abbrev appEv (i : Nat) (ev : Env → Res (R × Env)) : Env → Res (R × Env) := fun ρ => match ρ[i]? with
  | some (some (.own _ _)) => do
    let p ← ev ρ
    let (y, ρ) ← keepR p
    match ρ[i]? with
    | some (some (.own l xs)) => if xs.length < LIM then .ok (.d .none, ρ.set i (some (.own l (xs ++ [y])))) else .stuck
    | _ => .stuck
  | _ => .stuck
theorem gd_keepR {p : R × Env} {ok : D × Env → Prop} {ex : Str → Env → Prop} (h : Gd (keepR p) ok ex) : ∃ x ρ', p.1.keep p.2 = some (x, ρ') ∧ ok (x, ρ') := by
  obtain ⟨⟨x, ρ'⟩, e, h⟩ := gd_of h
  exact ⟨x, ρ', e, h⟩
theorem Sep.keepTop {K : PySem.W.Frag} {r : R} {v : V} {x : D} (S : Sep K A B σ ρ (T ++ [(r, v)]) H F O) (e : r.keep ρ = some (x, ρ')) : ∃ F' O', Sep K A B σ ρ' (T ++ [(.d x, v)]) H F' O' ∧ Sub F F' := by
  obtain ⟨F', O', S', u, _⟩ := S.keep one_top e
  rw [set_at_len] at S'
  exact ⟨F', O', S', u⟩
theorem rd_app {i : Nat} {e : Expr} {nm : Expr} {apos cpos : Pos} {ev : Env → Res (R × Env)} (hn : PE X nm (tVar i)) (hb : attributeBase nm "append" X.env (eval nm X.env) = eval nm X.env) (he : PE X e (RdE X.K A Wx ev)) (hs : noStar e = true) (hp : (apos.endLine == cpos.line) = true) :
    PE X (.Call (.Attribute nm "append" apos) [e] [] cpos) (RdE X.K A Wx (appEv i ev)) := by
  refine PE_imp (pe_bm PySem.F.plainAttrs_list PySem.F.slot_list_append PySem.F.type_list_append mt_append hn (pa_cons he pa_nil (star_head (noStar_ne hs))) hb (stars1 hs) hp (star_head (noStar_ne hs)) rfl) fun σ H Q ⟨B, ρ, T, ⟨F, O, S⟩, g⟩ => ?_
  simp only [appEv] at g
  cases q : ρ[i]? with
  | none => simp only [q] at g; exact (show False from g).elim
  | some w =>
    cases w with
    | none => simp only [q] at g; exact (show False from g).elim
    | some w =>
      cases w with
      | d x => simp only [q] at g; exact (show False from g).elim
      | fn f => simp only [q] at g; exact (show False from g).elim
      | own l xs =>
        simp only [q] at g
        obtain ⟨p, vs, hσ, hp, _⟩ := S.ownSlot q
        refine own_var hσ ⟨tyV_list hp, B, ρ, T, ⟨F, O, S⟩, (gd_bind.mp g).mono (fun ⟨r, ρ1⟩ g1 v H1 ⟨F1, O1, S1⟩ => ?_) fun _ _ h => h⟩
        obtain ⟨y, ρ2, ek, g2⟩ := gd_keepR (gd_bind.mp g1)
        obtain ⟨F2, O2, S2, _⟩ := S1.keepTop ek
        simp only at g2
        cases q2 : ρ2[i]? with
        | none => simp only [q2] at g2; exact (show False from g2).elim
        | some w2 =>
          cases w2 with
          | none => simp only [q2] at g2; exact (show False from g2).elim
          | some w2 =>
            cases w2 with
            | d x => simp only [q2] at g2; exact (show False from g2).elim
            | fn f => simp only [q2] at g2; exact (show False from g2).elim
            | own l2 ys =>
              simp only [q2] at g2
              obtain ⟨hz, g3⟩ := gd_if_stuck g2
              obtain ⟨p2, us, hσ2, hp2, dd⟩ := S2.ownSlot q2
              rw [hσ] at hσ2
              cases hσ2
              have dv : Dq X.K F2 v y := S2.top
              refine ⟨p, us, v, rfl, rfl, hp2, ?_, g3 _ _ ?_⟩
              · rw [dpa_len dd]; exact Nat.lt_of_lt_of_le hz lim_size
              · exact (S2.drop.mutate q2 hσ hp2 (dpa_app dd (.cons dv .nil))).pushD .non
/-- xs.extend(ys), ys a list -/
def rExtR : V → List V → Hp → VK → Prop := fun x vs H Q => ∃ l b xs zs, x = .ref l ∧ vs = [.ref b] ∧ H l = some (.lst xs) ∧ Rd H b (.lst zs) ∧ xs.length + zs.length ≤ sizeLine ∧ Q .non (upd H l (.lst (xs ++ zs)))
theorem mt_extR : MtM X "list.extend" rExtR := by
  intro pins s σ H x vs v us Q I rx rv h
  obtain ⟨l, b, xs, zs, rfl, rfl, hl, hb, hz, q⟩ := h
  obtain rfl : v = Value.ref l := rx
  obtain ⟨u, rfl, ru⟩ := rv.one
  obtain rfl : u = Value.ref b := ru
  obtain ⟨z, i1, n1, r1, l1, e1⟩ := I.lstM hl
  obtain ⟨i2, n2, r2, e2, _⟩ := rd_list I hb
  have l2 := r2.length
  have both : i1.toArray.size + i2.toArray.size ≤ sizeLine := by simp only [List.size_toArray]; omega
  have short : ¬ (!i1.toArray.isEmpty && Builtin.List.listTooLong (i1.toArray.size + i2.toArray.size)) = true := by
    rw [notLongL both, Bool.and_false]
    exact Bool.false_ne_true
  refine call_meets F.slot_list_extend ⟨_, e1, rfl⟩ F.entry_list_extend (F.args_list_extend_2 _ _) (AutoSeq1.list_extend_list_list_0 l i1.toArray n1 b i2.toArray n2 short (by simp only [List.size_toArray]; omega) (by omega)) ⟨e1, e2, ?_⟩
  exact ⟨.non, _, I.lset (its' := i1 ++ i2) hl e1 (by simp) (r1.append r2) (by rw [List.length_append]; omega), rfl, q⟩
/-- xs.extend(t), t a tuple -/
theorem list_extend_tup (l : Addr) (items : Array Value) (n : Nat) (b : Addr) (items2 : Array Value) (n2 : Nat) (dct : Option Addr) (sl : Array (Option Value)) (hs0 : ¬(!items.isEmpty && Builtin.List.listTooLong (items.size + items2.size)) = true) (hs1 : items.size ≤ sizeLine) (hs2 : items.size + items2.size ≤ sizeLine + 1) :
    Meets (Builtin.«list.extend» ⟨[.ref l, .ref b], []⟩) (fun _ R s => s.heap.get? l = some { cls := .type "list", dict := none, data := .seq items n, slots := #[] } ∧ s.heap.get? b = some { cls := .type "tuple", dict := dct, data := .seq items2 n2, slots := sl } ∧ R (.ok (.ret Value.none)) { s with heap := s.heap.update l (Obj.mapSeq fun x => x ++ items2), toks := s.toks }) :=
  .of_wp fun prog w A R s h => by
    obtain ⟨hp, g, d, tk, os⟩ := s
    obtain ⟨hl, hb, h⟩ := h
    have f1 := AutoSeq1.idx_int
    have f2 := AutoSeq1.sub_tuple_tuple
    have f3 := AutoSeq1.sub_list_list
    have f4 := AutoSeq1.sub_tuple_list
    have f5 := AutoSeq1.sub_list_tuple
    have hz' : (items ++ items2).size ≤ sizeLine + 1 := by rw [Array.size_append]; exact hs2
    wp_walk using (wpAny_updateSeq hl rfl (hz := hs1) (_hz' := hz')), AutoSeq1.wpAny_loadPart' hl, AutoSeq1.wpAny_loadPart' hb
    exact ⟨_, rfl, h⟩
def rExtT (K : PySem.W.Frag) : V → List V → Hp → VK → Prop := fun x vs H Q => ∃ l b xs zs, x = .ref l ∧ vs = [.ref b] ∧ H l = some (.lst xs) ∧ SqT K H b zs ∧ xs.length + zs.length ≤ sizeLine ∧ Q .non (upd H l (.lst (xs ++ zs)))
theorem mt_extT : MtM X "list.extend" (rExtT X.K) := by
  intro pins s σ H x vs v us Q I rx rv h
  obtain ⟨l, b, xs, zs, rfl, rfl, hl, hb, hz, q⟩ := h
  obtain rfl : v = Value.ref l := rx
  obtain ⟨u, rfl, ru⟩ := rv.one
  obtain rfl : u = Value.ref b := ru
  obtain ⟨z, i1, n1, r1, l1, e1⟩ := I.lstM hl
  obtain ⟨i2, r2, ⟨⟨c, dct, dt, sl⟩, hg, hc, n2, hd⟩, _⟩ := I.tuple hb
  replace hc : c = .type "tuple" := hc
  replace hd : dt = .seq i2.toArray n2 := hd
  subst hc hd
  have l2 := r2.length
  have both : i1.toArray.size + i2.toArray.size ≤ sizeLine := by simp only [List.size_toArray]; omega
  have short : ¬ (!i1.toArray.isEmpty && Builtin.List.listTooLong (i1.toArray.size + i2.toArray.size)) = true := by
    rw [notLongL both, Bool.and_false]
    exact Bool.false_ne_true
  refine call_meets F.slot_list_extend ⟨_, e1, rfl⟩ F.entry_list_extend (F.args_list_extend_2 _ _) (list_extend_tup l i1.toArray n1 b i2.toArray n2 dct sl short (by simp only [List.size_toArray]; omega) (by omega)) ⟨e1, hg, ?_⟩
  exact ⟨.non, _, I.lset (its' := i1 ++ i2) hl e1 (by simp) (r1.append r2) (by rw [List.length_append]; omega), rfl, q⟩
theorem mt_extA : MtM X "list.extend" (fun x vs H Q => rExtR x vs H Q ∨ rExtT X.K x vs H Q) := fun pins s σ H x vs v us Q I rx rv h => h.elim (mt_extR pins s σ H x vs v us Q I rx rv) (mt_extT pins s σ H x vs v us Q I rx rv)
abbrev extEv (i : Nat) (ev : Env → Res (R × Env)) : Env → Res (R × Env) := fun ρ => match ρ[i]? with
  | some (some (.own _ _)) => do
    let (x, ρ) ← ev ρ
    let u ← Res.of (x.peek ρ)
    match ρ[i]?, u with
    | some (some (.own l xs)), .list ys => if x.isSlot i = false ∧ xs.length + ys.length ≤ LIM then .ok (.d .none, ρ.set i (some (.own l (xs ++ ys)))) else .stuck
    | some (some (.own l xs)), .tuple ys => if xs.length + ys.length ≤ LIM then .ok (.d .none, ρ.set i (some (.own l (xs ++ ys)))) else .stuck
    | _, _ => .stuck
  | _ => .stuck
theorem rd_ext {i : Nat} {e : Expr} {nm : Expr} {apos cpos : Pos} {ev : Env → Res (R × Env)} (hn : PE X nm (tVar i)) (hb : attributeBase nm "extend" X.env (eval nm X.env) = eval nm X.env) (he : PE X e (RdE X.K A Wx ev)) (hs : noStar e = true) (hp : (apos.endLine == cpos.line) = true) :
    PE X (.Call (.Attribute nm "extend" apos) [e] [] cpos) (RdE X.K A Wx (extEv i ev)) := by
  refine PE_imp (pe_bm PySem.F.plainAttrs_list PySem.F.slot_list_extend PySem.F.type_list_extend mt_extA hn (pa_cons he pa_nil (star_head (noStar_ne hs))) hb (stars1 hs) hp (star_head (noStar_ne hs)) rfl) fun σ H Q ⟨B, ρ, T, ⟨F, O, S⟩, g⟩ => ?_
  simp only [extEv] at g
  cases q : ρ[i]? with
  | none => simp only [q] at g; exact (show False from g).elim
  | some w =>
    cases w with
    | none => simp only [q] at g; exact (show False from g).elim
    | some w =>
      cases w with
      | d x => simp only [q] at g; exact (show False from g).elim
      | fn f => simp only [q] at g; exact (show False from g).elim
      | own l xs =>
        simp only [q] at g
        obtain ⟨p, vs, hσ, hp, _⟩ := S.ownSlot q
        refine own_var hσ ⟨tyV_list hp, B, ρ, T, ⟨F, O, S⟩, (gd_bind.mp g).mono (fun ⟨r, ρ1⟩ g1 v H1 ⟨F1, O1, S1⟩ => ?_) fun _ _ h => h⟩
        obtain ⟨u, eu, g2⟩ := gd_of (gd_bind.mp g1)
        simp only at g2
        cases q2 : ρ1[i]? with
        | none => simp only [q2] at g2; exact (show False from g2).elim
        | some w2 =>
          cases w2 with
          | none => simp only [q2] at g2; exact (show False from g2).elim
          | some w2 =>
            cases w2 with
            | d x => simp only [q2] at g2; exact (show False from g2).elim
            | fn f => simp only [q2] at g2; exact (show False from g2).elim
            | own l2 ys =>
              cases u with
              | list zs =>
                simp only [q2] at g2
                obtain ⟨⟨_, hz⟩, g3⟩ := gd_if_stuck g2
                obtain ⟨p2, us, hσ2, hp2, dd⟩ := S1.ownSlot q2
                rw [hσ] at hσ2
                cases hσ2
                obtain ⟨b, ws, ex, hb, de⟩ := S1.peekL one_top eu
                refine .inl ⟨p, b, us, ws, rfl, by rw [ex], hp2, hb, ?_, g3 _ _ ?_⟩
                · rw [dpa_len dd, dpa_len de]; exact Nat.le_trans hz lim_size
                · exact (S1.drop.mutate q2 hσ hp2 (dpa_app dd de)).pushD .non
              | tuple zs =>
                simp only [q2] at g2
                obtain ⟨hz, g3⟩ := gd_if_stuck g2
                obtain ⟨p2, us, hσ2, hp2, dd⟩ := S1.ownSlot q2
                rw [hσ] at hσ2
                cases hσ2
                obtain ⟨_, b, ws, ex, hb, de⟩ := S1.peekT one_top eu
                refine .inr ⟨p, b, us, ws, rfl, by rw [ex], hp2, hb, ?_, g3 _ _ ?_⟩
                · rw [dpa_len dd, dpa_len de]; exact Nat.le_trans hz lim_size
                · exact (S1.drop.mutate q2 hσ hp2 (dpa_app dd de)).pushD .non
              | _ => simp only [q2] at g2; exact (show False from g2).elim
abbrev insEv (i : Nat) (ea ev : Env → Res (R × Env)) : Env → Res (R × Env) := fun ρ => match ρ[i]? with
  | some (some (.own _ _)) => do
    let (x, ρ) ← ea ρ
    let p ← ev ρ
    let (y, ρ) ← keepR p
    match ρ[i]?, x with
    | some (some (.own l xs)), .d (.int j) => if 0 ≤ j ∧ j ≤ LIM ∧ xs.length < LIM then .ok (.d .none, ρ.set i (some (.own l (xs.take j.toNat ++ [y] ++ xs.drop j.toNat)))) else .stuck
    | _, _ => .stuck
  | _ => .stuck
theorem rd_ins {i : Nat} {a e : Expr} {nm : Expr} {apos cpos : Pos} {ea ev : Env → Res (R × Env)} (hn : PE X nm (tVar i)) (hb : attributeBase nm "insert" X.env (eval nm X.env) = eval nm X.env) (ha : PE X a (RdE X.K A Wx ea)) (he : PE X e (RdE X.K A Wx ev)) (hs' : noStar a = true) (hs : noStar e = true)
    (hp : (apos.endLine == cpos.line) = true) : PE X (.Call (.Attribute nm "insert" apos) [a, e] [] cpos) (RdE X.K A Wx (insEv i ea ev)) := by
  refine PE_imp (pe_bm PySem.F.plainAttrs_list PySem.F.slot_list_insert PySem.F.type_list_insert mt_insert hn (pa_cons ha (pa_cons he pa_nil (star_head (noStar_ne hs))) (star_head (noStar_ne hs'))) hb (stars2 hs' hs) hp (star_head (noStar_ne hs')) (star_plain (by rw [List.all_cons, hs]; rfl))) fun σ H Q ⟨B, ρ, T, ⟨F, O, S⟩, g⟩ => ?_
  simp only [insEv] at g
  cases q : ρ[i]? with
  | none => simp only [q] at g; exact (show False from g).elim
  | some w =>
    cases w with
    | none => simp only [q] at g; exact (show False from g).elim
    | some w =>
      cases w with
      | d x => simp only [q] at g; exact (show False from g).elim
      | fn f => simp only [q] at g; exact (show False from g).elim
      | own l xs =>
        simp only [q] at g
        obtain ⟨p, vs, hσ, hp, _⟩ := S.ownSlot q
        refine own_var hσ ⟨tyV_list hp, B, ρ, T, ⟨F, O, S⟩, (gd_bind.mp g).mono (fun ⟨ra, ρ0⟩ g0 v0 H0 at0 => ?_) fun _ _ h => h⟩
        refine ⟨B, ρ0, _, at0, (gd_bind.mp g0).mono (fun ⟨r, ρ1⟩ g1 v H1 ⟨F1, O1, S1⟩ => ?_) fun _ _ h => h⟩
        obtain ⟨y, ρ2, ek, g2⟩ := gd_keepR (gd_bind.mp g1)
        obtain ⟨F2, O2, S2, _⟩ := S1.keepTop ek
        simp only at g2
        cases q2 : ρ2[i]? with
        | none => simp only [q2] at g2; exact (show False from g2).elim
        | some w2 =>
          cases w2 with
          | none => simp only [q2] at g2; exact (show False from g2).elim
          | some w2 =>
            cases w2 with
            | d x => simp only [q2] at g2; exact (show False from g2).elim
            | fn f => simp only [q2] at g2; exact (show False from g2).elim
            | own l2 ys =>
              match ra, g2, S2 with
              | .d (.int j), g2, S2 =>
                simp only [q2] at g2
                obtain ⟨⟨h1, h2, h3⟩, g3⟩ := gd_if_stuck g2
                obtain ⟨p2, us, hσ2, hp2, dd⟩ := S2.ownSlot q2
                rw [hσ] at hσ2
                cases hσ2
                have dv : Dq X.K F2 v y := S2.top
                have ej := dp_int S2.drop.top
                have lim : (LIM : Int) < 2 ^ 63 := by decide
                refine ⟨p, us, j, v, rfl, by rw [ej], hp2, ?_, h1, by omega, g3 _ _ ?_⟩
                · rw [dpa_len dd]; exact Nat.lt_of_lt_of_le h3 lim_size
                · exact (S2.drop.drop.mutate q2 hσ hp2 (dpa_app (dpa_app (dpa_take _ dd) (.cons dv .nil)) (dpa_drop _ dd))).pushD .non
              | .d .none, g2, _ => simp only [q2] at g2; exact (show False from g2).elim
              | .d (.bool _), g2, _ => simp only [q2] at g2; exact (show False from g2).elim
              | .d (.str _), g2, _ => simp only [q2] at g2; exact (show False from g2).elim
              | .d (.list _), g2, _ => simp only [q2] at g2; exact (show False from g2).elim
              | .d (.tuple _), g2, _ => simp only [q2] at g2; exact (show False from g2).elim
              | .d (.dict _), g2, _ => simp only [q2] at g2; exact (show False from g2).elim
              | .fresh _, g2, _ => simp only [q2] at g2; exact (show False from g2).elim
              | .slot _, g2, _ => simp only [q2] at g2; exact (show False from g2).elim
              | .fn _, g2, _ => simp only [q2] at g2; exact (show False from g2).elim
abbrev popEv (i : Nat) : Env → Res (R × Env) := fun ρ => match ρ[i]? with
  | some (some (.own l xs)) => match xs.getLast? with
    | some y => .ok (.d y, ρ.set i (some (.own l xs.dropLast)))
    | none => .stuck
  | _ => .stuck
theorem dpa_dropLast {K : PySem.W.Frag} : ∀ {vs : List V} {xs : List D}, DqAll K F vs xs → DqAll K F vs.dropLast xs.dropLast
  | _, _, .nil => .nil
  | _, _, .cons _ .nil => .nil
  | _, _, .cons a (.cons b c) => by
    have ih := dpa_dropLast (.cons b c)
    exact .cons a ih
theorem rd_pop {i : Nat} {nm : Expr} {apos cpos : Pos} (hn : PE X nm (tVar i)) (hb : attributeBase nm "pop" X.env (eval nm X.env) = eval nm X.env) (hp : (apos.endLine == cpos.line) = true) :
    PE X (.Call (.Attribute nm "pop" apos) [] [] cpos) (RdE X.K A Wx (popEv i)) := by
  refine PE_imp (pe_bm0 PySem.F.plainAttrs_list PySem.F.slot_list_pop PySem.F.type_list_pop mt_pop hn hb hp) fun σ H Q ⟨B, ρ, T, ⟨F, O, S⟩, g⟩ => ?_
  simp only [popEv] at g
  cases q : ρ[i]? with
  | none => simp only [q] at g; exact (show False from g).elim
  | some w =>
    cases w with
    | none => simp only [q] at g; exact (show False from g).elim
    | some w =>
      cases w with
      | d x => simp only [q] at g; exact (show False from g).elim
      | fn f => simp only [q] at g; exact (show False from g).elim
      | own l xs =>
        simp only [q] at g
        obtain ⟨p, vs, hσ, hp, dd⟩ := S.ownSlot q
        cases q2 : xs.getLast? with
        | none => simp only [q2] at g; exact (show False from g).elim
        | some y =>
          simp only [q2] at g
          rw [List.getLast?_eq_getElem?] at q2
          obtain ⟨v, hv, dv⟩ := dpa_get dd q2
          refine own_var hσ ⟨tyV_list hp, p, vs, v, rfl, rfl, hp, by rw [dpa_len dd]; exact hv, g _ _ ?_⟩
          exact (S.mutate q hσ hp (dpa_dropLast dd)).pushD dv
end
end Mn
set_option Elab.async false
set_option linter.all false
set_option maxRecDepth 100000
set_option maxHeartbeats 1000000
namespace Mn
open PySem PySem.Spec PyProof.Rows L2

section
variable {K : PySem.W.Frag} {A : Ad} {Wx : WX} {B : Bs} {σ σ1 σ2 : L2.St} {ρ ρ' : Env} {T : Tmps} {H H' F : Hp} {O : Addr → Option Owner}
/-! ### parts that run by themselves -/
theorem wipeE_len : ∀ (vs : List Nat) (ρ : Env), (wipeE ρ vs).length = ρ.length
  | [], _ => rfl
  | v :: vs, ρ => by rw [wipeE, List.length_set, wipeE_len vs]
theorem wipeE_some {w : W} : ∀ {vs : List Nat} {ρ : Env} {i : Nat}, (wipeE ρ vs)[i]? = some (some w) → ρ[i]? = some (some w) ∧ i ∉ vs
  | [], _, _, h => ⟨h, by simp⟩
  | v :: vs, ρ, i, h => by
    rw [wipeE] at h
    rcases getElem?_set_cases h with ⟨_, e, _⟩ | ⟨e1, e2⟩
    · cases e
    · obtain ⟨a, b⟩ := wipeE_some e2
      exact ⟨a, by simp only [List.mem_cons, not_or]; exact ⟨e1, b⟩⟩
theorem wipe_ne {i : Nat} : ∀ {vs : List Nat} {σ : L2.St}, i ∉ vs → (wipe σ vs)[i]? = σ[i]?
  | [], _, _ => rfl
  | v :: vs, σ, h => by
    simp only [List.mem_cons, not_or] at h
    unfold wipe
    rw [List.getElem?_set_ne (Ne.symm h.1), wipe_ne h.2]
theorem wipe_in {i : Nat} : ∀ {vs : List Nat} {σ : L2.St}, i ∈ vs → i < σ.length → (wipe σ vs)[i]? = some none
  | v :: vs, σ, h, hl => by
    unfold wipe
    by_cases hi : v = i
    · subst hi
      rw [List.getElem?_set_self (by rw [wipe_length]; exact hl)]
    · rw [List.getElem?_set_ne hi]
      rcases List.mem_cons.mp h with e | e
      · exact absurd e.symm hi
      · exact wipe_in e hl
theorem wipe_agree {vs : List Nat} (hl : σ1.length = σ2.length) (h : ∀ j, j ∉ vs → σ1[j]? = σ2[j]?) : wipe σ1 vs = wipe σ2 vs := by
  refine List.ext_getElem? fun j => ?_
  by_cases hj : j ∈ vs
  · by_cases hl2 : j < σ1.length
    · rw [wipe_in hj hl2, wipe_in hj (by rw [← hl]; exact hl2)]
    · rw [List.getElem?_eq_none (by rw [wipe_length]; omega), List.getElem?_eq_none (by rw [wipe_length]; omega)]
  · rw [wipe_ne hj, wipe_ne hj, h j hj]
def slotsOnly (O : Addr → Option Owner) : Addr → Option Owner := fun b => match O b with
  | some (.slot i) => some (.slot i)
  | _ => none
theorem slotsOnly_slot {p : Addr} {i : Nat} (h : O p = some (.slot i)) : slotsOnly O p = some (.slot i) := by unfold slotsOnly; rw [h]
theorem slotsOnly_of {p : Addr} (h : slotsOnly O p ≠ none) : ∃ i, O p = some (.slot i) := by
  unfold slotsOnly at h
  cases q : O p with
  | none => rw [q] at h; exact absurd rfl h
  | some w =>
    rw [q] at h
    cases w with
    | slot i => exact ⟨i, rfl⟩
    | temp k => exact absurd rfl h
/-- the base of a part: what is here is kept, but for what the slots own -/
abbrev blkB (H F : Hp) (O : Addr → Option Owner) (σ : L2.St) : Bs := subB H F (fun b => ∃ i, O b = some (.slot i)) σ (fun _ => True)
theorem Sep.enter (S : Sep K A B σ ρ T H F O) (own : List Nat) : Sep K A (blkB H F O (wipe σ own)) (wipe σ own) (wipeE ρ own) [] H F (slotsOnly O) where
  fh := S.fh
  f0 := fun _ _ h => h
  fn := fun _ h => .inl h
  h0 := fun _ _ h _ => (mask_some h).1
  h1 := fun _ h => h
  ho := fun b h => by
    obtain ⟨i, hi⟩ := slotsOnly_of h
    have := S.ho b (by rw [hi]; exact Option.some_ne_none _)
    exact ⟨this.1, .inr ⟨i, hi⟩, this.2.2⟩
  len := by rw [wipe_length, wipeE_len]; exact S.len
  slots := fun i w h => by
    obtain ⟨h1, h2⟩ := wipeE_some h
    obtain ⟨v, a, c⟩ := S.slots i w h1
    exact ⟨v, by rw [wipe_ne h2]; exact a, slotOk_step (Sub.refl _) (fun p e => ⟨slotsOnly_slot e, fun _ z => z⟩) c⟩
  temps := fun k r v h => by simp at h
  lent := fun i xs h => rfl
  nt := fun k xs p h => by simp at h
  ns := fun _ _ _ _ _ => trivial
  nn := fun _ _ => trivial
  tb := S.tb
/-- slots forgotten -/
theorem Sep.wiped (S : Sep K A B σ2 ρ T H F O) (hT : NoSlot T) {own : List Nat} (hl : σ1.length = σ2.length) (h : ∀ j, j ∉ own → σ2[j]? = σ1[j]?) : Sep K A B σ1 (wipeE ρ own) T H F O where
  fh := S.fh
  f0 := S.f0
  fn := S.fn
  h0 := S.h0
  h1 := S.h1
  ho := S.ho
  len := by rw [wipeE_len, hl]; exact S.len
  slots := fun i w e => by
    obtain ⟨h1, h2⟩ := wipeE_some e
    obtain ⟨v, a, c⟩ := S.slots i w h1
    exact ⟨v, by rw [← h i h2]; exact a, c⟩
  temps := fun k r v e => temp_set (i := 0) (v' := v) (fun j z => hT k j v (by rw [← z]; exact e)) (S.temps k r v e)
  lent := fun i xs e => by
    obtain ⟨h1, h2⟩ := wipeE_some e
    rw [← h i h2]; exact S.lent i xs h1
  nt := S.nt
  ns := fun i xs p e e2 => by
    obtain ⟨h1, h2⟩ := wipeE_some e
    exact S.ns i xs p h1 (by rw [h i h2]; exact e2)
  nn := S.nn
  tb := S.tb
/-- a temporary list grows -/
theorem Sep.grow {k : Nat} {p : Addr} {xs ys : List D} {vs us : List V} (S : Sep K A B σ ρ T H F O) (ht : T[k]? = some (.fresh xs, .ref p)) (hH : H p = some (.lst vs)) (hd : DqAll K F us ys) :
    Sep K A B σ ρ (T.set k (.fresh ys, .ref p)) (upd H p (.lst us)) F O := by
  obtain ⟨p', vs', e1, e2, e3, e4⟩ := S.temps k _ _ ht
  cases e1
  have bn := S.nt k xs p ht
  obtain ⟨f, _, _⟩ := S.ho p (by rw [e2]; exact Option.some_ne_none _)
  have up : ∀ q w, w ≠ .temp k → O q = some w → O q = some w ∧ ∀ u, H q = some u → upd H p (.lst us) q = some u := fun q w hw e => by
    have hq : q ≠ p := fun z => by rw [z, e2] at e; exact hw (Option.some.inj e).symm
    exact ⟨e, fun u eu => by rw [upd_ne hq]; exact eu⟩
  refine ⟨fun q u e => ?_, S.f0, S.fn, fun q u e n => ?_, fun q e => upd_ne_none nonT_lst (S.h1 q e), fun q e => ⟨(S.ho q e).1, (S.ho q e).2.1, upd_ne_none nonT_lst (S.ho q e).2.2⟩, S.len, fun j x e => ?_, fun j r u e => ?_, S.lent, fun j zs q e => ?_, S.ns, S.nn, S.tb.mut hH⟩
  · rw [upd_ne (fun z => by rw [z, f] at e; cases e)]; exact S.fh q u e
  · rw [upd_ne (fun z => by rw [z, bn] at e; cases e)]; exact S.h0 q u e n
  · obtain ⟨u, a, c⟩ := S.slots j x e
    exact ⟨u, a, slotOk_step (Sub.refl _) (fun q e => up q _ (fun z => nomatch z) e) c⟩
  · rcases getElem?_set_cases e with ⟨e5, e6, _⟩ | ⟨e5, e6⟩
    · subst e5; cases e6
      exact ⟨p, us, rfl, e2, upd_same, hd⟩
    · exact tempOk_step (Sub.refl _) (fun q e => up q _ (fun z => e5 (Owner.temp.inj z)) e) (S.temps j r u e6)
  · rcases getElem?_set_cases e with ⟨e5, e6, _⟩ | ⟨e5, e6⟩
    · cases e6; exact bn
    · exact S.nt j zs q e6
/-- what backE gives -/
theorem back_len (own : List Nat) : ∀ (k : Nat) (ρ ρn : Env), (backE own k ρ ρn).length = ρ.length
  | _, [], _ => rfl
  | _, w :: ρ, [] => by simp [backE]
  | k, w :: ρ, u :: ρn => by simp [backE, back_len own (k + 1) ρ ρn]
theorem back_get {own : List Nat} {x : W} : ∀ {k j : Nat} {ρ ρn : Env}, (backE own k ρ ρn)[j]? = some (some x) →
    ∃ w u, ρ[j]? = some w ∧ ρn[j]? = some u ∧ ((own.contains (k + j) = true ∧ noOwn w = some x) ∨ (own.contains (k + j) = false ∧ back1 w u = some x))
  | _, _, [], _, h => by simp [backE] at h
  | _, j, w :: ρ, [], h => by
    exfalso
    cases j with
    | zero => simp [backE] at h
    | succ j =>
      simp [backE] at h
  | k, 0, w :: ρ, u :: ρn, h => by
    refine ⟨w, u, rfl, rfl, ?_⟩
    simp only [backE, List.getElem?_cons_zero, Option.some.injEq] at h
    cases q : own.contains k with
    | true => rw [q] at h; exact .inl ⟨by simpa using q, h⟩
    | false => rw [q] at h; exact .inr ⟨by simpa using q, h⟩
  | k, j + 1, w :: ρ, u :: ρn, h => by
    simp only [backE, List.getElem?_cons_succ] at h
    obtain ⟨w', u', a, b, c⟩ := back_get h
    refine ⟨w', u', by simpa using a, by simpa using b, ?_⟩
    rw [show k + (j + 1) = k + 1 + j by omega]
    exact c
/-- back from a comprehension -/
theorem Sep.leave {own : List Nat} {r : R} {v : V} {ρn : Env} {O' : Addr → Option Owner} {F' : Hp} (S : Sep K A B σ ρ T H F O) (Sb : Sep K A (blkB H F O (wipe σ own)) (wipe σ own) ρn [(r, v)] H' F' O') (hr : ∀ i, r ≠ .slot i) :
    At K A B σ (backE own 0 ρ ρn) (T ++ [(r, v)]) H' := by
  refine S.resume (m := fun i => i) Sb (fun b h => h) hr (back_len own 0 ρ ρn) fun j x h => ?_
  obtain ⟨w, u, a, b, c⟩ := back_get h
  rw [Nat.zero_add] at c
  rcases c with ⟨_, c⟩ | ⟨hj, c⟩
  · -- its own slot
    refine .inl ⟨?_, .inl fun l xs z => ?_⟩
    · rw [a]
      cases w with
      | none => cases c
      | some w => cases w <;> first | (cases c; rfl) | cases c
    · subst z
      cases w with
      | none => cases c
      | some w => cases w <;> cases c
  · have hj' : j ∉ own := fun z => by
      have : own.contains j = true := List.contains_iff_mem.mpr z
      rw [hj] at this; cases this
    cases u with
    | none => cases w with
      | none => cases c
      | some w => cases w <;> cases c
    | some u =>
      obtain ⟨z, h1, h2⟩ := Sb.slots j u b
      have h1' : (wipe σ own)[j]? = some (some z) := h1
      rw [wipe_ne hj'] at h1'
      cases u with
      | d y =>
        have : x = .d y := by
          cases w with
          | none => cases c; rfl
          | some w => cases w <;> (cases c; rfl)
        subst this
        exact .inr (.inl ⟨j, b, (fun _ _ z => nomatch z), z, h1, h1'⟩)
      | fn f =>
        have : x = .fn f := by
          cases w with
          | none => cases c; rfl
          | some w => cases w <;> (cases c; rfl)
        subst this
        exact .inr (.inl ⟨j, b, (fun _ _ z => nomatch z), z, h1, h1'⟩)
      | own l ys =>
        cases w with
        | none => cases c
        | some w =>
          cases w with
          | d y => cases c
          | fn f => cases c
          | own l' xs =>
            cases c
            refine .inr (.inr ⟨j, l', l, xs, ys, rfl, b, a, rfl, z, h1, h1', fun p hp => ?_⟩)
            obtain ⟨v', a', p', vs, e1, e2, _⟩ := S.slots j _ a
            rw [h1'] at a'
            cases a'
            rw [hp] at e1
            cases e1
            exact ⟨j, e2⟩
end
end Mn
set_option Elab.async false
set_option linter.all false
set_option maxRecDepth 100000
set_option maxHeartbeats 1000000
namespace Mn
open PySem PySem.Spec PyProof.Rows L2

/-! ### targets -/
def Tg.slots : Tg → List Nat
  | .one i => [i]
  | .row is => is
/-- the slots elsewhere are as they were -/
def Agree (own : List Nat) (σ σ' : L2.St) : Prop := σ'.length = σ.length ∧ ∀ j, j ∉ own → σ'[j]? = σ[j]?
theorem Agree.refl (own : List Nat) (σ : L2.St) : Agree own σ σ := ⟨rfl, fun _ _ => rfl⟩
theorem Agree.set {own : List Nat} {σ : L2.St} {i : Nat} {v : V} (h : i ∈ own) : Agree own σ (σ.set i (some v)) := ⟨by simp, fun j hj => by
  rw [List.getElem?_set_ne]
  intro z; subst z; exact hj h⟩
theorem Agree.trans {own : List Nat} {σ σ' σ'' : L2.St} (a : Agree own σ σ') (b : Agree own σ' σ'') : Agree own σ σ'' := ⟨b.1.trans a.1, fun j hj => (b.2 j hj).trans (a.2 j hj)⟩
theorem Agree.mono {own own' : List Nat} {σ σ' : L2.St} (a : Agree own σ σ') (h : ∀ j ∈ own, j ∈ own') : Agree own' σ σ' := ⟨a.1, fun j hj => a.2 j fun z => hj (h j z)⟩
def gRow : List Nat → TGs
  | [] => gNil
  | i :: is => gCons (gName i) (gRow is)
section
variable {X : Cx} {K : PySem.W.Frag} {A : Ad} {Wx : WX} {B : Bs} {σ σ1 σ2 : L2.St} {ρ ρ' : Env} {T : Tmps} {H H' F : Hp} {O : Addr → Option Owner}
theorem into_d {i : Nat} {x : D} (e : (R.d x).into i ρ = some ρ') : i < ρ.length ∧ (∀ xs, ρ[i]? ≠ some (some (W.own true xs))) ∧ ρ' = ρ.set i (some (W.d x)) := by
  obtain ⟨a, b, c⟩ := notLent e
  cases c
  exact ⟨a, b, rfl⟩
theorem Sep.setData (S : Sep K A B σ ρ T H F O) (hT : NoSlot T) {i : Nat} {v : V} {x : D} (e : (R.d x).into i ρ = some ρ') (h : Dq K F v x) : Sep K A B (σ.set i (some v)) ρ' T H F O := by
  obtain ⟨a, b, rfl⟩ := into_d e
  exact S.setD hT a b (w := W.d x) h (fun _ z => nomatch z)
theorem row_sound : ∀ {is : List Nat} {xs : List D} {vs : List V} {σ : L2.St} {ρ : Env} {Q : L2.St → Hp → Prop}, Sep K A B σ ρ T H F O → NoSlot T → DqAll K F vs xs → Tg.set.setRow is xs ρ = some ρ' →
    (∀ σ', Agree is σ σ' → Sep K A B σ' ρ' T H F O → Q σ' H) → gRow is vs σ H Q
  | [], xs, vs, σ, ρ, Q, S, hT, hd, e, q => by
    cases xs with
    | nil =>
      cases hd
      cases e
      exact ⟨rfl, q σ (Agree.refl _ _) S⟩
    | cons _ _ => simp [Tg.set.setRow] at e
  | i :: is, xs, vs, σ, ρ, Q, S, hT, hd, e, q => by
    cases xs with
    | nil => simp [Tg.set.setRow] at e
    | cons x xs =>
      cases hd with
      | cons h1 h2 =>
        rename_i v vs
        simp only [Tg.set.setRow] at e
        cases q1 : (R.d x).into i ρ with
        | none => rw [q1] at e; cases e
        | some ρ1 =>
          rw [q1] at e
          refine ⟨v, vs, rfl, ?_⟩
          show gRow is vs (σ.set i (some v)) H Q
          exact row_sound (S.setData hT q1 h1) hT h2 e fun σ' ag S' => q σ' (((Agree.set (List.mem_cons_self)).trans (ag.mono fun j hj => List.mem_cons_of_mem _ hj))) S'
/-- a target's reading -/
def RdG (K : PySem.W.Frag) (tg : Tg) : TG := match tg with
  | .one i => gName i
  | .row is => gTup K is.length (gRow is)
theorem tg_sound {tg : Tg} {v : V} {x : D} {Q : L2.St → Hp → Prop} (S : Sep K A B σ ρ T H F O) (hT : NoSlot T) (hv : Dq K F v x) (e : tg.set ρ x = some ρ') (q : ∀ σ', Agree tg.slots σ σ' → Sep K A B σ' ρ' T H F O → Q σ' H) : RdG K tg v σ H Q := by
  cases tg with
  | one i => exact q _ (Agree.set (List.mem_cons_self)) (S.setData hT e hv)
  | row is =>
    cases x with
    | tuple xs =>
      cases hv with
      | tup h1 h2 =>
        rename_i a vs
        have e' : Tg.set.setRow is xs ρ = some ρ' := e
        have hl : ∀ {is : List Nat} {xs : List D} {ρ ρ' : Env}, Tg.set.setRow is xs ρ = some ρ' → xs.length = is.length := by
          intro is
          induction is with
          | nil =>
            intro xs ρ ρ' h
            cases xs with
            | nil => rfl
            | cons _ _ => simp [Tg.set.setRow] at h
          | cons i is ih =>
            intro xs ρ ρ' h
            cases xs with
            | nil => simp [Tg.set.setRow] at h
            | cons x xs =>
              simp only [Tg.set.setRow] at h
              split at h
              · rw [List.length_cons, List.length_cons, ih h]
              · cases h
        exact ⟨a, vs, rfl, sqt_sub S.fh h1, by rw [dpa_len h2, hl e'], row_sound S hT h2 e' q⟩
    | _ => cases e

/-! ### what is walked -/
structure IterD (K : PySem.W.Frag) (J : It) (F : Hp) (items : List D) : Prop where
  goes : ∀ i H, i < items.length → Sub F H → J.go i H
  stops : ∀ H, Sub F H → J.stop items.length H
  yields : ∀ i H x H' d, items[i]? = some d → Sub F H → J.yld i H x H' → (H' = H ∧ Dq K F x d) ∨ (∃ T vs ds, x = .ref T ∧ H T = none ∧ H' = upd H T (.tup vs) ∧ d = .tuple ds ∧ DqAll K F vs ds)
def YD (K : PySem.W.Frag) (F : Hp) (items : List D) : Nat → Hp → V → Hp → Prop := fun i H x H' => ∃ d, items[i]? = some d ∧ ((H' = H ∧ Dq K F x d) ∨ (∃ T vs ds, x = .ref T ∧ H T = none ∧ H' = upd H T (.tup vs) ∧ d = .tuple ds ∧ DqAll K F vs ds))
theorem IterD.walk {J : It} {items : List D} (h : IterD K J F items) : Walk J items.length (Sub F) (YD K F items) where
  goes := fun i H hi hs => h.goes i H hi hs
  stops := fun H hs => h.stops H hs
  yields := fun i H x H' hi hs y => ⟨items[i], by simp [hi], h.yields i H x H' _ (by simp [hi]) hs y⟩
theorem iterD_list {a : Addr} {vs : List V} {xs : List D} (h : Rd F a (.lst vs)) (hd : DqAll K F vs xs) : IterD K (Itl K a) F xs where
  goes := fun i H hi hs => walk_list.goes i H (by rw [dpa_len hd]; exact hi) (.inl (rd_sub hs h))
  stops := fun H hs => by
    rw [← dpa_len hd]
    exact walk_list.stops H (.inl (rd_sub hs h))
  yields := fun i H x H' d hd' hs y => by
    have hi : i < vs.length := by rw [dpa_len hd]; exact (List.getElem?_eq_some_iff.mp hd').1
    obtain ⟨e1, e2⟩ := walk_list.yields i H x H' hi (.inl (rd_sub hs h)) y
    obtain ⟨v, h1, h2⟩ := dpa_get hd hd'
    rw [e2] at h1
    cases h1
    exact .inl ⟨e1, h2⟩
theorem iterD_tup {a : Addr} {vs : List V} {xs : List D} (h : SqT K F a vs) (hd : DqAll K F vs xs) : IterD K (Itt K a) F xs where
  goes := fun i H hi hs => walk_tup.goes i H (by rw [dpa_len hd]; exact hi) (sqt_sub hs h)
  stops := fun H hs => by
    rw [← dpa_len hd]
    exact walk_tup.stops H (sqt_sub hs h)
  yields := fun i H x H' d hd' hs y => by
    have hi : i < vs.length := by rw [dpa_len hd]; exact (List.getElem?_eq_some_iff.mp hd').1
    obtain ⟨e1, e2⟩ := walk_tup.yields i H x H' hi (sqt_sub hs h) y
    obtain ⟨v, h1, h2⟩ := dpa_get hd hd'
    rw [e2] at h1
    cases h1
    exact .inl ⟨e1, h2⟩
theorem iterD_str {z : Str} : IterD K (Its z) F (strList z) where
  goes := fun i H hi hs => walk_str.goes i H (by simpa [strList] using hi) trivial
  stops := fun H hs => by
    have e : (strList z).length = z.cps.size := by simp [strList]
    rw [e]
    exact walk_str.stops H trivial
  yields := fun i H x H' d hd' hs y => by
    have e : (strList z).length = z.cps.size := by simp [strList]
    have hi : i < z.cps.size := by rw [← e]; exact (List.getElem?_eq_some_iff.mp hd').1
    obtain ⟨e1, c, e2, e3⟩ := walk_str.yields i H x H' hi trivial y
    refine .inl ⟨e1, ?_⟩
    subst e3
    unfold strList at hd'
    rw [List.getElem?_map] at hd'
    have e4 : z.cps.toList[i]? = some c := by rw [Array.getElem?_toList]; exact e2
    rw [e4] at hd'
    cases hd'
    exact .str _
theorem iterD_range {lo : Int} {n : Nat} : IterD K (Itr lo n) F ((List.range n).map fun (k : Nat) => .int (lo + k)) where
  goes := fun i H hi hs => walk_range.goes i H (by simpa using hi) trivial
  stops := fun H hs => by
    have e : ((List.range n).map fun (k : Nat) => PyData.int (lo + k)).length = n := by simp
    rw [e]
    exact walk_range.stops H trivial
  yields := fun i H x H' d hd' hs y => by
    have hi : i < n := by
      have := (List.getElem?_eq_some_iff.mp hd').1
      simpa using this
    obtain ⟨e1, e2⟩ := walk_range.yields i H x H' hi trivial y
    subst e2
    rw [List.getElem?_map, List.getElem?_range hi] at hd'
    cases hd'
    exact .inl ⟨e1, .int _⟩
/-- anything that is walked by itself: a list, a tuple, a text -/
def iAny (K : PySem.W.Frag) (tl : TE) : TI := fun σ H R => tl σ H fun x H1 => (∃ a xs, x = .ref a ∧ SqL K H1 a xs ∧ R (Itl K a) H1) ∨ (∃ a xs, x = .ref a ∧ SqT K H1 a xs ∧ R (Itt K a) H1) ∨ ∃ z, x = .str z ∧ R (Its z) H1
theorem pi_any {tg l : Expr} {tl : TE} (hl : PE X l tl) : PI X tg l (iAny X.K tl) := by
  refine ⟨fun pins s σ H R I h => thn (hl.run pins s σ H _ I h) fun v s1 hh => ?_⟩
  obtain ⟨x, H1, I1, r1, q1⟩ := hh
  have ffresh : ∀ b, b ∈ [s1.heap.objs.size] → FpOk X pins H1 b := fun b hb => by
    have e : b = s1.heap.objs.size := by simpa using hb
    rw [e]
    exact I1.fpOk (Nat.le_refl _) (I1.hok.fresh (Nat.le_refl _))
  rcases q1 with ⟨a, xs, e, hq, q⟩ | ⟨a, xs, e, hq, q⟩ | ⟨z, e, q⟩
  · subst e
    obtain rfl : v = Value.ref a := r1
    obtain ⟨its, rv, p, hz⟩ := I1.list hq
    refine wpAny_pyIter_list p.isList ?_
    exact ⟨_, [s1.heap.objs.size], _, Itl X.K a, H1, rfl, I1.kept (t' := s1.toks) fun b o e => Heap.get?_push_of_some _ e, turn_list a _, ⟨_, Heap.get?_push_size _ rfl, rfl, rfl⟩, ffresh, q⟩
  · subst e
    obtain rfl : v = Value.ref a := r1
    have pt := pi_tup (X := X) (tg := tg) (l := l) (tl := fun σ' H' Q => σ' = σ ∧ H' = H1 ∧ Q (.ref a) H1)
    obtain ⟨its, rv, p, hz⟩ := I1.tuple hq
    refine wpAny_pyIter_tuple (show s1.heap.IsTuple a its.toArray from p) ?_
    exact ⟨_, [s1.heap.objs.size], _, Itt X.K a, H1, rfl, I1.kept (t' := s1.toks) fun b o e => Heap.get?_push_of_some _ e, turn_tuple a _, ⟨_, Heap.get?_push_size _ rfl, rfl, rfl⟩, ffresh, q⟩
  · subst e
    obtain ⟨t, rfl⟩ := r1
    cases ha : z.cps.all (· < 128)
    · exact wpAny_pyIter_wide ha (pi_one (tk := s1.toks) I1 _ (turn_str _ z t "str_iterator" (.inr rfl)) ⟨_, Heap.get?_push_size _ rfl, rfl, rfl⟩ q)
    · exact wpAny_pyIter_ascii ha (pi_one (tk := s1.toks) I1 _ (turn_str _ z t "str_ascii_iterator" (.inl rfl)) ⟨_, Heap.get?_push_size _ rfl, rfl, rfl⟩ q)
theorem PI_imp {tg it : Expr} {t t' : TI} (h : PI X tg it t) (hi : ∀ σ H R, t' σ H R → t σ H R) : PI X tg it t' := ⟨fun pins s σ H R I q => h.run pins s σ H R I (hi _ _ _ q)⟩
def RdI (K : PySem.W.Frag) (A : Ad) (Wx : WX) (ev : Env → Res (List D × Env)) : TI := fun σ H Rr => ∃ B ρ T, At K A B σ ρ T H ∧
  Gd (ev ρ) (fun p => ∀ J H' F O, Sep K A B σ p.2 T H' F O → IterD K J F p.1 → Rr J H') (ExP K A Wx B σ)
theorem rdi_seq {tg e : Expr} {ev : Env → Res (R × Env)} (he : PE X e (RdE X.K A Wx ev)) : PI X tg e (RdI X.K A Wx fun ρ => do
    let p ← ev ρ
    let (y, ρ) ← keepR p
    let xs ← Res.of (itemsD y)
    .ok (xs, ρ)) := by
  refine PI_imp (pi_any he) fun σ H Rr ⟨B, ρ, T, at_, g⟩ => ?_
  refine ⟨B, ρ, T, at_, (gd_bind.mp g).mono (fun ⟨r, ρ1⟩ g1 v H1 ⟨F, O, S⟩ => ?_) fun _ _ h => h⟩
  obtain ⟨y, ρ2, ek, g2⟩ := gd_keepR (gd_bind.mp g1)
  obtain ⟨xs, ex, g3⟩ := gd_of (gd_bind.mp g2)
  obtain ⟨F2, O2, S2, _⟩ := S.keepTop ek
  have dv : Dq X.K F2 v y := S2.top
  cases y with
  | list ys =>
    cases ex
    cases dv with
    | lst h1 h2 => exact .inl ⟨_, _, rfl, .inl (rd_sub S2.fh h1), g3 _ _ _ _ S2.drop (iterD_list h1 h2)⟩
  | tuple ys =>
    cases ex
    cases dv with
    | tup h1 h2 => exact .inr (.inl ⟨_, _, rfl, sqt_sub S2.fh h1, g3 _ _ _ _ S2.drop (iterD_tup h1 h2)⟩)
  | str z =>
    cases ex
    cases dv
    exact .inr (.inr ⟨z, rfl, g3 _ _ _ _ S2.drop iterD_str⟩)
  | _ => cases ex
theorem rdi_rng1 {tg e : Expr} {p pos : Pos} {ev : Env → Res (R × Env)} (hg : Gl X "range") (hm : X.mg "range" = none) (he : PE X e (RdE X.K A Wx ev)) (hs : noStar e = true) :
    PI X tg (.Call (.Name "range" p) [e] [] pos) (RdI X.K A Wx fun ρ => do
      let (x, ρ) ← ev ρ
      match x with
      | .d (.int j) => if j < 2 ^ 62 ∧ -(2 ^ 62) ≤ j then .ok ((List.range j.toNat).map fun (k : Nat) => .int k, ρ) else .stuck
      | _ => .stuck) := by
  refine PI_imp (pi_range1 hg hm (pa_cons he pa_nil (star_head (noStar_ne hs))) (star_head (noStar_ne hs))) fun σ H Rr ⟨B, ρ, T, at_, g⟩ => ?_
  refine ⟨B, ρ, T, at_, (gd_bind.mp g).mono (fun ⟨r, ρ1⟩ g1 v H1 ⟨F, O, S⟩ => ?_) fun _ _ h => h⟩
  match r, g1, S with
  | .d (.int j), g1, S =>
    obtain ⟨⟨h1, h2⟩, g2⟩ := gd_if_stuck g1
    refine ⟨j, by rw [dp_int S.top], h2, h1, g2 _ _ _ _ S.drop ?_⟩
    have := iterD_range (K := X.K) (F := F) (lo := 0) (n := j.toNat)
    simpa using this
theorem rdi_rng2 {tg e e' : Expr} {p pos : Pos} {ev ev' : Env → Res (R × Env)} (hg : Gl X "range") (hm : X.mg "range" = none) (he : PE X e (RdE X.K A Wx ev)) (he' : PE X e' (RdE X.K A Wx ev')) (hs : noStar e = true) (hs' : noStar e' = true) :
    PI X tg (.Call (.Name "range" p) [e, e'] [] pos) (RdI X.K A Wx fun ρ => do
      let (x, ρ) ← ev ρ
      let (y, ρ) ← ev' ρ
      match x, y with
      | .d (.int i), .d (.int j) => if (-(2 ^ 62) ≤ i ∧ i < 2 ^ 62) ∧ -(2 ^ 62) ≤ j ∧ j < 2 ^ 62 then .ok ((List.range (j - i).toNat).map fun (k : Nat) => .int (i + k), ρ) else .stuck
      | _, _ => .stuck) := by
  refine PI_imp (pi_range2 hg hm (pa_cons he (pa_cons he' pa_nil (star_head (noStar_ne hs'))) (star_head (noStar_ne hs))) (by rw [star_head (noStar_ne hs), star_head (noStar_ne hs')]; rfl) (star_head (noStar_ne hs'))) fun σ H Rr ⟨B, ρ, T, at_, g⟩ => ?_
  refine ⟨B, ρ, T, at_, (gd_bind.mp g).mono (fun ⟨x, ρ1⟩ g1 v H1 at1 => ?_) fun _ _ h => h⟩
  refine ⟨B, ρ1, _, at1, (gd_bind.mp g1).mono (fun ⟨y, ρ2⟩ g2 v' H2 ⟨F, O, S⟩ => ?_) fun _ _ h => h⟩
  match x, y, g2, S with
  | .d (.int i), .d (.int j), g2, S =>
    obtain ⟨⟨h1, h2⟩, g3⟩ := gd_if_stuck g2
    have e1 := dp_int (S.temps _ _ _ two_top.1)
    have e2 := dp_int (S.temps _ _ _ two_top.2)
    exact ⟨i, j, by rw [e1, e2], ⟨h1.1, h1.2, h2.1, h2.2⟩, g3 _ _ _ _ S.drop.drop iterD_range⟩
end
end Mn
set_option Elab.async false
set_option linter.all false
set_option maxRecDepth 100000
set_option maxHeartbeats 1000000
namespace Mn
open PySem PySem.Spec PyProof.Rows L2
/-! ### enumerate(t), t a tuple -/
set_option maxHeartbeats 4000000 in
theorem meets_enumerate_newT (l : Addr) (items : Array Value) (n : Nat) (dct : Option Addr) (sl : Array (Option Value)) :
    Meets (Builtin.«enumerate.__new__» ⟨[.type "enumerate", .ref l], []⟩) (fun _ R s => s.heap.get? l = some { cls := .type "tuple", dict := dct, data := .seq items n, slots := sl } ∧
      R (.ok (.ret (.ref (s.heap.push { cls := .type "tuple_iterator", data := .fields #[.ref l, .int 0 0] }).objs.size)))
        { s with heap := (s.heap.push { cls := .type "tuple_iterator", data := .fields #[.ref l, .int 0 0] }).push { cls := .type "enumerate", data := .fields #[.none, .bool false, .ref s.heap.objs.size, rawInt 0, .none, .none] } }) :=
  .of_wp fun prog w A R s h => by
    obtain ⟨hp, g, d, tk, os⟩ := s; obtain ⟨hl, h⟩ := h
    have hsub := sub_enumerate
    have hL : Heap.IsTuple (Shared.heap ⟨hp, g, d, tk, os⟩) l items := ⟨_, hl, rfl, n, rfl⟩
    wp_walk using AutoSeq1.wpAny_loadPart' hl
    refine wpAny_stack_any fun st => wpAny_pure ?_
    split
    · rename_i c _ _ _ _ _
      cases (c == Value.type "enumerate")
      · wp_walk using AutoSeq1.wpAny_loadPart' hl, wpAny_pyIter_tuple hL
        exact ⟨_, rfl, h⟩
      · wp_walk using AutoSeq1.wpAny_loadPart' hl, wpAny_pyIter_tuple hL
        exact ⟨_, rfl, h⟩
    · wp_walk using AutoSeq1.wpAny_loadPart' hl, wpAny_pyIter_tuple hL
      exact ⟨_, rfl, h⟩
theorem call_enumerate_tup {prog : Program} {w : World} {A : Around} {E : Value → Shared → Prop} {s : Shared} {l : Addr} {items : Array Value} {Q : Value → Shared → Prop} (hL : s.heap.IsTuple l items)
    (h : ∀ h', IsEnum h' (s.heap.objs.size + 1) s.heap.objs.size 0 .none → h'.IsTupleIter s.heap.objs.size l 0 → h'.objs.size = s.heap.objs.size + 2 →
      (∀ b o, s.heap.get? b = some o → h'.get? b = some o) → Q (.ref (s.heap.objs.size + 1)) { s with heap := h' }) :
    wpAny (model prog w) A (call (.type "enumerate") [.ref l]) Q E s := by
  obtain ⟨⟨c, dct, dt, sl⟩, hl, hc, n, hd⟩ := hL
  replace hc : c = .type "tuple" := hc
  replace hd : dt = .seq items n := hd
  subst hc hd
  refine callType_new F.called_enumerate (by decide) (F.typeCall_enumerate_1 _) (F.newCall_enumerate_1 _) (fun obj => F.args_object_init_2 obj _) F.entry_enumerate_new
    (meets_enumerate_newT l items n dct sl) ⟨hl, ?_⟩
  have hz : (s.heap.push { cls := .type "tuple_iterator", data := .fields #[.ref l, .int 0 0] }).objs.size = s.heap.objs.size + 1 := Heap.size_push ..
  show _ ∧ _
  rw [hz]
  have he : IsEnum ((s.heap.push { cls := .type "tuple_iterator", data := .fields #[.ref l, .int 0 0] }).push
      { cls := .type "enumerate", data := .fields #[.none, .bool false, .ref s.heap.objs.size, rawInt 0, .none, .none] }) (s.heap.objs.size + 1) s.heap.objs.size 0 .none := by
    have := Heap.get?_push_size (s.heap.push { cls := .type "tuple_iterator", data := .fields #[.ref l, .int 0 0] })
      (o := { cls := .type "enumerate", data := .fields #[.none, .bool false, .ref s.heap.objs.size, rawInt 0, .none, .none] }) rfl
    rw [hz] at this; exact this
  refine ⟨⟨_, he, rfl⟩, h _ he ⟨_, Heap.get?_push_of_some _ (Heap.get?_push_size _ rfl), rfl, rfl⟩ (by rw [Heap.size_push, hz]) fun b o x => Heap.get?_push_of_some _ (Heap.get?_push_of_some _ x)⟩
theorem pyNext_enumT_end {prog : Program} {w : World} {A : Around} {E : Value → Shared → Prop} {s : Shared} {e it a : Addr} {i : Nat} {old : Value} {k : Int} {items : Array Value} {Q : Option Value → Shared → Prop} (hh : A.handled = none) (he : IsEnum s.heap e it k old) (hit : s.heap.IsTupleIter it a i) (ht : s.heap.IsTuple a items)
    (hx : items[i]? = none) (hQ : ∀ h', Heap.ExtBut it s.heap h' → Q none { s with heap := h' }) : wpAny (model prog w) A (pyNext (.ref e)) Q E s := by
  have hT : s.TypeIs (.ref e) "enumerate" := ⟨_, he, rfl⟩
  unfold pyNext
  refine wpAny_bind (wpAny_attempt (wpAny_callSpecial?_slot (name := Str.ofString "__next__") hT F.slot_enumerate_next
    (wpAny_call_entry F.slot_enumerate_next hT F.entry_enumerate_next ?_ (F.args_enumerate_next_1 _))))
  show wpAny _ _ (field (.ref e) 2 >>= _) _ _ _
  refine wpAny_bind (wpAny_field he rfl (x := .ref it) rfl ?_)
  refine wpAny_bind (wpAny_nextOf_tuple_end (A := A.in1) hh hit ht hx fun h' x he' hx' => ?_)
  obtain ⟨o, ho, hc⟩ := hx'
  refine wpAny_bind (wpAny_isInstance (T := "StopIteration") (b := true) ⟨o, ho, hc⟩ isSubtype_stop ?_)
  exact wpAny_pure (hQ _ he')
/-- the tuple at a, each item in a new pair -/
def IteT (K : PySem.W.Frag) (a : Addr) : It :=
  ⟨fun i H => ∃ (xs : List V) (x : V), SqT K H a xs ∧ xs[i]? = some x, fun i H v H' => ∃ T x, v = .ref T ∧ H T = none ∧ H' = upd H T (.tup [.int (i : Nat), x]) ∧ ∀ xs, SqT K H a xs → xs[i]? = some x, fun i H => ∃ xs : List V, SqT K H a xs ∧ xs.length ≤ i⟩
theorem turn_enumT {P : Program} {w : World} {K : PySem.W.Frag} {elts : List Expr} {kk : Nat} {tpos : Pos} (a e it : Addr) (hai : a ≠ it) (hea : e ≠ a) :
    Turn P w K (.Tuple elts kk tpos) (IteT K a) [e, it] e (fun i h => (∃ old, IsEnum h e it ((i : Nat) : Int) old) ∧ h.IsTupleIter it a i ∧ e ≠ it) where
  mem := by simp
  obj := fun i h st b hb => by
    obtain ⟨⟨old, he⟩, ⟨o, ho, hc, hd⟩, _⟩ := st
    have e' : b = e ∨ b = it := by simpa using hb
    rcases e' with z | z
    · rw [z]; exact ⟨_, he, fun v q => nomatch q⟩
    · rw [z]; exact ⟨o, ho, fun v q => by rw [hd] at q; cases q⟩
  keep := fun i h h' st k => let ⟨⟨old, he⟩, hi, hne⟩ := st; ⟨⟨old, k e (by simp) _ he⟩, hi.at fun o q => k it (by simp) o q, hne⟩
  item := by
    intro X hP hw hK hc i pins s σ H E I hf st hg
    subst hP hw hK
    obtain ⟨⟨old, he⟩, hit, hne⟩ := st
    obtain ⟨xs, x, hq, hx⟩ := hg
    obtain ⟨its, rv, p, hz⟩ := I.tuple hq
    obtain ⟨u, hu, ru⟩ := rv.get hx
    have hel : e < s.heap.objs.size := Heap.lt_size he
    have hil : it < s.heap.objs.size := by obtain ⟨_, q, _⟩ := hit; exact Heap.lt_size q
    have p' : s.heap.IsTuple a its.toArray := p
    have li : i < its.toArray.size := by
      have := (List.getElem?_eq_some_iff.mp hu).1
      simpa using this
    refine wpAny_pyNext_enum_itemD (Draws.tuple (A := X.A.in1) (I.ok.hd hc) it a hai its.toArray) he ⟨hit, p'⟩ li hne (by simp [hne, hea]) fun x' h' tk hP ho hs' hT hsz hk => ?_
    have ex' : x' = u := by
      have h1 : its.toArray[i]? = some u := by simpa using hu
      rw [h1] at hP
      exact (Option.some.inj hP).symm
    subst ex'
    refine ⟨_, rfl, wpAny_letOwnedTupleGo_enum (s := { s with heap := h', toks := tk + 1 }) ho fun h'' he' sb => ?_⟩
    have hT2 : h''.get? s.heap.objs.size = some { cls := .type "tuple", data := .seq #[.int i tk, x'] } := (sb.2 _ (Nat.ne_of_gt hel)).trans hT
    have new : ObjOk X.prog X.w (upd H s.heap.objs.size (.tup [.int (i : Nat), x])) h'' s.heap.objs.size (.tup [.int (i : Nat), x]) :=
      ⟨by show 2 ≤ sizeLine; decide, [.int i tk, x'], .cons ⟨_, rfl⟩ (.cons ru .nil), ⟨_, hT2, rfl, _, rfl⟩⟩
    have I1 : Inv X pins σ (upd H s.heap.objs.size (.tup [.int (i : Nat), x])) { s with heap := h'', toks := tk + 1 } :=
      I.turnedNew (ch := [e, it]) (fun b ob hb q => (sb.2 b (fun z => hb (by simp [z]))).trans (hk b ob (fun z => hb (by simp [z])) (fun z => hb (by simp [z])) q)) hf (Nat.le_refl _) new
    refine ⟨.ref s.heap.objs.size, _, I1, rfl, ⟨_, x, rfl, I.hok.fresh (Nat.le_refl _), rfl, fun ys hy => by rw [I.tuple_inj hy hq]; exact hx⟩, ⟨⟨x', ?_⟩, hs'.1.at fun o q => (sb.2 it (Ne.symm hne)).trans q, hne⟩, fun b hb => ?_⟩
    · have e1 : ((i + 1 : Nat) : Int) = (i : Int) + 1 := by omega
      rw [e1]; exact he'
    · have hb' : b < s.heap.objs.size := by
        have e' : b = e ∨ b = it := by simpa using hb
        rcases e' with z | z
        · rw [z]; exact hel
        · rw [z]; exact hil
      rw [upd_ne (Nat.ne_of_lt hb')]
      exact (hf b hb).1
  done := by
    intro X hP hw hK hc i pins s σ H E I hf st hg
    subst hP hw hK
    obtain ⟨⟨old, he⟩, hit, hne⟩ := st
    obtain ⟨xs, hq, hx⟩ := hg
    obtain ⟨its, rv, p, hz⟩ := I.tuple hq
    obtain ⟨f0, f1, f2, f3, f4, f5⟩ := hf it (by simp)
    have hl := rv.length
    have p' : s.heap.IsTuple a its.toArray := p
    exact pyNext_enumT_end (I.ok.hd hc) he hit p' (by simp; omega) fun h' eb => ⟨rfl, I.turned (t' := s.toks) (fun b o hb q => eb b o hb q) f0 f1 f3 f4 f5⟩
  self := fun A i s Q E st h => let ⟨⟨_, he⟩, _⟩ := st; wpAny_pyIter_enum he h
def iEnumA (K : PySem.W.Frag) (ta : TA) : TI := fun σ H R => ta σ H fun vs H1 => ∃ a xs, vs = [.ref a] ∧ ((SqL K H1 a xs ∧ R (Ite K a) H1) ∨ (SqT K H1 a xs ∧ R (IteT K a) H1))
theorem pi_enumA {X : Cx} {e : Expr} {ta : TA} {p pos tpos : Pos} {elts : List Expr} {kk : Nat} (hg : Gl X "enumerate") (hm : X.mg "enumerate" = none) (ha : PA X [e] ta) (hs : starEach [e] X.env = [(false, eval e X.env)] := by rfl) :
    PI X (.Tuple elts kk tpos) (.Call (.Name "enumerate" p) [e] [] pos) (iEnumA X.K ta) := by
  refine ⟨fun pins s σ H R I h => ?_⟩
  refine Call_ (ld_blt I hg hm PyProof.Rows.boot_enumerate (PyProof.Rows.callWith_type1 (thn (ha.run pos pins s σ H _ I h) fun us s1 ⟨vs, H1, I1, r1, q1⟩ => ?_) hs rfl))
  obtain ⟨a, xs, ex, q1⟩ := q1
  subst ex
  cases r1 with
  | cons r rr =>
    cases rr
    cases r
    have fp : ∀ b ∈ [s1.heap.objs.size + 1, s1.heap.objs.size], FpOk X pins H1 b := fun b hb => by
      have e' : b = s1.heap.objs.size + 1 ∨ b = s1.heap.objs.size := by simpa using hb
      have hle : s1.heap.objs.size ≤ b := by
        rcases e' with z | z
        · rw [z]; exact Nat.le_add_right _ _
        · rw [z]; exact Nat.le_refl _
      exact I1.fpOk hle (I1.hok.fresh hle)
    rcases q1 with ⟨hq, q⟩ | ⟨hq, q⟩
    · obtain ⟨its, rv, p', hz⟩ := I1.list hq
      refine call_enumerate_list p'.isList fun h' he hit hsz hk => wpAny_pyIter_enum he ?_
      have I2 : Inv X pins σ H1 { s1 with heap := h' } := I1.kept (t' := s1.toks) hk
      exact ⟨s1.heap.objs.size + 1, [s1.heap.objs.size + 1, s1.heap.objs.size], _, _, H1, rfl, I2, turn_enum a (s1.heap.objs.size + 1) s1.heap.objs.size, ⟨⟨.none, he⟩, hit, Nat.succ_ne_self _⟩, fp, q⟩
    · obtain ⟨its, rv, p', hz⟩ := I1.tuple hq
      have la : a < s1.heap.objs.size := by obtain ⟨_, z, _⟩ := id p'; exact Heap.lt_size z
      refine call_enumerate_tup (show s1.heap.IsTuple a its.toArray from p') fun h' he hit hsz hk => wpAny_pyIter_enum he ?_
      have I2 : Inv X pins σ H1 { s1 with heap := h' } := I1.kept (t' := s1.toks) hk
      exact ⟨s1.heap.objs.size + 1, [s1.heap.objs.size + 1, s1.heap.objs.size], _, _, H1, rfl, I2, turn_enumT a (s1.heap.objs.size + 1) s1.heap.objs.size (Nat.ne_of_lt la) (Nat.ne_of_gt (Nat.lt_succ_of_lt la)), ⟨⟨.none, he⟩, hit, Nat.succ_ne_self _⟩, fp, q⟩
section
variable {X : Cx} {K : PySem.W.Frag} {A : Ad} {Wx : WX} {B : Bs} {σ σ1 σ2 : L2.St} {ρ ρ' : Env} {T : Tmps} {H H' F : Hp} {O : Addr → Option Owner}
def pairs (xs ys : List D) : List D := (xs.zip ys).map fun p => .tuple [p.1, p.2]
theorem pairs_get {xs ys : List D} {i : Nat} {d : D} (h : (pairs xs ys)[i]? = some d) : ∃ x y, xs[i]? = some x ∧ ys[i]? = some y ∧ d = .tuple [x, y] := by
  unfold pairs at h
  rw [List.getElem?_map] at h
  cases q : (xs.zip ys)[i]? with
  | none => rw [q] at h; cases h
  | some p =>
    rw [q] at h
    cases h
    obtain ⟨x, y⟩ := p
    rw [List.getElem?_zip_eq_some] at q
    exact ⟨x, y, q.1, q.2, rfl⟩
theorem pairs_len {xs ys : List D} : (pairs xs ys).length = min xs.length ys.length := by simp [pairs]
theorem iterD_zipL {a b : Addr} {vs us : List V} {xs ys : List D} (h : Rd F a (.lst vs)) (h' : Rd F b (.lst us)) (hd : DqAll K F vs xs) (hd' : DqAll K F us ys) : IterD K (Itz K a b) F (pairs xs ys) where
  goes := fun i H hi hs => by
    rw [pairs_len, ← dpa_len hd, ← dpa_len hd'] at hi
    have h1 : i < vs.length := by omega
    have h2 : i < us.length := by omega
    exact ⟨vs, us, vs[i], us[i], .inl (rd_sub hs h), .inl (rd_sub hs h'), by simp [h1], by simp [h2]⟩
  stops := fun H hs => by
    rw [pairs_len, ← dpa_len hd, ← dpa_len hd']
    exact ⟨vs, us, .inl (rd_sub hs h), .inl (rd_sub hs h'), by omega⟩
  yields := fun i H x H' d e hs y => by
    obtain ⟨x1, y1, e1, e2, rfl⟩ := pairs_get e
    obtain ⟨Tt, x2, y2, z1, z2, z3, z4, z5⟩ := y
    have q1 := z4 vs (.inl (rd_sub hs h))
    have q2 := z5 us (.inl (rd_sub hs h'))
    obtain ⟨v1, w1, d1⟩ := dpa_get hd e1
    obtain ⟨v2, w2, d2⟩ := dpa_get hd' e2
    rw [q1] at w1
    rw [q2] at w2
    cases w1
    cases w2
    exact .inr ⟨Tt, _, _, z1, z2, z3, rfl, .cons d1 (.cons d2 .nil)⟩
theorem iterD_zipT {a b : Addr} {vs us : List V} {xs ys : List D} (h : SqT K F a vs) (h' : SqT K F b us) (hd : DqAll K F vs xs) (hd' : DqAll K F us ys) : IterD K (RZ.ItzT K a b) F (pairs xs ys) where
  goes := fun i H hi hs => by
    rw [pairs_len, ← dpa_len hd, ← dpa_len hd'] at hi
    have h1 : i < vs.length := by omega
    have h2 : i < us.length := by omega
    exact ⟨vs, us, vs[i], us[i], sqt_sub hs h, sqt_sub hs h', by simp [h1], by simp [h2]⟩
  stops := fun H hs => by
    rw [pairs_len, ← dpa_len hd, ← dpa_len hd']
    exact ⟨vs, us, sqt_sub hs h, sqt_sub hs h', by omega⟩
  yields := fun i H x H' d e hs y => by
    obtain ⟨x1, y1, e1, e2, rfl⟩ := pairs_get e
    obtain ⟨Tt, x2, y2, z1, z2, z3, z4, z5⟩ := y
    have q1 := z4 vs (sqt_sub hs h)
    have q2 := z5 us (sqt_sub hs h')
    obtain ⟨v1, w1, d1⟩ := dpa_get hd e1
    obtain ⟨v2, w2, d2⟩ := dpa_get hd' e2
    rw [q1] at w1
    rw [q2] at w2
    cases w1
    cases w2
    exact .inr ⟨Tt, _, _, z1, z2, z3, rfl, .cons d1 (.cons d2 .nil)⟩
theorem rdi_zip {es : List Expr} {kk : Nat} {tpos : Pos} {e e' : Expr} {p pos : Pos} {ev ev' : Env → Res (R × Env)} (hg : Gl X "zip") (hm : X.mg "zip" = none) (he : PE X e (RdE X.K A Wx ev)) (he' : PE X e' (RdE X.K A Wx ev')) (hs : noStar e = true) (hs' : noStar e' = true) :
    PI X (.Tuple es kk tpos) (.Call (.Name "zip" p) [e, e'] [] pos) (RdI X.K A Wx fun ρ => do
      let (x, ρ) ← ev ρ
      let (y, ρ) ← ev' ρ
      let (ds, ρ) ← Res.of (keepAll [x, y] ρ)
      match ds with
      | [.list xs, .list ys] => .ok ((xs.zip ys).map fun p => .tuple [p.1, p.2], ρ)
      | [.tuple xs, .tuple ys] => .ok ((xs.zip ys).map fun p => .tuple [p.1, p.2], ρ)
      | _ => .stuck) := by
  refine PI_imp (RZ.pi_zipA hg hm (pa_cons he (pa_cons he' pa_nil (star_head (noStar_ne hs'))) (star_head (noStar_ne hs))) (star_head (noStar_ne hs)) (star_plain (by rw [List.all_cons, hs']; rfl))) fun σ H Rr ⟨B, ρ, T, at_, g⟩ => ?_
  refine ⟨B, ρ, T, at_, (gd_bind.mp g).mono (fun ⟨x, ρ1⟩ g1 v H1 at1 => ?_) fun _ _ h => h⟩
  refine ⟨B, ρ1, _, at1, (gd_bind.mp g1).mono (fun ⟨y, ρ2⟩ g2 v' H2 ⟨F, O, S⟩ => ?_) fun _ _ h => h⟩
  obtain ⟨⟨ds, ρ3⟩, ek, g3⟩ := gd_of (gd_bind.mp g2)
  obtain ⟨F3, O3, S3, _, da, _⟩ := Sep.keepAll (T := T) (rs := [x, y]) (vs := [v, v']) (by simpa using S) rfl ek
  match ds, g3, da with
  | [.list xs, .list ys], g3, .cons d1 (.cons d2 .nil) =>
    cases d1 with
    | lst a1 a2 =>
      cases d2 with
      | lst b1 b2 => exact ⟨_, _, _, _, rfl, .inl ⟨.inl (rd_sub S3.fh a1), .inl (rd_sub S3.fh b1), g3 _ _ _ _ S3.drop (iterD_zipL a1 b1 a2 b2)⟩⟩
  | [.tuple xs, .tuple ys], g3, .cons d1 (.cons d2 .nil) =>
    cases d1 with
    | tup a1 a2 =>
      cases d2 with
      | tup b1 b2 => exact ⟨_, _, _, _, rfl, .inr ⟨sqt_sub S3.fh a1, sqt_sub S3.fh b1, g3 _ _ _ _ S3.drop (iterD_zipT a1 b1 a2 b2)⟩⟩
theorem enum_get {xs : List D} {i : Nat} {d : D} (h : (xs.zipIdx.map fun p => PyData.tuple [.int (p.2 : Nat), p.1])[i]? = some d) : ∃ x, xs[i]? = some x ∧ d = .tuple [.int i, x] := by
  rw [List.getElem?_map, List.getElem?_zipIdx] at h
  cases q : xs[i]? with
  | none => rw [q] at h; cases h
  | some x =>
    rw [q] at h
    cases h
    exact ⟨x, rfl, by simp⟩
theorem iterD_enum {a : Addr} {vs : List V} {xs : List D} (h : Rd F a (.lst vs)) (hd : DqAll K F vs xs) : IterD K (Ite K a) F (xs.zipIdx.map fun p => .tuple [.int (p.2 : Nat), p.1]) where
  goes := fun i H hi hs => walk_enum.goes i H (by rw [dpa_len hd]; simpa using hi) (.inl (rd_sub hs h))
  stops := fun H hs => by
    have e : (xs.zipIdx.map fun p => PyData.tuple [.int (p.2 : Nat), p.1]).length = vs.length := by rw [dpa_len hd]; simp
    rw [e]
    exact walk_enum.stops H (.inl (rd_sub hs h))
  yields := fun i H x H' d e hs y => by
    obtain ⟨x1, e1, rfl⟩ := enum_get e
    obtain ⟨v1, w1, d1⟩ := dpa_get hd e1
    have hi : i < vs.length := (List.getElem?_eq_some_iff.mp w1).1
    obtain ⟨Tt, x2, y2, z1, z2, z3, z4, z5⟩ := walk_enum.yields i H x H' hi (.inl (rd_sub hs h)) y
    have z5' : vs[i]? = some y2 := z5
    rw [w1] at z5'
    cases z4
    cases z5'
    exact .inr ⟨Tt, _, _, z1, z2, z3, rfl, .cons (.int _) (.cons d1 .nil)⟩
theorem iterD_enumT {a : Addr} {vs : List V} {xs : List D} (h : SqT K F a vs) (hd : DqAll K F vs xs) : IterD K (IteT K a) F (xs.zipIdx.map fun p => .tuple [.int (p.2 : Nat), p.1]) where
  goes := fun i H hi hs => by
    have h1 : i < vs.length := by rw [dpa_len hd]; simpa using hi
    exact ⟨vs, vs[i], sqt_sub hs h, by simp [h1]⟩
  stops := fun H hs => by
    have e : (xs.zipIdx.map fun p => PyData.tuple [.int (p.2 : Nat), p.1]).length = vs.length := by rw [dpa_len hd]; simp
    rw [e]
    exact ⟨vs, sqt_sub hs h, Nat.le_refl _⟩
  yields := fun i H x H' d e hs y => by
    obtain ⟨x1, e1, rfl⟩ := enum_get e
    obtain ⟨v1, w1, d1⟩ := dpa_get hd e1
    obtain ⟨Tt, y2, z1, z2, z3, z4⟩ := y
    have z5' := z4 vs (sqt_sub hs h)
    rw [w1] at z5'
    cases z5'
    exact .inr ⟨Tt, _, _, z1, z2, z3, rfl, .cons (.int _) (.cons d1 .nil)⟩
theorem rdi_enum {es : List Expr} {kk : Nat} {tpos : Pos} {e : Expr} {p pos : Pos} {ev : Env → Res (R × Env)} (hg : Gl X "enumerate") (hm : X.mg "enumerate" = none) (he : PE X e (RdE X.K A Wx ev)) (hs : noStar e = true) :
    PI X (.Tuple es kk tpos) (.Call (.Name "enumerate" p) [e] [] pos) (RdI X.K A Wx fun ρ => do
      let p ← ev ρ
      let (y, ρ) ← keepR p
      match y with
      | .list xs => .ok (xs.zipIdx.map fun p => .tuple [.int p.2, p.1], ρ)
      | .tuple xs => .ok (xs.zipIdx.map fun p => .tuple [.int p.2, p.1], ρ)
      | _ => .stuck) := by
  refine PI_imp (pi_enumA hg hm (pa_cons he pa_nil (star_head (noStar_ne hs))) (star_head (noStar_ne hs))) fun σ H Rr ⟨B, ρ, T, at_, g⟩ => ?_
  refine ⟨B, ρ, T, at_, (gd_bind.mp g).mono (fun ⟨r, ρ1⟩ g1 v H1 ⟨F, O, S⟩ => ?_) fun _ _ h => h⟩
  obtain ⟨y, ρ2, ek, g2⟩ := gd_keepR (gd_bind.mp g1)
  obtain ⟨F2, O2, S2, _⟩ := S.keepTop ek
  have dv : Dq X.K F2 v y := S2.top
  match y, g2, dv with
  | .list xs, g2, .lst a1 a2 => exact ⟨_, _, rfl, .inl ⟨.inl (rd_sub S2.fh a1), g2 _ _ _ _ S2.drop (iterD_enum a1 a2)⟩⟩
  | .tuple xs, g2, .tup a1 a2 => exact ⟨_, _, rfl, .inr ⟨sqt_sub S2.fh a1, g2 _ _ _ _ S2.drop (iterD_enumT a1 a2)⟩⟩

/-! ### comprehensions -/
abbrev lcTurn (tg : Tg) (ec : Env → Res (Bool × Env)) (ee : Env → Res (R × Env)) (own : List Nat) : D → Env → Res (Option D × Env) := fun x ρ => do
  let ρ ← Res.of (tg.set ρ x)
  let (b, ρ) ← ec ρ
  if b then do
    let p ← ee ρ
    let (y, ρ) ← keepR p
    .ok (some y, wipeE ρ own)
  else .ok (none, wipeE ρ own)
abbrev lcEv (ei : Env → Res (List D × Env)) (tg : Tg) (ec : Env → Res (Bool × Env)) (ee : Env → Res (R × Env)) (own : List Nat) : Env → Res (R × Env) := fun ρ => do
  let (xs, ρ) ← ei ρ
  let (ys, ρn) ← lcLoop (lcTurn tg ec ee own) xs [] (wipeE ρ own)
  .ok (.fresh ys, backE own 0 ρ ρn)
theorem noSlot_one {r : R} {v : V} (h : ∀ i, r ≠ .slot i) : NoSlot [(r, v)] := fun k i u e => by
  cases k with
  | zero => cases e; exact h i rfl
  | succ k => simp at e
theorem drop_get {α : Type} {xs : List α} {i : Nat} (hi : i < xs.length) : ∃ x, xs[i]? = some x ∧ xs.drop i = x :: xs.drop (i + 1) := ⟨xs[i], by simp [hi], List.drop_eq_getElem_cons hi⟩
/-- the general loop of a comprehension, from any list made so far -/
theorem lc_it2 {J : It} {n : Nat} {G : Hp → Prop} {Y : Nat → Hp → V → Hp → Prop} (w : Walk J n G Y) {H1 : Hp} {Nd : Hp → Prop} {tn : (Hp → Prop) → V → Hp → Prop} (Pv : Nat → Hp → Prop) (h0 : Pv 0 H1) (hG : ∀ i H, i ≤ n → Pv i H → G H)
    (hs : ∀ i x H H', i < n → Pv i H → Y i H x H' → tn (Pv (i + 1)) x H') (hd : ∀ H, Pv n H → Nd H) :
    ∃ W : Nat → Nat → Hp → Prop, (∃ m, W 0 m H1) ∧ ∀ i m H, W i m H → (J.stop i H ∧ Nd H) ∨ (J.go i H ∧ ∃ Nx : Hp → Prop, (∀ H', Nx H' → ∃ m', m' < m ∧ W (i + 1) m' H') ∧ ∀ x H', J.yld i H x H' → tn Nx x H') := by
  refine ⟨fun i m H => (m = n - i ∧ i ≤ n) ∧ Pv i H, ⟨n, ⟨by simp, Nat.zero_le _⟩, h0⟩, fun i m H hw => ?_⟩
  obtain ⟨⟨hm, hi⟩, p⟩ := hw
  have gg := hG i H hi p
  rcases Nat.lt_or_ge i n with lt | ge
  · exact .inr ⟨w.goes i H lt gg, Pv (i + 1), fun H' p' => ⟨n - (i + 1), by omega, ⟨rfl, lt⟩, p'⟩, fun x H' y => hs i x H H' lt p (w.yields i H x H' lt gg y)⟩
  · obtain rfl : i = n := Nat.le_antisymm hi ge
    exact .inl ⟨w.stops H gg, hd H p⟩
/-- one turn: the target, the test, the item; Nx what it is to reach -/
def tTurn (K : PySem.W.Frag) (A : Ad) (tg : Tg) (ec : Env → Res (Bool × Env)) (ee : Env → Res (R × Env)) (own : List Nat) (σ : L2.St) (Da : Addr) (Nx : Hp → Prop) (x : V) (H' : Hp) : Prop :=
  RdG K tg x (wipe σ own) H' fun σ2 H2 => wipe σ2 own = wipe σ own ∧ RdT K A (fun _ _ _ _ => False) ec σ2 H2 fun b H3 =>
    if b = true then RdE K A (fun _ _ _ _ => False) ee σ2 H3 fun y H4 => ∃ acc, H4 Da = some (.lst acc) ∧ acc.length < sizeLine ∧ Nx (upd H4 Da (.lst (acc ++ [y]))) else Nx H3
theorem lcLoop_noex {f : D → Env → Res (Option D × Env)} {c : Str} {ρx : Env} : ∀ (xs acc : List D) (ρ : Env), lcLoop f xs acc ρ ≠ .ex c ρx
  | [], acc, ρ, h => by cases h
  | x :: xs, acc, ρ, h => by
    simp only [lcLoop] at h
    split at h
    · split at h
      · exact lcLoop_noex xs _ _ h
      · cases h
    · exact lcLoop_noex xs _ _ h
    · cases h
theorem lc_inner {B1 : Bs} {J : It} {items acc0 ys : List D} {tg : Tg} {ec : Env → Res (Bool × Env)} {ee : Env → Res (R × Env)} {own : List Nat} {Da : Addr} {Hs : Hp} {ρ0 ρn : Env} {Nd : Hp → Prop} (hown : ∀ j ∈ tg.slots, j ∈ own)
    (at0 : At K A B1 (wipe σ own) ρ0 [(.fresh acc0, .ref Da)] Hs) (hF : Sub F B1.F) (it : IterD K J F items) (hr : lcLoop (lcTurn tg ec ee own) items acc0 ρ0 = .ok (ys, ρn)) (hNd : ∀ H, At K A B1 (wipe σ own) ρn [(.fresh ys, .ref Da)] H → Nd H) :
    ∃ W : Nat → Nat → Hp → Prop, (∃ m, W 0 m Hs) ∧ ∀ i m H, W i m H → (J.stop i H ∧ Nd H) ∨ (J.go i H ∧ ∃ Nx : Hp → Prop, (∀ H', Nx H' → ∃ m', m' < m ∧ W (i + 1) m' H') ∧ ∀ x H', J.yld i H x H' → tTurn K A tg ec ee own σ Da Nx x H') := by
  refine lc_it2 it.walk (fun i H => ∃ acc ρi, At K A B1 (wipe σ own) ρi [(.fresh acc, .ref Da)] H ∧ lcLoop (lcTurn tg ec ee own) (items.drop i) acc ρi = .ok (ys, ρn)) ⟨acc0, ρ0, at0, by simpa using hr⟩ ?_ ?_ ?_
  · rintro i H2 _ ⟨acc, ρi, ⟨F2, O2, S2⟩, _⟩
    exact Sub.trans hF (Sub.trans S2.f0 S2.fh)
  · rintro i x H2 H3 hi ⟨acc, ρi, ⟨F2, O2, S2⟩, hrun⟩ ⟨d, hd, hy⟩
    obtain ⟨d', hd', hdrop⟩ := drop_get hi
    rw [hd] at hd'
    cases hd'
    rw [hdrop] at hrun
    simp only [lcLoop] at hrun
    have S2b := S2
    -- behind the yield
    obtain ⟨F3, S3, dx⟩ : ∃ F3, Sep K A B1 (wipe σ own) ρi [(.fresh acc, .ref Da)] H3 F3 O2 ∧ Dq K F3 x d := by
      rcases hy with ⟨rfl, dx⟩ | ⟨Tt, vs, ds, rfl, hT, rfl, rfl, dd⟩
      · exact ⟨F2, S2, dp_sub (Sub.trans hF S2.f0) _ _ dx⟩
      · have f := (S2.fresh hT).1
        exact ⟨upd F2 Tt (.tup vs), S2.laid (o := .tup vs) hT nonT_tup, .tup (.inl (.inl upd_same)) (dpa_sub (Sub.trans hF (Sub.trans S2.f0 (Sub.upd f))) _ _ dd)⟩
    -- the target
    cases ht : tg.set ρi d with
    | none =>
      exfalso
      have e : lcTurn tg ec ee own d ρi = .stuck := by
        show Res.bind (Res.of (tg.set ρi d)) _ = _
        rw [ht]; rfl
      rw [e] at hrun
      cases hrun
    | some ρa =>
      have e1 : lcTurn tg ec ee own d ρi = (do
          let (b, ρ) ← ec ρa
          if b then do
            let p ← ee ρ
            let (y, ρ) ← keepR p
            .ok (some y, wipeE ρ own)
          else .ok (none, wipeE ρ own)) := by
        show Res.bind (Res.of (tg.set ρi d)) _ = _
        rw [ht]; rfl
      rw [e1] at hrun
      have hT1 : NoSlot [((.fresh acc : R), V.ref Da)] := noSlot_one fun i z => nomatch z
      refine tg_sound S3 hT1 dx ht fun σ' ag S4 => ?_
      have len' : σ'.length = σ.length := by rw [ag.1, wipe_length]
      have ag' : ∀ j, j ∉ own → σ'[j]? = σ[j]? := fun j hj => by rw [ag.2 j fun z => hj (hown j z), wipe_ne hj]
      have agw : ∀ j, j ∉ own → σ'[j]? = (wipe σ own)[j]? := fun j hj => ag.2 j fun z => hj (hown j z)
      refine ⟨wipe_agree len' ag', ?_⟩
      cases hec : ec ρa with
      | stuck => exfalso; simp only [hec, bind, Res.bind] at hrun; cases hrun
      | ex c ρx => exfalso; simp only [hec, bind, Res.bind] at hrun; cases hrun
      | ok z =>
        obtain ⟨b, ρb⟩ := z
        refine ⟨_, ρa, _, S4.sc, ?_⟩
        rw [hec]
        show ∀ H', At K A B1 σ' ρb [(.fresh acc, .ref Da)] H' → _
        intro H4 at4
        cases b with
        | false =>
          refine iteF ?_
          obtain ⟨F4, O4, S5⟩ := at4
          simp only [hec, bind, Res.bind] at hrun
          exact ⟨acc, wipeE ρb own, ⟨F4, O4, S5.wiped hT1 ag.1.symm agw⟩, hrun⟩
        | true =>
          refine iteT ?_
          cases hee : ee ρb with
          | stuck => exfalso; simp only [hec, hee, bind, Res.bind, if_true] at hrun; cases hrun
          | ex c ρx => exfalso; simp only [hec, hee, bind, Res.bind, if_true] at hrun; cases hrun
          | ok z2 =>
            obtain ⟨r, ρc⟩ := z2
            refine ⟨_, ρb, _, at4, ?_⟩
            rw [hee]
            show ∀ v H', At K A B1 σ' ρc ([(.fresh acc, .ref Da)] ++ [(r, v)]) H' → _
            rintro v H5 ⟨F5, O5, S5⟩
            cases hk : r.keep ρc with
            | none => exfalso; simp only [hec, hee, hk, bind, Res.bind, if_true, keepR, Res.of] at hrun; cases hrun
            | some z3 =>
              obtain ⟨y, ρd⟩ := z3
              simp only [hec, hee, hk, bind, Res.bind, if_true, keepR, Res.of] at hrun
              split at hrun
              · rename_i hlen
                obtain ⟨F6, O6, S6, _⟩ := S5.keepTop hk
                obtain ⟨p, vs, e2, e3, e4, e5⟩ := S6.temps 0 _ _ rfl
                cases e2
                have dv : Dq K F6 v y := S6.top
                refine ⟨vs, e4, ?_, acc ++ [y], wipeE ρd own, ⟨F6, O6, ?_⟩, hrun⟩
                · rw [dpa_len e5]; exact Nat.lt_of_lt_of_le hlen lim_size
                · have S7 := S6.drop.grow (k := 0) rfl e4 (dpa_app e5 (.cons dv .nil))
                  exact S7.wiped (noSlot_one fun i z => nomatch z) ag.1.symm agw
              · cases hrun
  · rintro H2 ⟨acc, ρi, at2, hrun⟩
    rw [List.drop_length] at hrun
    cases hrun
    exact hNd _ at2
/-- the reading of a comprehension -/
theorem lc_sound {ei : Env → Res (List D × Env)} {tg : Tg} {ec : Env → Res (Bool × Env)} {ee : Env → Res (R × Env)} {own : List Nat} {Q : VK} (hown : ∀ j ∈ tg.slots, j ∈ own)
    (h : RdE K A Wx (lcEv ei tg ec ee own) σ H Q) : tLc (RdI K A Wx ei) (RdG K tg) (RdT K A (fun _ _ _ _ => False) ec) (RdE K A (fun _ _ _ _ => False) ee) own σ H Q := by
  obtain ⟨B, ρ, T, at_, g⟩ := h
  refine ⟨B, ρ, T, at_, (gd_bind.mp g).mono (fun ⟨items, ρ1⟩ g1 J H1 F O S it => ?_) fun _ _ h => h⟩
  intro Da hDa
  have g2 := gd_bind.mp g1
  cases hl : lcLoop (lcTurn tg ec ee own) items [] (wipeE ρ1 own) with
  | stuck => rw [hl] at g2; exact g2.elim
  | ex c ρx => exact absurd hl (lcLoop_noex _ _ _)
  | ok z =>
    obtain ⟨ys, ρn⟩ := z
    rw [hl] at g2
    have g3 : ∀ v H', At K A B σ (backE own 0 ρ1 ρn) (T ++ [(.fresh ys, v)]) H' → Q v H' := g2
    exact lc_inner (Nd := fun H => Q (.ref Da) H) hown ((S.enter own).newLst hDa .nil) (Sub.refl _) it hl fun H2 ⟨F2, O2, S2⟩ => g3 _ _ (S.leave S2 fun i z => nomatch z)
/-! ### two clauses -/
theorem Sep.refine (S : Sep K A B σ ρ T H F O) : Sep K A { B with F := F } σ ρ T H F O where
  fh := S.fh
  f0 := fun _ _ h => h
  fn := fun _ h => .inl h
  h0 := S.h0
  h1 := S.h1
  ho := S.ho
  len := S.len
  slots := S.slots
  temps := S.temps
  lent := S.lent
  nt := S.nt
  ns := S.ns
  nn := S.nn
  tb := S.tb
theorem Sep.unrefine {F' : Hp} {O' : Addr → Option Owner} {T' : Tmps} (S : Sep K A B σ ρ T H F O) (S' : Sep K A { B with F := F } σ2 ρ' T' H' F' O') : Sep K A B σ2 ρ' T' H' F' O' where
  fh := S'.fh
  f0 := Sub.trans S.f0 S'.f0
  fn := fun b h => (S'.fn b h).elim (S.fn b) .inr
  h0 := S'.h0
  h1 := S'.h1
  ho := S'.ho
  len := S'.len
  slots := S'.slots
  temps := S'.temps
  lent := S'.lent
  nt := S'.nt
  ns := S'.ns
  nn := S'.nn
  tb := S'.tb
abbrev lc2Turn (t1 : Tg) (ec1 : Env → Res (Bool × Env)) (ei2 : Env → Res (List D × Env)) (t2 : Tg) (ec2 : Env → Res (Bool × Env)) (ee : Env → Res (R × Env)) (own own2 : List Nat) : D → List D → Env → Res (List D × Env) := fun x acc ρ => do
  let ρ ← Res.of (t1.set ρ x)
  let (b, ρ) ← ec1 ρ
  if b then do
    let (zs, ρ) ← ei2 ρ
    let (acc, ρ) ← lcLoop (lcTurn t2 ec2 ee own2) zs acc (wipeE ρ own2)
    .ok (acc, wipeE ρ own)
  else .ok (acc, wipeE ρ own)
abbrev lc2Ev (ei : Env → Res (List D × Env)) (t1 : Tg) (ec1 : Env → Res (Bool × Env)) (ei2 : Env → Res (List D × Env)) (t2 : Tg) (ec2 : Env → Res (Bool × Env)) (ee : Env → Res (R × Env)) (own own2 : List Nat) : Env → Res (R × Env) := fun ρ => do
  let (xs, ρ) ← ei ρ
  let (ys, ρn) ← lc2Loop (lc2Turn t1 ec1 ei2 t2 ec2 ee own own2) xs [] (wipeE ρ own)
  .ok (.fresh ys, backE own 0 ρ ρn)
theorem lc2Loop_noex {f : D → List D → Env → Res (List D × Env)} {c : Str} {ρx : Env} : ∀ (xs acc : List D) (ρ : Env), lc2Loop f xs acc ρ ≠ .ex c ρx
  | [], acc, ρ, h => by cases h
  | x :: xs, acc, ρ, h => by
    simp only [lc2Loop] at h
    split at h
    · exact lc2Loop_noex xs _ _ h
    · cases h
theorem lc2_sound {ei ei2 : Env → Res (List D × Env)} {t1 t2 : Tg} {ec1 ec2 : Env → Res (Bool × Env)} {ee : Env → Res (R × Env)} {own own2 : List Nat} {Q : VK} (hown : ∀ j ∈ t1.slots, j ∈ own) (hown2 : ∀ j ∈ t2.slots, j ∈ own2) (h21 : ∀ j ∈ own2, j ∈ own)
    (h : RdE K A Wx (lc2Ev ei t1 ec1 ei2 t2 ec2 ee own own2) σ H Q) :
    tLc2 (RdI K A Wx ei) (RdG K t1) (RdT K A (fun _ _ _ _ => False) ec1) (RdI K A (fun _ _ _ _ => False) ei2) (RdG K t2) (RdT K A (fun _ _ _ _ => False) ec2) (RdE K A (fun _ _ _ _ => False) ee) own own2 σ H Q := by
  obtain ⟨B, ρ, T, at_, g⟩ := h
  refine ⟨B, ρ, T, at_, (gd_bind.mp g).mono (fun ⟨items, ρ1⟩ g1 J H1 F O S it => ?_) fun _ _ h => h⟩
  intro Da hDa
  have g2 := gd_bind.mp g1
  cases hl : lc2Loop (lc2Turn t1 ec1 ei2 t2 ec2 ee own own2) items [] (wipeE ρ1 own) with
  | stuck => rw [hl] at g2; exact g2.elim
  | ex c ρx => exact absurd hl (lc2Loop_noex _ _ _)
  | ok z =>
    obtain ⟨ys, ρn⟩ := z
    rw [hl] at g2
    have g3 : ∀ v H', At K A B σ (backE own 0 ρ1 ρn) (T ++ [(.fresh ys, v)]) H' → Q v H' := g2
    refine lc_it2 (tn := fun Nx x H' => RdG K t1 x (wipe σ own) H' fun σ2 H2 => wipe σ2 own = wipe σ own ∧ RdT K A (fun _ _ _ _ => False) ec1 σ2 H2 fun b H3 =>
        if b = true then RdI K A (fun _ _ _ _ => False) ei2 σ2 H3 fun J1 H4 => ∃ W1 : Nat → Nat → Hp → Prop, (∃ m, W1 0 m H4) ∧ ∀ j k H, W1 j k H →
          (J1.stop j H ∧ Nx H) ∨ (J1.go j H ∧ ∃ Nx1 : Hp → Prop, (∀ H', Nx1 H' → ∃ k', k' < k ∧ W1 (j + 1) k' H') ∧ ∀ x H', J1.yld j H x H' → tTurn K A t2 ec2 ee own2 σ2 Da Nx1 x H')
        else Nx H3) it.walk (fun i H => ∃ acc ρi, At K A (blkB H1 F O (wipe σ own)) (wipe σ own) ρi [(.fresh acc, .ref Da)] H ∧ lc2Loop (lc2Turn t1 ec1 ei2 t2 ec2 ee own own2) (items.drop i) acc ρi = .ok (ys, ρn)) ⟨[], wipeE ρ1 own, (S.enter own).newLst hDa .nil, by simpa using hl⟩ ?_ ?_ ?_
    · rintro i H2 _ ⟨acc, ρi, ⟨F2, O2, S2⟩, _⟩
      exact Sub.trans S2.f0 S2.fh
    · rintro i x H2 H3 hi ⟨acc, ρi, ⟨F2, O2, S2⟩, hrun⟩ ⟨d, hd, hy⟩
      obtain ⟨d', hd', hdrop⟩ := drop_get hi
      rw [hd] at hd'
      cases hd'
      rw [hdrop] at hrun
      simp only [lc2Loop] at hrun
      obtain ⟨F3, S3, dx⟩ : ∃ F3, Sep K A (blkB H1 F O (wipe σ own)) (wipe σ own) ρi [(.fresh acc, .ref Da)] H3 F3 O2 ∧ Dq K F3 x d := by
        rcases hy with ⟨rfl, dx⟩ | ⟨Tt, vs, ds, rfl, hT, rfl, rfl, dd⟩
        · exact ⟨F2, S2, dp_sub S2.f0 _ _ dx⟩
        · have f := (S2.fresh hT).1
          exact ⟨upd F2 Tt (.tup vs), S2.laid (o := .tup vs) hT nonT_tup, .tup (.inl (.inl upd_same)) (dpa_sub (Sub.trans S2.f0 (Sub.upd f)) _ _ dd)⟩
      cases ht : t1.set ρi d with
      | none => exfalso; simp only [lc2Turn, ht, bind, Res.bind, Res.of] at hrun; cases hrun
      | some ρa =>
        have hT1 : NoSlot [((.fresh acc : R), V.ref Da)] := noSlot_one fun i z => nomatch z
        refine tg_sound S3 hT1 dx ht fun σ' ag S4 => ?_
        have len' : σ'.length = σ.length := by rw [ag.1, wipe_length]
        have ag' : ∀ j, j ∉ own → σ'[j]? = σ[j]? := fun j hj => by rw [ag.2 j fun z => hj (hown j z), wipe_ne hj]
        have agw : ∀ j, j ∉ own → σ'[j]? = (wipe σ own)[j]? := fun j hj => ag.2 j fun z => hj (hown j z)
        refine ⟨wipe_agree len' ag', ?_⟩
        cases hec : ec1 ρa with
        | stuck => exfalso; simp only [lc2Turn, ht, hec, bind, Res.bind, Res.of] at hrun; cases hrun
        | ex c ρx => exfalso; simp only [lc2Turn, ht, hec, bind, Res.bind, Res.of] at hrun; cases hrun
        | ok z =>
          obtain ⟨b, ρb⟩ := z
          refine ⟨_, ρa, _, S4.sc, ?_⟩
          rw [hec]
          show ∀ H', At K A (blkB H1 F O (wipe σ own)) σ' ρb [(.fresh acc, .ref Da)] H' → _
          intro H4 at4
          cases b with
          | false =>
            refine iteF ?_
            obtain ⟨F4, O4, S5⟩ := at4
            simp only [lc2Turn, ht, hec, bind, Res.bind, Res.of] at hrun
            exact ⟨acc, wipeE ρb own, ⟨F4, O4, S5.wiped hT1 ag.1.symm agw⟩, hrun⟩
          | true =>
            refine iteT ?_
            cases hei : ei2 ρb with
            | stuck => exfalso; simp only [lc2Turn, ht, hec, hei, bind, Res.bind, Res.of, if_true] at hrun; cases hrun
            | ex c ρx => exfalso; simp only [lc2Turn, ht, hec, hei, bind, Res.bind, Res.of, if_true] at hrun; cases hrun
            | ok z2 =>
              obtain ⟨zs, ρc⟩ := z2
              refine ⟨_, ρb, _, at4, ?_⟩
              rw [hei]
              show ∀ J H' F' O', Sep K A (blkB H1 F O (wipe σ own)) σ' ρc [(.fresh acc, .ref Da)] H' F' O' → IterD K J F' zs → _
              intro J1 H5 F5 O5 S5 it5
              cases hil : lcLoop (lcTurn t2 ec2 ee own2) zs acc (wipeE ρc own2) with
              | stuck => exfalso; simp only [lc2Turn, ht, hec, hei, hil, bind, Res.bind, Res.of, if_true] at hrun; cases hrun
              | ex c ρx => exact absurd hil (lcLoop_noex _ _ _)
              | ok z3 =>
                obtain ⟨acc2, ρd⟩ := z3
                simp only [lc2Turn, ht, hec, hei, hil, bind, Res.bind, Res.of, if_true] at hrun
                have S6 := S5.wiped (σ1 := wipe σ' own2) (own := own2) hT1 (by rw [wipe_length]) fun j hj => by rw [wipe_ne hj]
                refine lc_inner (B1 := { blkB H1 F O (wipe σ own) with F := F5 }) hown2 ⟨_, _, S6.refine⟩ (Sub.refl _) it5 hil fun H6 ⟨F6, O6, S7⟩ => ?_
                have S8 := S6.unrefine S7
                exact ⟨acc2, wipeE ρd own, ⟨F6, O6, S8.wiped (noSlot_one fun i z => nomatch z) (by rw [wipe_length, wipe_length, len']) fun j hj => by rw [wipe_ne fun z => hj (h21 j z), agw j hj]⟩, hrun⟩
    · rintro H2 ⟨acc, ρi, ⟨F2, O2, S2⟩, hrun⟩
      rw [List.drop_length] at hrun
      cases hrun
      exact g3 _ _ (S.leave S2 fun i z => nomatch z)
end
end Mn
set_option Elab.async false
set_option linter.all false
set_option maxRecDepth 100000
set_option maxHeartbeats 1000000
namespace Mn
open PySem PySem.Spec PyProof.Rows L2
section
variable {X : Cx} {K : PySem.W.Frag} {A : Ad} {Wx : WX} {B : Bs} {σ σ1 σ2 : L2.St} {ρ ρ' : Env} {T : Tmps} {H H' F : Hp} {O : Addr → Option Owner}
/-! ### a def's promise -/
def outs : List W → Option (List D) → Env
  | .own true _ :: rest, some ys => some (.own true ys) :: rest.map fun _ => none
  | ws, _ => ws.map fun _ => none
/-- where a call begins -/
abbrev callB (H F : Hp) (O : Addr → Option Owner) (vs : List V) : Bs := subB H F (fun b => O b ≠ none) (vs.map some) (fun b => mask H b = none)
def spC (K : PySem.W.Frag) (A : Ad) (n : Nat) (call : List W → CRes) : Sp := fun vs H Q Ex => vs.length = n ∧ ∃ F O ws, Sep K A (callB H F O vs) (vs.map some) (ws.map some) [] H F O ∧
  match call ws with
  | .ret r o => (∀ i, r ≠ .slot i) ∧ ∀ v H', At K A (callB H F O vs) (vs.map some) (outs ws o) [(r, v)] H' → Q v H'
  | .ex c => ∀ H', At K A (callB H F O vs) (vs.map some) (ws.map fun _ => none) [] H' → Ex (.ref (A c)) none H'
  | .stuck => False
theorem keep_own {r : R} {x : D} {i : Nat} {l : Bool} {ys : List D} (e : r.keep ρ = some (x, ρ')) (h : ρ'[i]? = some (some (W.own l ys))) : ρ[i]? = some (some (W.own l ys)) := by
  cases r with
  | d y => cases e; exact h
  | fn f => cases e
  | fresh xs => cases e; exact h
  | slot j =>
    simp only [R.keep] at e
    split at e
    · cases e
      rcases getElem?_set_cases h with ⟨_, e2, _⟩ | ⟨_, e2⟩
      · cases e2
      · exact e2
    · cases e; exact h
    · cases e
theorem keepAll_own {i : Nat} {l : Bool} {ys : List D} : ∀ {rs : List R} {ρ ρ' : Env} {xs : List D}, keepAll rs ρ = some (xs, ρ') → ρ'[i]? = some (some (W.own l ys)) → ρ[i]? = some (some (W.own l ys))
  | [], ρ, ρ', xs, e, h => by cases e; exact h
  | r :: rs, ρ, ρ', xs, e, h => by
    unfold keepAll at e
    cases q : r.keep ρ with
    | none => rw [q] at e; cases e
    | some z =>
      obtain ⟨x, ρ1⟩ := z
      rw [q] at e
      cases q2 : keepAll rs ρ1 with
      | none => simp only [q2] at e; cases e
      | some z2 =>
        obtain ⟨xs2, ρ2⟩ := z2
        simp only [q2] at e
        cases e
        exact keep_own q (keepAll_own q2 h)
theorem get_map_some {vs : List V} {i : Nat} {v : V} (h : vs[i]? = some v) : (vs.map some)[i]? = some (some v) := by rw [List.getElem?_map, h]; rfl
/-- arguments that are passed: data, defs -/
inductive ArgsOk (K : PySem.W.Frag) (A : Ad) (F : Hp) : List V → List W → Prop
  | nil : ArgsOk K A F [] []
  | d {v : V} {x : D} {vs : List V} {ws : List W} : Dq K F v x → ArgsOk K A F vs ws → ArgsOk K A F (v :: vs) (.d x :: ws)
  | fn {f : Str} {vs : List V} {ws : List W} : ArgsOk K A F vs ws → ArgsOk K A F (.ref (A f) :: vs) (.fn f :: ws)
theorem args_of : ∀ {vs : List V} {ds : List D}, DqAll K F vs ds → ArgsOk K A F vs (ds.map .d)
  | _, _, .nil => .nil
  | _, _, .cons h t => .d h (args_of t)
theorem args_len : ∀ {vs : List V} {ws : List W}, ArgsOk K A F vs ws → vs.length = ws.length
  | _, _, .nil => rfl
  | _, _, .d _ t => by simp [args_len t]
  | _, _, .fn t => by simp [args_len t]
theorem args_get : ∀ {vs : List V} {ws : List W} {i : Nat} {w : W}, ArgsOk K A F vs ws → ws[i]? = some w → ∃ v, vs[i]? = some v ∧ (∀ H O j, SlotOk K A F H O j v w) ∧ ∀ l xs, w ≠ .own l xs
  | _, _, i, w, .nil, h => by simp at h
  | _, _, 0, w, .d h1 _, h => by simp at h; subst h; exact ⟨_, rfl, fun _ _ _ => h1, fun _ _ z => nomatch z⟩
  | _, _, 0, w, .fn _, h => by simp at h; subst h; exact ⟨_, rfl, fun _ _ _ => rfl, fun _ _ z => nomatch z⟩
  | _, _, i + 1, w, .d _ t, h => by
    obtain ⟨v, a, b⟩ := args_get (i := i) (w := w) t (by simpa using h)
    exact ⟨v, by simpa using a, b⟩
  | _, _, i + 1, w, .fn t, h => by
    obtain ⟨v, a, b⟩ := args_get (i := i) (w := w) t (by simpa using h)
    exact ⟨v, by simpa using a, b⟩
def W.r : W → R
  | .d x => .d x
  | .fn f => .fn f
  | .own _ _ => .d .none
theorem Sep.passAll : ∀ {rs : List R} {vs : List V} {T : Tmps} {ρ ρ' : Env} {ws : List W} {F : Hp} {O : Addr → Option Owner}, Sep K A B σ ρ (T ++ rs.zip vs) H F O → vs.length = rs.length → Mn.passAll rs ρ = some (ws, ρ') →
    ∃ F' O', Sep K A B σ ρ' (T ++ (ws.map W.r).zip vs) H F' O' ∧ Sub F F' ∧ ArgsOk K A F' vs ws
  | [], vs, T, ρ, ρ', ws, F, O, S, hl, e => by
    cases e
    cases vs with
    | nil => exact ⟨F, O, by simpa using S, Sub.refl _, .nil⟩
    | cons _ _ => cases hl
  | r :: rs, [], T, ρ, ρ', ws, F, O, S, hl, e => by cases hl
  | r :: rs, v :: vs, T, ρ, ρ', ws, F, O, S, hl, e => by
    have S' : Sep K A B σ ρ (T ++ (r, v) :: rs.zip vs) H F O := S
    have gen : (match r.keep ρ with
      | none => none
      | some (x, ρ1) => match Mn.passAll rs ρ1 with
        | none => none
        | some (ws, ρ2) => some (W.d x :: ws, ρ2)) = some (ws, ρ') → ∃ F' O', Sep K A B σ ρ' (T ++ (ws.map W.r).zip (v :: vs)) H F' O' ∧ Sub F F' ∧ ArgsOk K A F' (v :: vs) ws := fun e => by
      cases q : r.keep ρ with
      | none => rw [q] at e; cases e
      | some z =>
        obtain ⟨x, ρ1⟩ := z
        rw [q] at e
        cases q2 : Mn.passAll rs ρ1 with
        | none => simp only [q2] at e; cases e
        | some z2 =>
          obtain ⟨ws2, ρ2⟩ := z2
          simp only [q2] at e
          cases e
          obtain ⟨F1, O1, S1, u1, k1⟩ := S'.keep (k := T.length) (r := r) (v := v) (by simp) q
          rw [set_at_len] at S1
          have S1' : Sep K A B σ ρ1 ((T ++ [(R.d x, v)]) ++ rs.zip vs) H F1 O1 := by simpa using S1
          obtain ⟨F2, O2, S2, u2, dd⟩ := Sep.passAll (T := T ++ [(R.d x, v)]) S1' (by simpa using hl) q2
          exact ⟨F2, O2, by simpa [W.r] using S2, u1.trans u2, .d (S2.temps T.length (.d x) v (by simp)) dd⟩
    cases r with
    | d x => exact gen e
    | fresh x => exact gen e
    | slot x => exact gen e
    | fn f =>
      have e' : (match Mn.passAll rs ρ with
        | none => none
        | some (ws, ρ2) => some (W.fn f :: ws, ρ2)) = some (ws, ρ') := e
      cases q2 : Mn.passAll rs ρ with
      | none => rw [q2] at e'; cases e'
      | some z2 =>
        obtain ⟨ws2, ρ2⟩ := z2
        rw [q2] at e'
        cases e'
        have S1' : Sep K A B σ ρ ((T ++ [(R.fn f, v)]) ++ rs.zip vs) H F O := by simpa using S'
        obtain ⟨F2, O2, S2, u2, dd⟩ := Sep.passAll (T := T ++ [(R.fn f, v)]) S1' (by simpa using hl) q2
        have hv : v = .ref (A f) := S2.temps T.length (.fn f) v (by simp)
        refine ⟨F2, O2, by simpa [W.r] using S2, u2, ?_⟩
        rw [hv]
        exact .fn dd
theorem pass_of_keep : ∀ {rs : List R} {ρ ρ' : Env} {ds : List D}, keepAll rs ρ = some (ds, ρ') → passAll rs ρ = some (ds.map .d, ρ')
  | [], ρ, ρ', ds, e => by cases e; rfl
  | r :: rs, ρ, ρ', ds, e => by
    unfold keepAll at e
    cases q : r.keep ρ with
    | none => rw [q] at e; cases e
    | some z =>
      obtain ⟨x, ρ1⟩ := z
      rw [q] at e
      cases q2 : keepAll rs ρ1 with
      | none => simp only [q2] at e; cases e
      | some z2 =>
        obtain ⟨xs2, ρ2⟩ := z2
        simp only [q2] at e
        cases e
        have ih := pass_of_keep q2
        have gen : (match r.keep ρ with
          | none => none
          | some (x, ρ1) => match Mn.passAll rs ρ1 with
            | none => none
            | some (ws, ρ2) => some (W.d x :: ws, ρ2)) = some ((x :: xs2).map .d, ρ') := by
          rw [q]
          simp only [ih]
          rfl
        cases r with
        | d x => exact gen
        | fresh x => exact gen
        | slot x => exact gen
        | fn f => cases q
/-- a call whose arguments are data, defs -/
theorem call_plain {n : Nat} {call : List W → CRes} {vs : List V} {ws : List W} {Q : VK} (S : Sep K A B σ ρ T H F O) (hd : ArgsOk K A F vs ws) (hn : vs.length = n)
    (hr : ∀ r o, call ws = .ret r o → (∀ i, r ≠ .slot i) ∧ ∀ v H', At K A B σ ρ (T ++ [(r, v)]) H' → Q v H') (hx : ∀ c, call ws = .ex c → ExP K A Wx B σ c ρ) (hs : call ws ≠ .stuck) : spC K A n call vs H Q (WE Wx σ) := by
  have P0 : ∀ b, ¬ (callB H F (fun _ => none) vs).P b := fun b z => z rfl
  have S0 : Sep K A (callB H F (fun _ => none) vs) (vs.map some) (ws.map some) [] H F (fun _ => none) := by
    refine ⟨S.fh, fun _ _ h => h, fun _ h => .inl h, fun _ _ h _ => (mask_some h).1, fun _ h => h, fun b h => absurd rfl h, by simp [args_len hd], fun i w h => ?_, fun k r v h => by simp at h, fun i xs h => rfl, fun k xs p h => by simp at h, fun i xs p h _ => ?_, fun _ h => h, S.tb⟩
    · rw [List.getElem?_map] at h
      cases q : ws[i]? with
      | none => rw [q] at h; cases h
      | some x =>
        rw [q] at h
        cases h
        obtain ⟨v, h1, h2, _⟩ := args_get hd q
        exact ⟨v, get_map_some h1, h2 _ _ _⟩
    · rw [List.getElem?_map] at h
      cases q : ws[i]? with
      | none => rw [q] at h; cases h
      | some x =>
        rw [q] at h
        cases h
        obtain ⟨v, h1, h2, h3⟩ := args_get hd q
        exact absurd rfl (h3 _ _)
  have back : ∀ {r : R} {v : V} {H' : Hp} {ρ0 : Env}, (∀ i, r ≠ .slot i) → At K A (callB H F (fun _ => none) vs) (vs.map some) ρ0 [(r, v)] H' → At K A B σ ρ (T ++ [(r, v)]) H' := fun {r v H' ρ0} hns ⟨F', O', S'⟩ =>
    S.resume (m := fun i => i) S' (fun b h => absurd h (P0 b)) hns rfl fun j x h => .inl ⟨h, .inr fun p _ => P0 p⟩
  refine ⟨hn, F, fun _ => none, ws, S0, ?_⟩
  cases hc : call ws with
  | stuck => exact absurd hc hs
  | ret r o =>
    obtain ⟨hns, hq⟩ := hr r o hc
    exact ⟨hns, fun v H' at' => hq v H' (back hns at')⟩
  | ex c =>
    intro H' ⟨F', O', S'⟩
    refine hx c hc H' ?_
    have := back (r := .d .none) (v := .non) (fun i z => nomatch z) (S'.pushD .non)
    exact At.drop (T := []) (T' := T ++ [(.d .none, .non)]) this
theorem callF_sound {Γ : Ctx} {f : Str} {n : Nat} {rs : List R} {vs : List V} {Q : VK} (S : Sep K A B σ ρ (T ++ rs.zip vs) H F O) (hl : vs.length = rs.length) (hn : vs.length = n)
    (g : Gd (callF Γ f rs ρ) (fun p => ∀ v H', At K A B σ p.2 (T ++ [(p.1, v)]) H' → Q v H') (ExP K A Wx B σ)) : spC K A n (Γ.call Γ.g f) vs H Q (WE Wx σ) := by
  unfold callF at g
  split at g
  · -- the first argument is lent
    match rs, vs, hl, S, g with
    | .slot i :: rest, v :: vs, hl, S, g =>
      simp only at g
      cases q : ρ[i]? with
      | none => simp only [q] at g; exact (show False from g).elim
      | some w =>
        cases w with
        | none => simp only [q] at g; exact (show False from g).elim
        | some w =>
          cases w with
          | d x => simp only [q] at g; exact (show False from g).elim
          | fn x => simp only [q] at g; exact (show False from g).elim
          | own l xs =>
            cases qk : keepAll rest ρ with
            | none => simp only [q, qk] at g; exact (show False from g).elim
            | some z =>
              obtain ⟨ds, ρ1⟩ := z
              simp only [q, qk] at g
              have S' : Sep K A B σ ρ ((T ++ [(.slot i, v)]) ++ rest.zip vs) H F O := by simpa using S
              obtain ⟨F1, O1, S1, _, dd, _⟩ := S'.keepAll (by simpa using hl) qk
              cases q1 : ρ1[i]? with
              | none => simp only [q1] at g; exact (show False from g).elim
              | some w1 =>
                cases w1 with
                | none => simp only [q1] at g; exact (show False from g).elim
                | some w1 =>
                  cases w1 with
                  | d x => simp only [q1] at g; exact (show False from g).elim
                  | fn x => simp only [q1] at g; exact (show False from g).elim
                  | own l1 xs1 =>
                    simp only [q1] at g
                    have e1 := keepAll_own qk q1
                    rw [q] at e1
                    cases e1
                    have S2 : Sep K A B σ ρ1 (T ++ [(.slot i, v)]) H F1 O1 := S1.drop
                    have hv : σ[i]? = some (some v) := S2.top
                    have S3 := S2.drop
                    obtain ⟨u, hu, p, us, e2, e3, e4, e5⟩ := S3.slots i _ q1
                    rw [hv] at hu
                    cases hu
                    subst e2
                    obtain ⟨fp, bp, _⟩ := S3.ho p (by rw [e3]; exact Option.some_ne_none _)
                    -- the callee's view
                    have oc : ∀ b, (fun b => if b = p then some (Owner.slot 0) else none : Addr → Option Owner) b ≠ none → b = p := fun b h => by
                      by_cases hb : b = p
                      · exact hb
                      · exact absurd (if_neg hb) h
                    generalize hOc : (fun b => if b = p then some (Owner.slot 0) else none : Addr → Option Owner) = Oc at oc
                    have ocp : Oc p = some (.slot 0) := by rw [← hOc]; exact if_pos rfl
                    have S0 : Sep K A (callB H F1 Oc (V.ref p :: vs)) ((V.ref p :: vs).map some) ((W.own true xs :: ds.map W.d).map some) [] H F1 Oc := by
                      refine ⟨S3.fh, fun _ _ h => h, fun _ h => .inl h, fun _ _ h _ => (mask_some h).1, fun _ h => h, fun b h => ?_, by simp [dpa_len dd], fun j w h => ?_, fun k r v h => by simp at h, fun j ys h => rfl, fun k ys q h => by simp at h, fun j ys q h _ => ?_, fun _ h => h, S3.tb⟩
                      · have := oc b h
                        subst this
                        exact ⟨fp, .inr h, by rw [mask_of e4 nonT_lst]; exact Option.some_ne_none _⟩
                      · cases j with
                        | zero => cases h; exact ⟨_, rfl, p, us, rfl, ocp, e4, e5⟩
                        | succ j =>
                          rw [List.map_cons, List.getElem?_cons_succ, List.map_map, List.getElem?_map] at h
                          cases q2 : ds[j]? with
                          | none => rw [q2] at h; cases h
                          | some x =>
                            rw [q2] at h
                            cases h
                            obtain ⟨v, h1, h2⟩ := dpa_get dd q2
                            exact ⟨v, by rw [List.map_cons, List.getElem?_cons_succ]; exact get_map_some h1, h2⟩
                      · cases j with
                        | zero => cases h
                        | succ j =>
                          rw [List.map_cons, List.getElem?_cons_succ, List.map_map, List.getElem?_map] at h
                          cases q2 : ds[j]? with
                          | none => rw [q2] at h; cases h
                          | some x => rw [q2] at h; cases h
                    refine ⟨hn, F1, Oc, W.own true xs :: ds.map W.d, S0, ?_⟩
                    have fin : ∀ {r : R} {ys : List D}, (∀ i, r ≠ .slot i) → (∀ v H', At K A B σ (ρ1.set i (some (.own l ys))) (T ++ [(r, v)]) H' → Q v H') →
                        ∀ v H', At K A (callB H F1 Oc (V.ref p :: vs)) ((V.ref p :: vs).map some) (outs (W.own true xs :: ds.map W.d) (some ys)) [(r, v)] H' → Q v H' := fun {r ys} hns hq v H' ⟨F', O', S4⟩ => by
                      refine hq v H' (S3.resume (m := fun _ => i) S4 (fun b h => ?_) hns (by simp) fun j x h => ?_)
                      · have := oc b h
                        subst this
                        exact ⟨i, e3⟩
                      · rcases getElem?_set_cases h with ⟨h1, h2, _⟩ | ⟨h1, h2⟩
                        · subst h1
                          cases h2
                          exact .inr (.inr ⟨0, l, true, xs, ys, rfl, rfl, q1, rfl, .ref p, rfl, hv, fun p' e => by cases e; show Oc p ≠ none; rw [ocp]; exact Option.some_ne_none _⟩)
                        · refine .inl ⟨h2, .inr fun b hb z => ?_⟩
                          have := oc b z
                          subst this
                          rw [e3] at hb
                          cases hb
                          exact h1 rfl
                    cases hc : Γ.call Γ.g f (W.own true xs :: ds.map W.d) with
                    | stuck => simp only [hc] at g; exact (show False from g).elim
                    | ex c => simp only [hc] at g; exact (show False from g).elim
                    | ret r o =>
                      cases o with
                      | none => cases r <;> (simp only [hc] at g; exact (show False from g).elim)
                      | some ys =>
                        cases r with
                        | slot k => simp only [hc] at g; exact (show False from g).elim
                        | d x => simp only [hc] at g; exact ⟨(fun i z => nomatch z), fin (fun i z => nomatch z) g⟩
                        | fresh x => simp only [hc] at g; exact ⟨(fun i z => nomatch z), fin (fun i z => nomatch z) g⟩
                        | fn x => simp only [hc] at g; exact ⟨(fun i z => nomatch z), fin (fun i z => nomatch z) g⟩
    | .d _ :: _, _, _, _, g => exact (show False from g).elim
    | .fresh _ :: _, _, _, _, g => exact (show False from g).elim
    | .fn _ :: _, _, _, _, g => exact (show False from g).elim
    | [], _, _, _, g => exact (show False from g).elim
  · cases qk : Mn.passAll rs ρ with
    | none => simp only [qk] at g; exact (show False from g).elim
    | some z =>
      obtain ⟨ds, ρ1⟩ := z
      simp only [qk] at g
      obtain ⟨F1, O1, S1, _, dd⟩ := S.passAll hl qk
      refine call_plain (ρ := ρ1) S1.drop dd hn (fun r o hc => ?_) (fun c hc => ?_) fun hc => ?_
      · cases r with
        | slot k => simp only [hc] at g; exact (show False from g).elim
        | d x => simp only [hc] at g; exact ⟨(fun i z => nomatch z), g⟩
        | fresh x => simp only [hc] at g; exact ⟨(fun i z => nomatch z), g⟩
        | fn x => simp only [hc] at g; exact ⟨(fun i z => nomatch z), g⟩
      · simp only [hc] at g; exact g
      · simp only [hc] at g; exact (show False from g).elim
/-- f(..) -/
theorem rd_call {Γ : Ctx} {k n : Nat} {f : Str} {fa : Addr} {fd : FuncData} {ps : List Str} {q pos : Pos} {es : List Expr} {evs : Env → Res (List R × Env)} (Fn : FnG Γ.g X.prog X.w X.K X.mg X.base k fa fd ps (spC X.K A n (Γ.call Γ.g f))) (hg : Γ.g = true → X.A.guards = some []) (hr : Room k X.A)
    (hb : Binds X.K fd ps []) (tk : Takes X Wx) (gl : Gl X f) (hm : X.mg f = some (.ref fa)) (hk : PySem.W.keepIn X.K (.ref fa) = true) (ha : PA X es (RdA X.K A Wx evs)) (hs : es.all noStar = true) (hne : es ≠ []) (hdb : (f == ("__debug__" : Str)) = false)
    (hn : es.length = n) (hev : ∀ ρ rs ρ', evs ρ = .ok (rs, ρ') → rs.length = es.length) :
    PE X (.Call (.Name f q) es [] pos) (RdE X.K A Wx fun ρ => do let (rs, ρ) ← evs ρ; callF Γ f rs ρ) := by
  match es, hne, ha, hs, hn, hev with
  | e :: es, _, ha, hs, hn, hev =>
    refine PE_imp (pe_g Fn hg hr hb tk gl hm hk ha hs hdb) fun σ H Q ⟨B, ρ, T, at_, g⟩ => ?_
    have g1 := gd_bind.mp g
    cases he : evs ρ with
    | stuck => rw [he] at g1; exact g1.elim
    | ex c ρx => rw [he] at g1; exact ⟨B, ρ, T, at_, by rw [he]; exact g1⟩
    | ok z =>
      obtain ⟨rs, ρ1⟩ := z
      have hl := hev ρ rs ρ1 he
      rw [he] at g1
      refine ⟨B, ρ, T, at_, ?_⟩
      rw [he]
      show ∀ vs H', vs.length = rs.length → At X.K A B σ ρ1 (T ++ rs.zip vs) H' → _
      rintro vs H1 hvl ⟨F, O, S⟩
      exact callF_sound S hvl (by rw [hvl, hl, hn]) g1
theorem rd_call0 {Γ : Ctx} {k : Nat} {f : Str} {fa : Addr} {fd : FuncData} {ps : List Str} {q pos : Pos} (Fn : FnG Γ.g X.prog X.w X.K X.mg X.base k fa fd ps (spC X.K A 0 (Γ.call Γ.g f))) (hg : Γ.g = true → X.A.guards = some []) (hr : Room k X.A)
    (hb : Binds X.K fd ps []) (tk : Takes X Wx) (gl : Gl X f) (hm : X.mg f = some (.ref fa)) (hk : PySem.W.keepIn X.K (.ref fa) = true) (hdb : (f == ("__debug__" : Str)) = false) :
    PE X (.Call (.Name f q) [] [] pos) (RdE X.K A Wx fun ρ => do let (rs, ρ) ← (.ok (([] : List R), ρ) : Res (List R × Env)); callF Γ f rs ρ) := by
  refine PE_imp (pe_g0 Fn hg hr hb tk gl hm hk hdb) fun σ H Q ⟨B, ρ, T, ⟨F, O, S⟩, g⟩ => ?_
  exact callF_sound (rs := []) (vs := []) (T := T) (by simpa using S) rfl rfl (gd_bind.mp g)

/-! ### a call of a slot that holds a def -/
def tCallV (i : Nat) (S : Addr → Sp → Prop) (Wx : WX) (t : TA) : TE := fun σ H Q => ∃ fa sp, σ[i]? = some (some (.ref fa)) ∧ S fa sp ∧ t σ H fun vs H1 => sp vs H1 Q (WE Wx σ)
theorem pe_callVG {g : Bool} {S : Addr → Sp → Prop} {i : Nat} {x : Str} {q pos : Pos} {e : Expr} {es : List Expr} {t : TA} (hS : ∀ fa sp, S fa sp → ∃ k fd ps, FnG g X.prog X.w X.K X.mg X.base k fa fd ps sp ∧ Room k X.A ∧ Binds X.K fd ps [] ∧ PySem.W.keepIn X.K (.ref fa) = true)
    (hg : g = true → X.A.guards = some []) (tk : Takes X Wx) (hN : X.N[i]? = some x) (hv : Vis X.env.scope x) (ha : PA X (e :: es) t) (hs : (e :: es).all noStar = true) (hdb : (x == ("__debug__" : Str)) = false) (hcd : (x == ("__classdict__" : Str)) = false) :
    PE X (.Call (.Name x q) (e :: es) [] pos) (tCallV i S Wx t) := by
  rw [List.all_cons, Bool.and_eq_true] at hs
  refine ⟨fun pins s σ H Q I h => ?_⟩
  obtain ⟨fa, sp, hi, hSp, ht⟩ := h
  obtain ⟨k, fd, ps, Fn, hr, hb, hk⟩ := hS fa sp hSp
  refine wpAny_Call_Name_kw (thn ((pe_var (pos := q) hN hv hdb hcd).run pins s σ H (fun v H1 => v = .ref fa ∧ H1 = H) I ⟨.ref fa, hi, rfl, rfl⟩) fun u s1 ⟨v, H1, I1, r1, q1⟩ => ?_)
  obtain ⟨rfl, rfl⟩ := q1
  cases r1
  refine PySem.W.callWith_K (h₀ := X.base) I1.ok.mod.kin hk (thn (ha.run pos pins s1 σ _ _ I1 ht) fun us s2 hh => ?_) (star_head (noStar_ne hs.1)) (star_plain hs.2)
  obtain ⟨vs, H2, I2, r, qq⟩ := hh
  exact ⟨I2.kIn, run_g Fn hg hr hb tk I2 r qq⟩
abbrev callVEv (Γ : Ctx) (i n : Nat) (evs : Env → Res (List R × Env)) : Env → Res (R × Env) := fun ρ => match ρ[i]? with
  | some (some (.fn f)) => if Γ.ar f = some n then do
    let (rs, ρ) ← evs ρ
    callF Γ f rs ρ else .stuck
  | _ => .stuck
theorem rd_callV {Γ : Ctx} {i n : Nat} {x : Str} {q pos : Pos} {es : List Expr} {evs : Env → Res (List R × Env)}
    (hS : ∀ f, Γ.ar f = some n → PySem.W.keepIn X.K (.ref (A f)) = true ∧ ∃ k fd ps, FnG Γ.g X.prog X.w X.K X.mg X.base k (A f) fd ps (spC X.K A n (Γ.call Γ.g f)) ∧ Room k X.A ∧ Binds X.K fd ps [])
    (hg : Γ.g = true → X.A.guards = some []) (tk : Takes X Wx) (hN : X.N[i]? = some x) (hv : Vis X.env.scope x) (ha : PA X es (RdA X.K A Wx evs)) (hs : es.all noStar = true) (hne : es ≠ []) (hdb : (x == ("__debug__" : Str)) = false) (hcd : (x == ("__classdict__" : Str)) = false)
    (hn : es.length = n) (hev : ∀ ρ rs ρ', evs ρ = .ok (rs, ρ') → rs.length = es.length) :
    PE X (.Call (.Name x q) es [] pos) (RdE X.K A Wx (callVEv Γ i n evs)) := by
  match es, hne, ha, hs, hn, hev with
  | e :: es, _, ha, hs, hn, hev =>
    refine PE_imp (pe_callVG (S := fun fa sp => ∃ f, fa = A f ∧ Γ.ar f = some n ∧ sp = spC X.K A n (Γ.call Γ.g f)) (fun fa sp ⟨f, e1, e2, e3⟩ => ?_) hg tk hN hv ha hs hdb hcd) fun σ H Q ⟨B, ρ, T, at_, g⟩ => ?_
    · subst e1 e3
      obtain ⟨kp, k, fd, ps, a, b, c⟩ := hS f e2
      exact ⟨k, fd, ps, a, b, c, kp⟩
    · obtain ⟨F, O, S⟩ := at_
      simp only [callVEv] at g
      cases q : ρ[i]? with
      | none => simp only [q] at g; exact (show False from g).elim
      | some w =>
        cases w with
        | none => simp only [q] at g; exact (show False from g).elim
        | some w =>
          cases w with
          | d x => simp only [q] at g; exact (show False from g).elim
          | own l xs => simp only [q] at g; exact (show False from g).elim
          | fn f =>
            simp only [q] at g
            obtain ⟨har, g⟩ := gd_if_stuck g
            obtain ⟨v, a, c⟩ := S.slots i _ q
            have c' : v = .ref (A f) := c
            subst c'
            refine ⟨A f, _, a, ⟨f, rfl, har, rfl⟩, ?_⟩
            have g1 := gd_bind.mp g
            cases he : evs ρ with
            | stuck => rw [he] at g1; exact g1.elim
            | ex c ρx => rw [he] at g1; exact ⟨B, ρ, T, ⟨F, O, S⟩, by rw [he]; exact g1⟩
            | ok z =>
              obtain ⟨rs, ρ1⟩ := z
              have hl := hev ρ rs ρ1 he
              rw [he] at g1
              refine ⟨B, ρ, T, ⟨F, O, S⟩, ?_⟩
              rw [he]
              show ∀ vs H', vs.length = rs.length → At X.K A B σ ρ1 (T ++ rs.zip vs) H' → _
              rintro vs H1 hvl ⟨F, O, S⟩
              exact callF_sound S hvl (by rw [hvl, hl, hn]) g1
/-- a def's name -/
theorem rd_fn {Γ : Ctx} {f : Str} {e : Expr} (hp : PE X e (tC (.ref (A f)))) : PE X e (RdE K A Wx fun ρ => if Γ.isFn f then .ok (.fn f, ρ) else .stuck) := PE_imp hp fun σ H Q ⟨B, ρ, T, ⟨F, O, S⟩, g⟩ => by
  obtain ⟨_, g⟩ := gd_if_stuck g
  exact g _ H ⟨F, O, S.push (r := .fn f) rfl⟩

/-! ### a def's body -/
theorem Sep.pad (S : Sep K A B σ ρ T H F O) (n : Nat) : Sep K A B (σ ++ List.replicate n none) (ρ ++ List.replicate n none) T H F O := by
  have get : ∀ {i : Nat} {w : W}, (ρ ++ List.replicate n none)[i]? = some (some w) → ρ[i]? = some (some w) ∧ i < σ.length := fun {i w} h => by
    by_cases hi : i < ρ.length
    · rw [List.getElem?_append_left hi] at h
      exact ⟨h, by rw [S.len]; exact hi⟩
    · rw [List.getElem?_append_right (by omega), List.getElem?_replicate] at h
      split at h <;> cases h
  refine ⟨S.fh, S.f0, S.fn, S.h0, S.h1, S.ho, by simp [S.len], fun i w h => ?_, fun k r v h => ?_, fun i xs h => ?_, S.nt, fun i xs p h e => ?_, S.nn, S.tb⟩
  · obtain ⟨h1, h2⟩ := get h
    obtain ⟨v, a, c⟩ := S.slots i w h1
    exact ⟨v, by rw [List.getElem?_append_left h2]; exact a, c⟩
  · have t := S.temps k r v h
    cases r with
    | d x => exact t
    | fresh xs => exact t
    | fn f => exact t
    | slot i =>
      have t' : σ[i]? = some (some v) := t
      show (σ ++ _)[i]? = _
      rw [List.getElem?_append_left (List.getElem?_eq_some_iff.mp t').1]
      exact t'
  · obtain ⟨h1, h2⟩ := get h
    rw [List.getElem?_append_left h2]
    exact S.lent i xs h1
  · obtain ⟨h1, h2⟩ := get h
    rw [List.getElem?_append_left h2] at e
    exact S.ns i xs p h1 e
def finR (ρ : Env) : R → Option R
  | .slot i => match ρ[i]? with
    | some (some (.own false xs)) => some (.fresh xs)
    | some (some (.d x)) => some (.d x)
    | _ => none
  | r => some r
theorem fin_noslot {r r' : R} (e : finR ρ r = some r') : ∀ i, r' ≠ .slot i := by
  intro i z
  subst z
  cases r with
  | d x => cases e
  | fresh x => cases e
  | fn x => cases e
  | slot j =>
    simp only [finR] at e
    split at e <;> cases e
/-- a slot's list becomes a temporary -/
theorem Sep.untie (S : Sep K A B σ ρ [] H F O) {p : Addr} {i : Nat} {xs : List D} {vs : List V} (ho : O p = some (.slot i)) (hH : H p = some (.lst vs)) (hd : DqAll K F vs xs) (hb : B.H p = none) (ρ2 : Env) (hl : ρ2.length = ρ.length)
    (h2 : ∀ (j : Nat) (x : W), ρ2[j]? = some (some x) → ρ[j]? = some (some x) ∧ j ≠ i) : Sep K A B σ ρ2 [(.fresh xs, .ref p)] H F (setO O p (some (.temp 0))) := by
  have up : ∀ q j, j ≠ i → O q = some (.slot j) → setO O p (some (.temp 0)) q = some (.slot j) ∧ ∀ u, H q = some u → H q = some u := fun q j hj e => by
    have hq : q ≠ p := fun z => by rw [z, ho] at e; cases e; exact hj rfl
    exact ⟨by rw [setO_ne hq]; exact e, fun u eu => eu⟩
  refine ⟨S.fh, S.f0, S.fn, S.h0, S.h1, fun q e => ?_, by rw [hl]; exact S.len, fun j x e => ?_, fun k r u e => ?_, fun j ys e => S.lent j ys (h2 j _ e).1, fun k ys q e => ?_, fun j ys q e e' => S.ns j ys q (h2 j _ e).1 e', S.nn, S.tb⟩
  · by_cases hq : q = p
    · subst hq; exact S.ho q (by rw [ho]; exact Option.some_ne_none _)
    · rw [setO_ne hq] at e; exact S.ho q e
  · obtain ⟨h1, h3⟩ := h2 j x e
    obtain ⟨u, a, c⟩ := S.slots j x h1
    exact ⟨u, a, slotOk_step (Sub.refl _) (fun q e => up q j h3 e) c⟩
  · cases k with
    | zero => cases e; exact ⟨p, vs, rfl, setO_same, hH, hd⟩
    | succ k => simp at e
  · cases k with
    | zero => cases e; exact hb
    | succ k => simp at e
/-- the end of a def -/
theorem exit_sound {vs : List V} {ws : List W} {r r' : R} {v : V} {F0 : Hp} {O0 : Addr → Option Owner} {H0 : Hp} {o : Option (List D)} (h : At K A (callB H0 F0 O0 vs) σ ρ [(r, v)] H) (e : finR ρ r = some r') (hl : vs.length = ws.length)
    (ho : match ws with | .own true _ :: _ => ∃ ys, ρ[0]? = some (some (W.own true ys)) ∧ o = some ys | _ => o = none) : At K A (callB H0 F0 O0 vs) (vs.map some) (outs ws o) [(r', v)] H := by
  obtain ⟨F, O, S⟩ := h
  -- first the result, over the body's slots
  have step : ∃ O2 ρ2, Sep K A (callB H0 F0 O0 vs) σ ρ2 [(r', v)] H F O2 ∧ ∀ ys, ρ[0]? = some (some (W.own true ys)) → ρ2[0]? = some (some (W.own true ys)) := by
    cases r with
    | d x => cases e; exact ⟨O, ρ, S, fun _ h => h⟩
    | fresh x => cases e; exact ⟨O, ρ, S, fun _ h => h⟩
    | fn x => cases e; exact ⟨O, ρ, S, fun _ h => h⟩
    | slot i =>
      have hv : σ[i]? = some (some v) := S.temps 0 _ _ rfl
      simp only [finR] at e
      split at e
      · rename_i xs q
        cases e
        have Sd := Sep.drop (T := []) (T' := [(.slot i, v)]) S
        obtain ⟨u, a, p, us, e1, e2, e3, e4⟩ := Sd.slots i _ q
        rw [hv] at a
        cases a
        subst e1
        refine ⟨_, ρ.set i none, Sd.untie e2 e3 e4 (S.ns i xs p q hv) _ (by simp) fun j x h => ?_, fun ys h => ?_⟩
        · rcases getElem?_set_cases h with ⟨_, h2, _⟩ | ⟨h1, h2⟩
          · cases h2
          · exact ⟨h2, h1⟩
        · rw [List.getElem?_set_ne (fun z => by subst z; rw [q] at h; cases h)]
          exact h
      · rename_i x q
        cases e
        obtain ⟨u, a, c⟩ := S.slots i _ q
        rw [hv] at a
        cases a
        have Sd := Sep.drop (T := []) (T' := [(.slot i, v)]) S
        exact ⟨O, ρ, Sep.push (T := []) Sd c, fun _ h => h⟩
      · cases e
  obtain ⟨O2, ρ2, S2, keep0⟩ := step
  have tset : ∀ k r u, [(r', v)][k]? = some (r, u) → TempOk K A F H O2 (vs.map some) k u r ∧ True := fun k r u e1 => by
    have t := S2.temps k r u e1
    cases k with
    | succ k => simp at e1
    | zero =>
      cases e1
      have := fin_noslot e
      exact ⟨temp_set (i := 0) (v' := v) this t, trivial⟩
  -- what is told of the arguments
  have nones : ∀ (n : Nat) (i : Nat) (w : W), (List.replicate n (none : Option W))[i]? ≠ some (some w) := fun n i w h => by
    rw [List.getElem?_replicate] at h
    split at h <;> cases h
  have mapnone : ∀ {l : List W} {i : Nat} {w : W}, (l.map fun _ => (none : Option W))[i]? ≠ some (some w) := fun {l i w} h => by
    rw [List.getElem?_map] at h
    cases q : l[i]? with
    | none => rw [q] at h; cases h
    | some _ => rw [q] at h; cases h
  have olen : (outs ws o).length = ws.length := by
    unfold outs
    split <;> simp
  have oget : ∀ {i : Nat} {w : W}, (outs ws o)[i]? = some (some w) → i = 0 ∧ ∃ ys, w = .own true ys ∧ ρ[0]? = some (some (W.own true ys)) := fun {i w} h => by
    unfold outs at h
    split at h
    · rename_i ys0 rest ys1 _ _
      cases i with
      | zero =>
        cases h
        obtain ⟨ys, h1, h2⟩ := ho
        cases h2
        exact ⟨rfl, _, rfl, h1⟩
      | succ i => exact absurd h mapnone
    · exact absurd h mapnone
  refine ⟨F, O2, S2.fh, S2.f0, S2.fn, S2.h0, S2.h1, S2.ho, by rw [olen, List.length_map, hl], fun i w h => ?_, fun k r u e => (tset k r u e).1, fun i xs h => rfl, S2.nt, fun i xs p h _ => ?_, S2.nn, S2.tb⟩
  · obtain ⟨rfl, ys, rfl, h1⟩ := oget h
    have h2 := keep0 ys h1
    obtain ⟨u, a, c⟩ := S2.slots 0 _ h2
    have hL := S2.lent 0 ys h2
    have hL' : σ[0]? = (vs.map some)[0]? := hL
    exact ⟨u, by rw [← hL']; exact a, c⟩
  · obtain ⟨rfl, ys, e1, _⟩ := oget h
    cases e1
end
end Mn
set_option Elab.async false
set_option linter.all false
set_option maxRecDepth 100000
set_option maxHeartbeats 1000000
namespace Mn
open PySem PySem.Spec PyProof.Rows L2
section
variable (K : PySem.W.Frag) (A : Ad) (Wx : WX)
/-- what is asked behind a statement -/
def FlP (B : Bs) (D : Ends) : Fl → Prop
  | .nx ρ => ∀ σ H, At K A B σ ρ [] H → D.nx σ H
  | .rt r ρ => ∀ σ v H, At K A B σ ρ [(r, v)] H → D.rt v H
  | .bk ρ => ∀ σ H, At K A B σ ρ [] H → D.bk σ H
  | .ct ρ => ∀ σ H, At K A B σ ρ [] H → D.ct σ H
  | .ex c ρ => ∀ σ H, At K A B σ ρ [] H → Wx (.ref (A c)) none σ H
  | .stuck => False
def RdS (ev : Env → Fl) : TS := fun Dn σ H => ∃ B ρ, At K A B σ ρ [] H ∧ FlP K A Wx B Dn (ev ρ)
end
section
variable {X : Cx} {K : PySem.W.Frag} {A : Ad} {Wx : WX} {B : Bs} {σ σ1 σ2 : L2.St} {ρ ρ' : Env} {T : Tmps} {H H' F : Hp} {O : Addr → Option Owner} {Dn : Ends}
theorem PS_imp {st : Stmt} {t t' : TS} (h : PS X st t) (hi : ∀ D σ H, t' D σ H → t D σ H) : PS X st t' := ⟨fun pins s σ H D I q => h.run pins s σ H D I (hi _ _ _ q)⟩
theorem PSs_imp {st : List Stmt} {t t' : TS} (h : PSs X st t) (hi : ∀ D σ H, t' D σ H → t D σ H) : PSs X st t' := ⟨fun pins s σ H D I q => h.run pins s σ H D I (hi _ _ _ q)⟩
/-- over an expression -/
theorem fl_gd {α : Type} {m : Res α} {f : α → Fl} (h : FlP K A Wx B Dn (m.fl f)) (σ : L2.St) : Gd m (fun a => FlP K A Wx B Dn (f a)) (ExP K A Wx B σ) := by
  cases m with
  | ok a => exact h
  | ex c ρ => exact fun H' q => h σ H' q
  | stuck => exact h
abbrev setEv (i : Nat) (ev : Env → Res (R × Env)) : Env → Fl := fun ρ => (ev ρ).fl fun (r, ρ) => match r.into i ρ with
  | some ρ1 => .nx ρ1
  | none => .stuck
theorem rs_set_of {st : Stmt} {i : Nat} {te : TE} {ev : Env → Res (R × Env)} (h : PS X st (tAsg te (gName i))) (hi : ∀ σ H Q, RdE K A Wx ev σ H Q → te σ H Q) : PS X st (RdS K A Wx (setEv i ev)) := by
  refine PS_imp h fun Dn σ H ⟨B, ρ, at_, g⟩ => hi _ _ _ ⟨B, ρ, [], at_, (fl_gd g σ).mono (fun ⟨r, ρ1⟩ g1 v H1 ⟨F, O, S⟩ => ?_) fun _ _ h => h⟩
  cases q : r.into i ρ1 with
  | none => simp only [q] at g1; exact (show False from g1).elim
  | some ρ2 =>
    simp only [q] at g1
    exact g1 _ _ (S.into NoSlot.nil q)
abbrev unpEv (is : List Nat) (lst : Bool) (ev : Env → Res (R × Env)) : Env → Fl := fun ρ => (ev ρ).fl fun (r, ρ) => match r.keep ρ with
  | some (.tuple xs, ρ) => if lst then .stuck else match Tg.set.setRow is xs ρ with
    | some ρ => .nx ρ
    | none => .stuck
  | some (.list xs, ρ) => if lst then match Tg.set.setRow is xs ρ with
    | some ρ => .nx ρ
    | none => .stuck
    else .stuck
  | _ => .stuck
theorem setRow_len : ∀ {is : List Nat} {xs : List D} {ρ ρ' : Env}, Tg.set.setRow is xs ρ = some ρ' → xs.length = is.length := by
  intro is
  induction is with
  | nil =>
    intro xs ρ ρ' h
    cases xs with
    | nil => rfl
    | cons _ _ => simp [Tg.set.setRow] at h
  | cons i is ih =>
    intro xs ρ ρ' h
    cases xs with
    | nil => simp [Tg.set.setRow] at h
    | cons x xs =>
      simp only [Tg.set.setRow] at h
      split at h
      · rw [List.length_cons, List.length_cons, ih h]
      · cases h
theorem rs_unp {st : Stmt} {is : List Nat} {lst : Bool} {te : TE} {ev : Env → Res (R × Env)} (h : PS X st (tAsg te (if lst then gLst K is.length (gRow is) else gTup K is.length (gRow is)))) (hi : ∀ σ H Q, RdE K A Wx ev σ H Q → te σ H Q) : PS X st (RdS K A Wx (unpEv is lst ev)) := by
  refine PS_imp h fun Dn σ H ⟨B, ρ, at_, g⟩ => hi _ _ _ ⟨B, ρ, [], at_, (fl_gd g σ).mono (fun ⟨r, ρ1⟩ g1 v H1 ⟨F, O, S⟩ => ?_) fun _ _ h => h⟩
  cases q : r.keep ρ1 with
  | none => simp only [q] at g1; exact (show False from g1).elim
  | some z =>
    obtain ⟨x, ρ2⟩ := z
    obtain ⟨F2, O2, S2, _⟩ := Sep.keepTop (T := []) S q
    have S3 := Sep.drop (T := []) S2
    have dv : Dq K F2 v x := S2.top
    cases x with
    | tuple xs =>
      simp only [q] at g1
      cases lst with
      | true => exact (show False from g1).elim
      | false =>
        simp only [Bool.false_eq_true, if_false] at g1
        cases e : Tg.set.setRow is xs ρ2 with
        | none => simp only [e] at g1; exact (show False from g1).elim
        | some ρ3 =>
          simp only [e] at g1
          exact tg_sound (tg := .row is) S3 NoSlot.nil dv e fun σ' _ S' => g1 _ _ ⟨_, _, S'⟩
    | list xs =>
      simp only [q] at g1
      cases lst with
      | false => exact (show False from g1).elim
      | true =>
        simp only [if_true] at g1
        cases e : Tg.set.setRow is xs ρ2 with
        | none => simp only [e] at g1; exact (show False from g1).elim
        | some ρ3 =>
          simp only [e] at g1
          cases dv with
          | lst h1 h2 => exact ⟨_, _, rfl, .inl (rd_sub S3.fh h1), by rw [dpa_len h2, setRow_len e], row_sound S3 NoSlot.nil h2 e fun σ' _ S' => g1 _ _ ⟨_, _, S'⟩⟩
    | _ => simp only [q] at g1; exact (show False from g1).elim
end
section
variable {X : Cx} {K : PySem.W.Frag} {A : Ad} {Wx : WX} {B : Bs} {σ σ1 σ2 : L2.St} {ρ ρ' : Env} {T : Tmps} {H H' F : Hp} {O : Addr → Option Owner} {Dn : Ends}
/-! ### two at once -/
def R.w : R → W
  | .d x => .d x
  | .fresh xs => .own false xs
  | .fn f => .fn f
  | .slot _ => .d .none
theorem into_w {r : R} {i : Nat} (h : ∀ k, r ≠ .slot k) : r.into i ρ = if isFree ρ i then some (ρ.set i (some r.w)) else none := by
  cases r with
  | slot k => exact absurd rfl (h k)
  | _ => rfl
theorem isFree_ne {i j : Nat} {w : Option W} (h : i ≠ j) : isFree (ρ.set i w) j = isFree ρ j := by
  unfold isFree
  rw [List.getElem?_set_ne h]
theorem into_two {r r' : R} {i j : Nat} {ρ1 ρ2 : Env} (h : ∀ k, r ≠ .slot k) (h' : ∀ k, r' ≠ .slot k) (hij : i ≠ j) (e1 : r.into i ρ = some ρ1) (e2 : r'.into j ρ1 = some ρ2) :
    ∃ ρ3, r'.into j ρ = some ρ3 ∧ r.into i ρ3 = some ρ2 := by
  rw [into_w h] at e1
  rw [into_w h'] at e2
  split at e1
  · rename_i f1
    cases e1
    split at e2
    · rename_i f2
      cases e2
      rw [isFree_ne hij] at f2
      refine ⟨_, by rw [into_w h', if_pos f2], ?_⟩
      rw [into_w h, if_pos (by rw [isFree_ne (Ne.symm hij)]; exact f1), List.set_comm _ _ (Ne.symm hij)]
    · cases e2
  · cases e1
abbrev parEv (i j : Nat) (ea eb : Env → Res (R × Env)) : Env → Fl := fun ρ => (ea ρ).fl fun (r, ρ) => (eb ρ).fl fun (r', ρ) => match r.peek ρ, r' with
    | _, .slot _ => .stuck
    | _, r' => if i = j then .stuck else match r with
      | .slot _ => .stuck
      | r => match r.into i ρ with
        | some ρ => match r'.into j ρ with
          | some ρ => .nx ρ
          | none => .stuck
        | none => .stuck
theorem par_fin {i j : Nat} {r r' : R} {v w : V}
    (g : FlP K A Wx B Dn (match r.peek ρ, r' with
    | _, .slot _ => .stuck
    | _, r' => if i = j then .stuck else match r with
      | .slot _ => .stuck
      | r => match r.into i ρ with
        | some ρ => match r'.into j ρ with
          | some ρ => .nx ρ
          | none => .stuck
        | none => .stuck)) (S : Sep K A B σ ρ [(r, v), (r', w)] H F O) : Dn.nx ((σ.set i (some v)).set j (some w)) H := by
  have key : (∀ k, r ≠ .slot k) → (∀ k, r' ≠ .slot k) → FlP K A Wx B Dn (if i = j then .stuck else match r.into i ρ with
        | some ρ => match r'.into j ρ with
          | some ρ => .nx ρ
          | none => .stuck
        | none => .stuck) → Dn.nx ((σ.set i (some v)).set j (some w)) H := fun h h' g => by
    by_cases hij : i = j
    · rw [if_pos hij] at g; exact g.elim
    · rw [if_neg hij] at g
      cases e1 : r.into i ρ with
      | none => simp only [e1] at g; exact (show False from g).elim
      | some ρ1 =>
        simp only [e1] at g
        cases e2 : r'.into j ρ1 with
        | none => simp only [e2] at g; exact (show False from g).elim
        | some ρ2 =>
          simp only [e2] at g
          obtain ⟨ρ3, e3, e4⟩ := into_two h h' hij e1 e2
          obtain ⟨F1, O1, S1⟩ := Sep.into (T := [(r, v)]) S (noSlot_one h) e3
          have at2 := Sep.into (T := []) S1 NoSlot.nil e4
          rw [List.set_comm _ _ hij]
          exact g _ _ at2
  cases r' with
  | slot k => exact (show False from g).elim
  | _ =>
    cases r with
    | slot k =>
      by_cases hij : i = j
      · simp only [hij, if_true] at g; exact (show False from g).elim
      · simp only [hij, if_false] at g; exact (show False from g).elim
    | _ => exact key (fun _ z => nomatch z) (fun _ z => nomatch z) g
theorem rs_par {st : Stmt} {i j : Nat} {ta : TA} {ea eb : Env → Res (R × Env)} (h : PS X st (tPar i j ta)) (hi : ∀ σ H Q, tCons (RdE K A Wx ea) (tCons (RdE K A Wx eb) tNil) σ H Q → ta σ H Q) : PS X st (RdS K A Wx (parEv i j ea eb)) := by
  refine PS_imp h fun Dn σ H ⟨B, ρ, at_, g⟩ => hi _ _ _ ⟨B, ρ, [], at_, (fl_gd g σ).mono (fun ⟨r, ρ1⟩ g1 v H1 at1 => ?_) fun _ _ h => h⟩
  refine ⟨B, ρ1, _, at1, (fl_gd g1 σ).mono (fun ⟨r', ρ2⟩ g2 w H2 ⟨F, O, S⟩ => ?_) fun _ _ h => h⟩
  exact ⟨v, w, rfl, par_fin g2 S⟩
/-- a new object that nobody needs -/
theorem Sep.junk (S : Sep K A B σ ρ T H F O) {p : Addr} {o : HO} (h : H p = none) (nt : nonT o) : Sep K A B σ ρ T (upd H p o) F O := by
  obtain ⟨f, b, c⟩ := S.fresh h
  have up : ∀ q w, O q = some w → O q = some w ∧ ∀ u, H q = some u → upd H p o q = some u := fun q w e => ⟨e, fun u eu => by
    rw [upd_ne (fun z => by rw [z, h] at eu; cases eu)]; exact eu⟩
  refine ⟨fun q u e => ?_, S.f0, S.fn, fun q u e n => ?_, fun q e => upd_ne_none nt (S.h1 q e), fun q e => ⟨(S.ho q e).1, (S.ho q e).2.1, upd_ne_none nt (S.ho q e).2.2⟩, S.len, fun j x e => ?_, fun k r u e => ?_, S.lent, S.nt, S.ns, S.nn, S.tb.new h⟩
  · rw [upd_ne (fun z => by rw [z, f] at e; cases e)]; exact S.fh q u e
  · rw [upd_ne (fun z => by rw [z, c] at e; cases e)]; exact S.h0 q u e n
  · obtain ⟨u, a, c⟩ := S.slots j x e
    exact ⟨u, a, slotOk_step (Sub.refl _) (fun q e => up q _ e) c⟩
  · exact tempOk_step (Sub.refl _) (fun q e => up q _ e) (S.temps k r u e)
theorem rs_parT {st : Stmt} {i j : Nat} {ta : TA} {ea eb : Env → Res (R × Env)} (h : PS X st (tAsg (tTup ta) (gTup K 2 (gRow [i, j])))) (hi : ∀ σ H Q, tCons (RdE K A Wx ea) (tCons (RdE K A Wx eb) tNil) σ H Q → ta σ H Q) : PS X st (RdS K A Wx (parEv i j ea eb)) := by
  refine PS_imp h fun Dn σ H ⟨B, ρ, at_, g⟩ => hi _ _ _ ⟨B, ρ, [], at_, (fl_gd g σ).mono (fun ⟨r, ρ1⟩ g1 v H1 at1 => ?_) fun _ _ h => h⟩
  refine ⟨B, ρ1, _, at1, (fl_gd g1 σ).mono (fun ⟨r', ρ2⟩ g2 w H2 ⟨F, O, S⟩ => ?_) fun _ _ h => h⟩
  refine ⟨show 2 ≤ sizeLine by decide, fun p hp => ⟨p, _, rfl, .inl (.inl upd_same), rfl, v, _, rfl, w, _, rfl, rfl, ?_⟩⟩
  exact par_fin g2 (Sep.junk S hp nonT_tup)
/-! ### name op= e -/
abbrev augEv (i : Nat) (o : Op2) (ev : Env → Res (R × Env)) : Env → Fl := fun ρ => match ρ[i]? with
  | some (some (.d u)) => (ev ρ).fl fun (r, ρ) => match r.peek ρ with
    | some v => match u, v, opD o u v with
      | .int _, .int _, some (.d z) => match (R.d z).into i ρ with
        | some ρ => .nx ρ
        | none => .stuck
      | _, _, _ => .stuck
    | none => .stuck
  | _ => .stuck
theorem peek_int {r : R} {j : Int} {v : V} {k : Nat} (S : Sep K A B σ ρ T H F O) (h : T[k]? = some (r, v)) (e : r.peek ρ = some (.int j)) : v = .int j := by
  have := S.peek h e
  cases this
  rfl
theorem rs_aug {st : Stmt} {i : Nat} {o : Op2} {f : Int → Int → Int} {ev : Env → Res (R × Env)} (h : PS X st (tAug i (RdE K A Wx ev) (ipI f))) (ho : ∀ i j, opD o (.int i) (.int j) = some (.d (.int (f i j)))) : PS X st (RdS K A Wx (augEv i o ev)) := by
  refine PS_imp h fun Dn σ H ⟨B, ρ, ⟨F, O, S⟩, g⟩ => ?_
  simp only [augEv] at g
  cases q : ρ[i]? with
  | none => simp only [q] at g; exact (show False from g).elim
  | some w =>
    cases w with
    | none => simp only [q] at g; exact (show False from g).elim
    | some w =>
      cases w with
      | own l xs => simp only [q] at g; exact (show False from g).elim
      | fn f => simp only [q] at g; exact (show False from g).elim
      | d u =>
        simp only [q] at g
        obtain ⟨v, h1, h2⟩ := S.slots i _ q
        refine ⟨v, h1, B, ρ, [], ⟨F, O, S⟩, (fl_gd g σ).mono (fun ⟨r, ρ1⟩ g1 v' H1 ⟨F1, O1, S1⟩ => ?_) fun _ _ h => h⟩
        simp only at g1
        cases qp : r.peek ρ1 with
        | none => simp only [qp] at g1; exact (show False from g1).elim
        | some y =>
          simp only [qp] at g1
          match u, y, qp, h2, g1 with
          | .int a, .int b, qp, h2, g1 =>
            rw [ho] at g1
            simp only at g1
            cases qi : (R.d (.int (f a b))).into i ρ1 with
            | none => simp only [qi] at g1; exact (show False from g1).elim
            | some ρ2 =>
              simp only [qi] at g1
              have e1 : v = .int a := dp_int h2
              have e2 := peek_int S1 one_top qp
              refine ⟨a, b, e1, e2, ?_⟩
              have S2 := Sep.drop (T := []) S1
              exact g1 _ _ ⟨_, _, S2.setData NoSlot.nil qi (.int _)⟩
/-! ### name[i] = e -/
abbrev setXEv (i : Nat) (ei ev : Env → Res (R × Env)) : Env → Fl := fun ρ => (ev ρ).fl fun (r, ρ) => match r.keep ρ with
  | some (y, ρ) => match ρ[i]? with
    | some (some (.own _ _)) => (ei ρ).fl fun (k, ρ) => match ρ[i]?, k with
      | some (some (.own l xs)), .d (.int k) => match ixN xs.length k with
        | some j => .nx (ρ.set i (some (.own l (xs.set j y))))
        | none => .stuck
      | _, _ => .stuck
    | _ => .stuck
  | none => .stuck
theorem rs_setX {st : Stmt} {i : Nat} {ei ev : Env → Res (R × Env)} (h : PS X st (tAsg (RdE K A Wx ev) (gSub (tVar i) (RdE K A Wx ei) rSetL))) : PS X st (RdS K A Wx (setXEv i ei ev)) := by
  refine PS_imp h fun Dn σ H ⟨B, ρ, at_, g⟩ => ⟨B, ρ, [], at_, (fl_gd g σ).mono (fun ⟨r, ρ1⟩ g1 v H1 ⟨F, O, S⟩ => ?_) fun _ _ h => h⟩
  simp only at g1
  cases qk : r.keep ρ1 with
  | none => simp only [qk] at g1; exact (show False from g1).elim
  | some z =>
    obtain ⟨y, ρ2⟩ := z
    simp only [qk] at g1
    obtain ⟨F2, O2, S2, _⟩ := Sep.keepTop (T := []) S qk
    cases q : ρ2[i]? with
    | none => simp only [q] at g1; exact (show False from g1).elim
    | some w =>
      cases w with
      | none => simp only [q] at g1; exact (show False from g1).elim
      | some w =>
        cases w with
        | d u => simp only [q] at g1; exact (show False from g1).elim
        | fn f => simp only [q] at g1; exact (show False from g1).elim
        | own l xs =>
          simp only [q] at g1
          obtain ⟨p, vs, hσ, hp, dd⟩ := S2.ownSlot q
          refine own_var hσ ⟨B, ρ2, [(.d y, v)], ⟨F2, O2, S2⟩, (fl_gd g1 σ).mono (fun ⟨k, ρ3⟩ g2 u H3 ⟨F3, O3, S3⟩ => ?_) fun _ _ h => h⟩
          simp only at g2
          cases q3 : ρ3[i]? with
          | none => simp only [q3] at g2; exact (show False from g2).elim
          | some w3 =>
            cases w3 with
            | none => simp only [q3] at g2; exact (show False from g2).elim
            | some w3 =>
              cases w3 with
              | d u => simp only [q3] at g2; exact (show False from g2).elim
              | fn f => simp only [q3] at g2; exact (show False from g2).elim
              | own l3 zs =>
                match k, S3, g2 with
                | .d (.int k), S3, g2 =>
                  simp only [q3] at g2
                  cases qx : ixN zs.length k with
                  | none => simp only [qx] at g2; exact (show False from g2).elim
                  | some j =>
                    simp only [qx] at g2
                    obtain ⟨p3, us, hσ3, hp3, dd3⟩ := S3.ownSlot q3
                    rw [hσ] at hσ3
                    cases hσ3
                    have dk : Dq K F3 u (.int k) := S3.top
                    have dv : Dq K F3 v y := S3.temps 0 _ _ rfl
                    have S4 := Sep.drop (T := [(.d y, v)]) S3
                    have S5 := Sep.drop (T := []) (T' := [(.d y, v)]) S4
                    have S6 := S5.mutate q3 hσ hp3 (dpa_set j dd3 dv)
                    exact ⟨p, us, k, j, rfl, dp_int dk, hp3, by rw [dpa_len dd3]; exact qx, g2 _ _ ⟨_, _, S6⟩⟩
                | .d .none, _, g2 => simp only [q3] at g2; exact (show False from g2).elim
                | .d (.bool _), _, g2 => simp only [q3] at g2; exact (show False from g2).elim
                | .d (.str _), _, g2 => simp only [q3] at g2; exact (show False from g2).elim
                | .d (.list _), _, g2 => simp only [q3] at g2; exact (show False from g2).elim
                | .d (.tuple _), _, g2 => simp only [q3] at g2; exact (show False from g2).elim
                | .d (.dict _), _, g2 => simp only [q3] at g2; exact (show False from g2).elim
                | .fresh _, _, g2 => simp only [q3] at g2; exact (show False from g2).elim
                | .slot _, _, g2 => simp only [q3] at g2; exact (show False from g2).elim
                | .fn _, _, g2 => simp only [q3] at g2; exact (show False from g2).elim
end
end Mn
set_option Elab.async false
set_option linter.all false
set_option maxRecDepth 100000
set_option maxHeartbeats 1000000
namespace Mn
open PySem PySem.Spec PyProof.Rows L2
def rGetL (K : PySem.W.Frag) : V → V → Hp → VK → Prop := fun x y H Q => ∃ p xs i v, x = .ref p ∧ y = .int i ∧ SqL K H p xs ∧ atI xs i = some v ∧ Q v H
section
variable {X : Cx} {K : PySem.W.Frag} {A : Ad} {Wx : WX} {B : Bs} {σ σ1 σ2 : L2.St} {ρ ρ' : Env} {T : Tmps} {H H' F : Hp} {O : Addr → Option Owner} {Dn : Ends}
theorem get_list : PGet X (rGetL X.K) := by
  intro pins s σ H o i ov iv Q I ro ri ⟨p, xs, j, v, eo, ei, hq, he, q⟩
  subst eo
  subst ei
  cases ro
  obtain ⟨t, rfl⟩ := ri
  obtain ⟨its, r, pl, hz⟩ := I.list hq
  obtain ⟨n, h1, h2, h3, h4, h5⟩ := atI_get he
  obtain ⟨w, ew, rw'⟩ := r.get h2
  have hl := r.length
  have hn := line63
  have done : EP X pins σ Q w s := ⟨v, H, I, rw', q⟩
  rcases Int.lt_or_le j 0 with h0 | h0
  · have hj : (j + (its.toArray.size : Int)).toNat = n := by
      rw [seqIndex_neg h0 h4] at h1
      rw [List.size_toArray, ← hl]
      exact Option.some.inj h1
    exact wpAny_getItem_list_neg pl.isList h0 (by rw [List.size_toArray]; omega) (by omega) (by rw [hj]; simpa using ew) done
  · have hj : j.toNat = n := by
      rw [seqIndex_of h0 h5] at h1
      exact Option.some.inj h1
    exact wpAny_getItem_list pl.isList h0 (by omega) (by rw [hj]; simpa using ew) done
abbrev augXEv (i : Nat) (o : Op2) (ei ev : Env → Res (R × Env)) : Env → Fl := fun ρ => match ρ[i]? with
  | some (some (.own _ _)) => (ei ρ).fl fun (k, ρ) => match ρ[i]?, k with
    | some (some (.own _ xs)), .d (.int k) => match atI xs k with
      | some (.int u) => (ev ρ).fl fun (r, ρ) => match ρ[i]?, r with
        | some (some (.own l xs)), .d (.int v) => match opD o (.int u) (.int v), ixN xs.length k with
          | some (.d z), some j => if o = .add ∨ o = .sub then .nx (ρ.set i (some (.own l (xs.set j z)))) else .stuck
          | _, _ => .stuck
        | _, _ => .stuck
      | _ => .stuck
    | _, _ => .stuck
  | _ => .stuck
theorem isOwn {ρ : Env} {i : Nat} {P : Prop} (h : ∀ l xs, ρ[i]? = some (some (W.own l xs)) → P) (h' : (∀ l xs, ρ[i]? ≠ some (some (W.own l xs))) → P) : P := by
  by_cases q : ∃ l xs, ρ[i]? = some (some (W.own l xs))
  · obtain ⟨l, xs, q⟩ := q; exact h l xs q
  · exact h' fun l xs e => q ⟨l, xs, e⟩
theorem dpa_atI {vs : List V} {xs : List D} {k : Int} {x : D} (h : DqAll K F vs xs) (e : atI xs k = some x) : ∃ v, atI vs k = some v ∧ Dq K F v x := by
  unfold atI at e ⊢
  rw [dpa_len h]
  cases q : ixN xs.length k with
  | none => rw [q] at e; cases e
  | some n =>
    rw [q] at e
    obtain ⟨v, a, b⟩ := dpa_get h (show xs[n]? = some x from e)
    exact ⟨v, a, b⟩
theorem rs_augX {st : Stmt} {i : Nat} {o : Op2} {f : Int → Int → Int} {ei ev : Env → Res (R × Env)} (h : PS X st (tAugS (tVar i) (RdE K A Wx ei) (RdE K A Wx ev) (rGetL K) (ipI f) rSetL)) (ho : ∀ i j, opD o (.int i) (.int j) = some (.d (.int (f i j)))) : PS X st (RdS K A Wx (augXEv i o ei ev)) := by
  refine PS_imp h fun Dn σ H ⟨B, ρ, ⟨F, O, S⟩, g⟩ => ?_
  simp only [augXEv] at g
  refine isOwn (ρ := ρ) (i := i) (fun l xs q => ?_) fun q => ?_
  rotate_left
  · split at g
    · rename_i e; exact absurd e (q _ _)
    · exact g.elim
  simp only [q] at g
  obtain ⟨p, vs, hσ, hp, dd⟩ := S.ownSlot q
  refine own_var hσ ⟨B, ρ, [], ⟨F, O, S⟩, (fl_gd g σ).mono (fun ⟨k, ρ1⟩ g1 u H1 ⟨F1, O1, S1⟩ => ?_) fun _ _ h => h⟩
  simp only at g1
  refine isOwn (ρ := ρ1) (i := i) (fun l1 ys q1 => ?_) fun q1 => ?_
  rotate_left
  · split at g1
    · rename_i e _; exact absurd e (q1 _ _)
    · exact g1.elim
  simp only [q1] at g1
  obtain ⟨p1, vs1, hσ1, hp1, dd1⟩ := S1.ownSlot q1
  rw [hσ] at hσ1
  cases hσ1
  split at g1
  · rename_i k0 e0 e1
    cases e0
    cases qa : atI ys k0 with
    | none => simp only [qa] at g1; exact (show False from g1).elim
    | some x =>
      simp only [qa] at g1
      split at g1
      · rename_i n e2
        cases e2
        obtain ⟨v0, h1, h2⟩ := dpa_atI dd1 qa
        have S2 := Sep.drop (T := []) S1
        have dk : Dq K F1 u (.int k0) := S1.top
        refine ⟨p, vs1, k0, v0, rfl, dp_int dk, .inl (.inl hp1), h1, B, ρ1, [], ⟨F1, O1, S2⟩, (fl_gd g1 σ).mono (fun ⟨r, ρ2⟩ g2 w H2 ⟨F2, O2, S3⟩ => ?_) fun _ _ h => h⟩
        simp only at g2
        refine isOwn (ρ := ρ2) (i := i) (fun l2 zs q2 => ?_) fun q2 => ?_
        rotate_left
        · split at g2
          · rename_i e _; exact absurd e (q2 _ _)
          · exact g2.elim
        simp only [q2] at g2
        split at g2
        · rename_i m e3 e4
          cases e3
          rw [ho] at g2
          cases qx : ixN zs.length k0 with
          | none => simp only [qx] at g2; exact (show False from g2).elim
          | some j =>
            simp only [qx] at g2
            split at g2
            · obtain ⟨p2, vs2, hσ2, hp2, dd2⟩ := S3.ownSlot q2
              rw [hσ] at hσ2
              cases hσ2
              have dw : Dq K F2 w (.int m) := S3.top
              have S4 := Sep.drop (T := []) S3
              have S5 := S4.mutate q2 hσ hp2 (dpa_set j dd2 (.int (f n m)))
              exact ⟨n, m, dp_int h2, dp_int dw, p, vs2, k0, j, rfl, dp_int dk, hp2, by rw [dpa_len dd2]; exact qx, g2 _ _ ⟨_, _, S5⟩⟩
            · exact g2.elim
        · exact g2.elim
      · exact g1.elim
  · exact g1.elim
end
end Mn
set_option Elab.async false
set_option linter.all false
set_option maxRecDepth 100000
set_option maxHeartbeats 1000000
namespace Mn
open PySem PySem.Spec PyProof.Rows L2
section
variable {X : Cx} {K : PySem.W.Frag} {A : Ad} {Wx : WX} {B : Bs} {σ σ1 σ2 : L2.St} {ρ ρ' : Env} {T : Tmps} {H H' F : Hp} {O : Addr → Option Owner} {Dn : Ends}
theorem flp_nx {B : Bs} {D : Ends} {N : L2.St → Hp → Prop} {fl : Fl} {k : Env → Fl} (h : FlP K A Wx B D (match fl with | .nx ρ => k ρ | f => f)) (hn : ∀ ρ', fl = .nx ρ' → ∀ σ H, At K A B σ ρ' [] H → N σ H) : FlP K A Wx B { D with nx := N } fl := by
  cases fl with
  | nx ρ => exact hn _ rfl
  | rt r ρ => exact h
  | bk ρ => exact h
  | ct ρ => exact h
  | ex c ρ => exact h
  | stuck => exact h
theorem rs_nil : PSs X [] (RdS K A Wx .nx) := PSs_imp pss_nil fun Dn σ H ⟨B, ρ, a, g⟩ => g _ _ a
theorem rs_cons {st : Stmt} {rest : List Stmt} {f k : Env → Fl} (h : PS X st (RdS K A Wx f)) (h2 : PSs X rest (RdS K A Wx k)) : PSs X (st :: rest) (RdS K A Wx fun ρ => match f ρ with | .nx ρ => k ρ | f => f) := by
  refine PSs_imp (pss_cons h h2) fun Dn σ H ⟨B, ρ, a, g⟩ => ?_
  refine ⟨B, ρ, a, flp_nx g fun ρ' e σ' H' at' => ⟨B, ρ', at', ?_⟩⟩
  simp only [e] at g
  exact g
theorem rs_pass {pos : Pos} : PS X (.Pass pos) (RdS K A Wx .nx) := PS_imp ps_pass fun Dn σ H ⟨B, ρ, a, g⟩ => g _ _ a
theorem rs_brk {pos : Pos} : PS X (.Break pos) (RdS K A Wx .bk) := PS_imp ps_break fun Dn σ H ⟨B, ρ, a, g⟩ => g _ _ a
theorem rs_cnt {pos : Pos} : PS X (.Continue pos) (RdS K A Wx .ct) := PS_imp ps_continue fun Dn σ H ⟨B, ρ, a, g⟩ => g _ _ a
theorem rs_expr {e : Expr} {pos : Pos} {ev : Env → Res (R × Env)} (he : PE X e (RdE K A Wx ev)) (hs : swapsWith e none pos.line X.env = pure false) : PS X (.Expr e pos) (RdS K A Wx fun ρ => (ev ρ).fl fun (_, ρ) => .nx ρ) := by
  refine PS_imp (ps_expr he hs) fun Dn σ H ⟨B, ρ, a, g⟩ => ⟨B, ρ, [], a, (fl_gd g σ).mono (fun ⟨r, ρ1⟩ g1 v H1 a1 => g1 _ _ (At.drop (T := []) a1)) fun _ _ h => h⟩
theorem rs_ret {e : Expr} {pos : Pos} {ev : Env → Res (R × Env)} (he : PE X e (RdE K A Wx ev)) : PS X (.Return (some e) pos) (RdS K A Wx fun ρ => (ev ρ).fl fun (r, ρ) => .rt r ρ) := by
  refine PS_imp (ps_ret he) fun Dn σ H ⟨B, ρ, a, g⟩ => ⟨B, ρ, [], a, (fl_gd g σ).mono (fun ⟨r, ρ1⟩ g1 v H1 a1 => g1 _ _ _ a1) fun _ _ h => h⟩
theorem rs_retN {pos : Pos} : PS X (.Return none pos) (RdS K A Wx fun ρ => .rt (.d .none) ρ) := by
  refine PS_imp ps_retN fun Dn σ H ⟨B, ρ, ⟨F, O, S⟩, g⟩ => g σ _ _ ⟨F, O, Sep.push (T := []) (r := .d .none) S .non⟩
theorem rs_if {c : Expr} {a b : List Stmt} {pos : Pos} {ec : Env → Res (Bool × Env)} {ea eb : Env → Fl} (hc : PT X c (RdT K A Wx ec)) (ha : PSs X a (RdS K A Wx ea)) (hb : PSs X b (RdS K A Wx eb)) :
    PS X (.If c a b pos) (RdS K A Wx fun ρ => (ec ρ).fl fun (t, ρ) => if t then ea ρ else eb ρ) := by
  refine PS_imp (ps_if hc ha hb) fun Dn σ H ⟨B, ρ, a, g⟩ => ⟨B, ρ, [], a, (fl_gd g σ).mono (fun ⟨t, ρ1⟩ g1 H1 a1 => ?_) fun _ _ h => h⟩
  cases t with
  | true => exact ⟨B, ρ1, a1, g1⟩
  | false => exact ⟨B, ρ1, a1, g1⟩
/-! ### loops -/
theorem rs_while {c : Expr} {body : List Stmt} {pos : Pos} {n : Nat} {ec : Env → Res (Bool × Env)} {eb : Env → Fl} (hp : PassesOwn (model X.prog X.w) X.A X.env X.xe) (hc : PT X c (RdT K A Wx ec)) (hb : PSs X body (RdS K A Wx eb)) :
    PS X (.While c body [] pos) (RdS K A Wx fun ρ => whLoop ec eb n ρ) := by
  refine PS_imp (ps_while hp hc hb) fun Dn σ H ⟨B, ρ, a, g⟩ => ?_
  refine ⟨fun m σ H => ∃ ρ, At K A B σ ρ [] H ∧ FlP K A Wx B Dn (whLoop ec eb m ρ), ⟨n, ρ, a, g⟩, ?_⟩
  rintro m σ1 H1 ⟨ρ1, a1, g1⟩
  cases m with
  | zero => exact (show False from g1).elim
  | succ m =>
    simp only [whLoop] at g1
    refine ⟨B, ρ1, [], a1, ?_⟩
    cases q : ec ρ1 with
    | stuck => simp only [q] at g1; exact (show False from g1).elim
    | ex c ρx => simp only [q] at g1; exact fun H' h => g1 _ _ h
    | ok z =>
      obtain ⟨t, ρ2⟩ := z
      simp only [q] at g1
      intro H2 a2
      cases t with
      | false => exact g1 _ _ a2
      | true =>
        simp only [if_true]
        refine ⟨fun σ' H' => ∃ ρ', At K A B σ' ρ' [] H' ∧ FlP K A Wx B Dn (whLoop ec eb m ρ'), fun σ' H' h => ⟨m, Nat.lt_succ_self m, h⟩, B, ρ2, a2, ?_⟩
        cases q3 : eb ρ2 with
        | nx ρ3 => simp only [q3] at g1; exact fun σ' H' h => ⟨ρ3, h, g1⟩
        | ct ρ3 => simp only [q3] at g1; exact fun σ' H' h => ⟨ρ3, h, g1⟩
        | bk ρ3 => simp only [q3] at g1; exact g1
        | rt r ρ3 => simp only [q3] at g1; exact g1
        | ex c ρ3 => simp only [q3] at g1; exact g1
        | stuck => simp only [q3] at g1; exact g1
/-- back to the base at the loop's beginning -/
theorem flp_refine {fl : Fl} (S : Sep K A B σ ρ T H F O) (h : FlP K A Wx B Dn fl) : FlP K A Wx { B with F := F } Dn fl := by
  cases fl with
  | nx ρ => exact fun σ H ⟨F', O', S'⟩ => h _ _ ⟨F', O', S.unrefine S'⟩
  | bk ρ => exact fun σ H ⟨F', O', S'⟩ => h _ _ ⟨F', O', S.unrefine S'⟩
  | ct ρ => exact fun σ H ⟨F', O', S'⟩ => h _ _ ⟨F', O', S.unrefine S'⟩
  | rt r ρ => exact fun σ v H ⟨F', O', S'⟩ => h _ _ _ ⟨F', O', S.unrefine S'⟩
  | ex c ρ => exact fun σ H ⟨F', O', S'⟩ => h _ _ ⟨F', O', S.unrefine S'⟩
  | stuck => exact h
theorem rs_for {tg : Tg} {t iter : Expr} {body : List Stmt} {pos : Pos} {ei : Env → Res (List D × Env)} {eb : Env → Fl} (hp : PassesOwn (model X.prog X.w) X.A X.env X.xe) (hc : X.calm = true) (hi : PI X t iter (RdI K A Wx ei)) (hg : PG X t (RdG K tg))
    (hb : PSs X body (RdS K A Wx eb)) (hs : ∀ x, foldedSetIterable iter X.env x = pure x) :
    PS X (.For t iter body [] pos) (RdS K A Wx fun ρ => (ei ρ).fl fun (xs, ρ) => forLoop (fun x ρ => match tg.set ρ x with
      | some ρ => eb ρ
      | none => .stuck) xs ρ) := by
  refine PS_imp (ps_for hp hc hi hg hb hs) fun Dn σ H ⟨B, ρ, a, g⟩ => ⟨B, ρ, [], a, (fl_gd g σ).mono (fun ⟨items, ρ1⟩ g1 J H1 F O S it => ?_) fun _ _ h => h⟩
  have g2 := flp_refine S g1
  simp only at g2
  refine for_it it.walk (fun i σ H => ∃ ρ, At K A { B with F := F } σ ρ [] H ∧ FlP K A Wx { B with F := F } Dn (forLoop (fun x ρ => match tg.set ρ x with
      | some ρ => eb ρ
      | none => .stuck) (items.drop i) ρ)) ⟨ρ1, ⟨F, O, S.refine⟩, by simpa using g2⟩ ?_ ?_ ?_
  · rintro i σ2 H2 _ ⟨ρ2, ⟨F2, O2, S2⟩, _⟩
    exact Sub.trans S2.f0 S2.fh
  · rintro i v σ2 H2 H2' hi ⟨ρ2, ⟨F2, O2, S2⟩, g3⟩ ⟨d, hd, y⟩
    obtain ⟨x, e1, e2⟩ := drop_get hi
    rw [hd] at e1
    cases e1
    rw [e2] at g3
    simp only [forLoop] at g3
    -- the item as it stands
    have step : ∃ F3, Sep K A { B with F := F } σ2 ρ2 [] H2' F3 O2 ∧ Dq K F3 v d := by
      rcases y with ⟨rfl, dv⟩ | ⟨Tt, vs, ds, rfl, hn, rfl, rfl, dd⟩
      · exact ⟨F2, S2, dp_sub S2.f0 _ _ dv⟩
      · have f2 := (S2.fresh hn).1
        exact ⟨_, S2.laid hn nonT_tup, .tup (.inl (.inl upd_same)) (dpa_sub (Sub.trans S2.f0 (Sub.upd f2)) _ _ dd)⟩
    obtain ⟨F3, S3, dv⟩ := step
    cases q : tg.set ρ2 d with
    | none => simp only [q] at g3; exact (show False from g3).elim
    | some ρ3 =>
      simp only [q] at g3
      refine tg_sound S3 NoSlot.nil dv q fun σ' _ S' => ⟨{ B with F := F }, ρ3, ⟨_, _, S'⟩, ?_⟩
      cases q3 : eb ρ3 with
      | nx ρ4 => simp only [q3] at g3; exact fun σ' H' h => ⟨ρ4, h, g3⟩
      | ct ρ4 => simp only [q3] at g3; exact fun σ' H' h => ⟨ρ4, h, g3⟩
      | bk ρ4 => simp only [q3] at g3; exact g3
      | rt r ρ4 => simp only [q3] at g3; exact g3
      | ex c ρ4 => simp only [q3] at g3; exact g3
      | stuck => simp only [q3] at g3; exact g3
  · rintro σ2 H2 ⟨ρ2, a2, g3⟩
    rw [List.drop_length] at g3
    exact g3 _ _ a2
/-! ### raise -/
theorem rs_raise {c : Str} {e : Expr} {pos : Pos} (hc : X.calm = true) (tk : Takes X Wx) (he : PMk X e (fun _ H Q => Q (.ref (A c)) none H)) : PS X (.Raise (some e) none pos) (RdS K A Wx fun ρ => .ex c ρ) :=
  PS_imp (L2.ps_raise hc tk he) fun Dn σ H ⟨B, ρ, a, g⟩ => g _ _ a
end
end Mn
set_option Elab.async false
set_option linter.all false
set_option maxRecDepth 100000
set_option maxHeartbeats 1000000
namespace Mn
open PySem PySem.Spec PyProof.Rows L2 LamX
section
variable {X : Cx} {K : PySem.W.Frag} {A : Ad} {Wx : WX} {B : Bs} {σ σ1 σ2 : L2.St} {ρ ρ' : Env} {T : Tmps} {H H' F : Hp} {O : Addr → Option Owner} {Dn : Ends}
/-- what changes but tables does not touch what is known -/
theorem Sep.extN (S : Sep K A B σ ρ T H F O) (e : ExtN H H') (t : Tabs A.T H') : Sep K A B σ ρ T H' F O := by
  have up : ∀ q w, O q = some w → O q = some w ∧ ∀ vs, H q = some (.lst vs) → H' q = some (.lst vs) := fun q w h => ⟨h, fun vs hv => e q _ hv nonT_lst⟩
  have own : ∀ {w v xs}, OwnAt K F H O w v xs → OwnAt K F H' O w v xs := fun ⟨p, vs, a, b, c, d⟩ => ⟨p, vs, a, b, e p _ c nonT_lst, d⟩
  have msk : ∀ {b}, mask H b ≠ none → mask H' b ≠ none := fun {b} h => by
    cases q : mask H b with
    | none => exact absurd q h
    | some o =>
      obtain ⟨a, c⟩ := mask_some q
      rw [mask_of (e b o a c) c]
      exact Option.some_ne_none _
  refine ⟨fun b o h => e b o (S.fh b o h) (S.tb.ft b o h), S.f0, S.fn, fun b o h n => e b o (S.h0 b o h n) (B.hm b o h), fun b h => msk (S.h1 b h), fun b h => ⟨(S.ho b h).1, (S.ho b h).2.1, msk (S.ho b h).2.2⟩, S.len, fun i w h => ?_, fun k r v h => ?_, S.lent, S.nt, S.ns, S.nn, ⟨S.tb.ft, t⟩⟩
  · obtain ⟨v, a, c⟩ := S.slots i w h
    refine ⟨v, a, ?_⟩
    cases w with
    | d x => exact c
    | own l xs => exact own c
    | fn f => exact c
  · have t := S.temps k r v h
    cases r with
    | d x => exact t
    | fresh xs => exact own t
    | slot i => exact t
    | fn f => exact t
/-- told("told", ..), or told of the exception -/
abbrev heardEv (hs : List (Str × D)) (ev : Env → Res (R × Env)) : Env → Res (R × Env) := fun ρ => match ev (wipeE ρ []) with
  | .ok p => match p.1.keep p.2 with
    | some (y, ρ1) => .ok (.d (.tuple [.str "told", y]), backE [] 0 ρ ρ1)
    | none => .stuck
  | .ex c ρ1 => match lookupEx c hs with
    | some d => .ok (.d d, backE [] 0 ρ ρ1)
    | none => .stuck
  | .stuck => .stuck
/-- the def's reading: try: return ("told", a()) / except x: return (ret,) -/
def TTup (K : PySem.W.Frag) (CS : Addr) (yes no : Str) : (XK → Hp → VK → Prop) → Hp → VK → Prop := fun tl H Q =>
  tl (fun cls _ H' => ∃ b, PySem.W.exmOne K cls (.ref CS) = some b ∧ (b = true → ∀ p, H' p = none → Q (.ref p) (upd H' p (.tup [.str no]))) ∧ (b = false → False)) H fun v H1 => [V.str yes, v].length ≤ sizeLine ∧ ∀ p, H1 p = none → Q (.ref p) (upd H1 p (.tup [.str yes, v]))
theorem tup_gives {Ng : List Str} {x a e q yes no : Str} {sg : Scope} {g CS : Addr} {cdg : Value} {j j2 k k2 : Nat} {p1 p2 p3 p4 p5 p6 p7 p8 p9 p10 p11 : Pos} (hge : sg.names.lookup e = some .globalImplicit) (hme : X.mg e = some (.ref CS)) (hde : (e == ("__debug__" : Str)) = false)
    (h0 : ∀ f : Addr, (L2.start Ng [V.ref f])[0]? = some (some (V.ref f))) :
    GivesTo X Ng x sg g cdg [.Try [.Return (some (.Tuple [.Constant (.str yes) j2 p9, .Call (.Name a p1) [] [] p2] k p10)) p3] [.ExceptHandler (some (.Name e p4)) none [.Return (some (.Tuple [.Constant (.str no) j p5] k2 p11)) p6] p7] [] [] p8] a q (TTup X.K CS yes no) := by
  intro f c' s H Q tl act hc h
  let Z := (cxOf C8.CX0 X.prog X.w X.K X.mg X.base Ng x sg g cdg X.A X.stack s H C8.E0).nox
  have hgl : Gl Z e := hge
  have hsuite : ∀ (a : Addr) (pn : List (Addr × Obj)), PSs (Z.suite a pn) [.Return (some (.Tuple [.Constant (.str no) j p5] k2 p11)) p6] (tRet (tTup (tCons (tC (.str no)) tNil))) := fun a pn => pss_one (ps_ret (pe_tup (pa_cons pe_str pa_nil)))
  refine ⟨_, pss_one (ps_try_only (X := Z) (c := .ref CS)
      (tb := fun W D σ H => ∃ Ech : XK, (∀ cls d σ' H', Ech cls d H' → W cls d σ' H') ∧ σ[0]? = some (some (.ref f)) ∧ H c' = some (CodeO c' q) ∧ tl Ech H fun v H1 => [V.str yes, v].length ≤ sizeLine ∧ ∀ p, H1 p = none → D.rt (.ref p) (upd H1 p (.tup [.str yes, v])))
      rfl rfl ⟨hgl, hde, .inl hme⟩ LamX.takes0 (fun W pn xe tk _ => ?_) (fun a oe cls d pn _ _ => hsuite a _)), ?_⟩
  · refine ⟨fun pins s' σ H' D I h' => ?_⟩
    obtain ⟨Ech, hW, h1, h2, h3⟩ := h'
    have hp := act W pn xe Ech p1 p2 tk hW
    have hq := pss_one (ps_ret (pos := p3) (pe_tup (x1 := k) (pos := p10) (pa_cons (pe_str (x := yes) (j := j2) (pos := p9)) (pa_cons hp pa_nil))))
    exact hq.run pins s' σ H' D I ⟨h1, h2, h3⟩
  · exact ⟨fun cls _ H' => ∃ b, PySem.W.exmOne X.K cls (.ref CS) = some b ∧ (b = true → ∀ p, H' p = none → Q (.ref p) (upd H' p (.tup [.str no]))) ∧ (b = false → False), fun cls d σ' H' ⟨b, e1, e2, e3⟩ => ⟨b, e1, fun hb a _ => ⟨by show 1 ≤ sizeLine; decide, fun p hp => e2 hb p hp⟩, fun hb => e3 hb⟩, h0 f, hc, h⟩
/-- what is told of an exception -/
def HsOk (K : PySem.W.Frag) (A : Ad) (CS : Addr) (no : Str) (hs : List (Str × D)) : Prop := ∀ c d, lookupEx c hs = some d → PySem.W.exmOne K (.ref (A c)) (.ref CS) = some true ∧ d = .tuple [.str no]
theorem heard_sound {CS : Addr} {no : Str} {hs : List (Str × D)} {ev : Env → Res (R × Env)} {Q : VK} (ho : HsOk K A CS no hs) (h : RdE K A Wx (heardEv hs ev) σ H Q) :
    tLam A.T (TTup K CS "told" no) (fun E => RdE K A (fun cls d _ H => E cls d H) ev) σ H Q := by
  obtain ⟨B, ρ, T, ⟨F, O, S0⟩, g⟩ := h
  refine ⟨S0.tb.tb, fun H1 e t => ?_⟩
  have S := S0.extN e t
  refine ⟨blkB H1 F O (wipe σ []), wipeE ρ [], [], ⟨F, _, S.enter []⟩, ?_⟩
  simp only [heardEv] at g
  cases q : ev (wipeE ρ []) with
  | stuck => simp only [q] at g; exact (show False from g).elim
  | ex c ρx =>
    simp only [q] at g
    unfold Gd
    intro H2 ⟨F2, O2, S2⟩
    cases ql : lookupEx c hs with
    | none => simp only [ql] at g; exact (show False from g).elim
    | some d =>
      simp only [ql] at g
      obtain ⟨e1, e2⟩ := ho c d ql
      subst e2
      refine ⟨true, e1, fun _ p hp => ?_, fun z => by cases z⟩
      obtain ⟨F3, O3, S3⟩ := S.leave (own := []) (r := .d .none) (v := .non) (Sep.push (T := []) S2 .non) fun i z => nomatch z
      exact g _ _ (S3.drop.newTup hp (.cons (.str _) .nil))
  | ok z =>
    obtain ⟨r, ρ1⟩ := z
    simp only [q] at g
    intro v H2 ⟨F2, O2, S2⟩
    refine ⟨show 2 ≤ sizeLine by decide, fun p hp => ?_⟩
    cases qk : r.keep ρ1 with
    | none => simp only [qk] at g; exact (show False from g).elim
    | some z =>
      obtain ⟨y, ρ2⟩ := z
      simp only [qk] at g
      obtain ⟨F3, O3, S3, _⟩ := Sep.keepTop (T := []) S2 qk
      obtain ⟨F4, O4, S4⟩ := S.leave (own := []) S3 fun i z => nomatch z
      have dv : Dq K F4 v y := S4.top
      exact g _ _ (S4.drop.newTup hp (.cons (.str _) (.cons dv .nil)))
end
end Mn
set_option Elab.async false
set_option linter.all false
set_option maxRecDepth 100000
set_option maxHeartbeats 4000000
namespace Mn
open PySem PySem.Spec PyProof.Rows L2
/-! ## sets of tuples of ints, texts and such tuples -/
abbrev NK := NestedKey
mutual
/-- the value v is the key k: ints, texts, tuples alone -/
inductive KIs (h : Heap) : NK → Value → Prop
  | int (i t) : KIs h (.num i) (.int i t)
  | text (x t) : KIs h (.text x) (.str x t)
  | tup {a o vs n ks} : h.get? a = some o → o.cls = .type "tuple" → o.data = .seq vs n → KAll h ks vs.toList → KIs h (.tup ks) (.ref a)
inductive KAll (h : Heap) : List NK → List Value → Prop
  | nil : KAll h [] []
  | cons {k v ks vs} : KIs h k v → KAll h ks vs → KAll h (k :: ks) (v :: vs)
end
mutual
theorem KIs.n {h : Heap} : ∀ (k : NK) (v : Value), KIs h k v → NestedIs h k v
  | .none, _, x => by cases x
  | .num _, _, x => by cases x; exact .int _ _
  | .text _, _, x => by cases x; exact .text _ _
  | .tup ks, _, x => by
    cases x with
    | tup h1 h2 h3 h4 => exact .tup h1 h2 h3 (KAll.n ks _ h4)
theorem KAll.n {h : Heap} : ∀ (ks : List NK) (vs : List Value), KAll h ks vs → NestedAll h ks vs
  | [], _, x => by cases x; exact .nil
  | k :: ks, _, x => by
    cases x with
    | cons a b => exact .cons (KIs.n k _ a) (KAll.n ks _ b)
end
mutual
theorem KIs.at {h h' : Heap} (hk : ∀ a o vs n, h.get? a = some o → o.data = .seq vs n → h'.get? a = some o) : ∀ (k : NK) (v : Value), KIs h k v → KIs h' k v
  | .none, _, x => by cases x
  | .num _, _, x => by cases x; exact .int _ _
  | .text _, _, x => by cases x; exact .text _ _
  | .tup ks, _, x => by
    cases x with
    | tup h1 h2 h3 h4 => exact .tup (hk _ _ _ _ h1 h3) h2 h3 (KAll.at hk ks _ h4)
theorem KAll.at {h h' : Heap} (hk : ∀ a o vs n, h.get? a = some o → o.data = .seq vs n → h'.get? a = some o) : ∀ (ks : List NK) (vs : List Value), KAll h ks vs → KAll h' ks vs
  | [], _, x => by cases x; exact .nil
  | k :: ks, _, x => by
    cases x with
    | cons a b => exact .cons (KIs.at hk k _ a) (KAll.at hk ks _ b)
end
def kTup (P : Program) (w : World) (h : Heap) (k : NK) (b : Addr) : Prop := KIs h k (.ref b) ∧ k.depth ≤ 8
theorem kTup.is {P : Program} {w : World} {h : Heap} {k : NK} {b : Addr} (x : kTup P w h k b) : (nestedKind P w).is h k b := ⟨KIs.n _ _ x.1, x.2⟩
abbrev kHash (P : Program) (w : World) (k : NK) : Int := k.hash w
/-- the c-th place that a search for the hash z looks at -/
abbrev spot (t : SetTable) (z : Int) (c : Nat) : Nat := way t.mask z c
abbrev prb (t : SetTable) (z : Int) (c : Nat) : SetTable.Probe := nth t.mask (runAt t.mask (SetTable.bits z % (t.mask + 1)) (SetTable.bits z)) c
section
variable {P : Program} {w : World} {A : Around} {E : Value → Shared → Prop} {s : Shared}
mutual
theorem cls_key : ∀ (k : NK) (v : Value) (n : Nat) (A : Around) (E : Value → Shared → Prop) (s : Shared) (Q : Bool → Shared → Prop), KIs s.heap k v → k.depth ≤ n → Q false s → wpAny (model P w) A (ofAClassStatement n v) Q E s
  | .none, _, _, _, _, _, _, x, _, _ => by cases x
  | .num _, _, n, A, E, s, Q, x, _, q => by
    cases x
    have e : ofAClassStatement n (Value.int ‹Int› ‹Tok›) = pure false := by cases n <;> rfl
    rw [e]
    exact wpAny_pure q
  | .text _, _, n, A, E, s, Q, x, _, q => by
    cases x
    have e : ofAClassStatement n (Value.str ‹Str› ‹Tok›) = pure false := by cases n <;> rfl
    rw [e]
    exact wpAny_pure q
  | .tup ks, _, 0, A, E, s, Q, x, hd, q => by simp [NestedKey.depth] at hd
  | .tup ks, _, n + 1, A, E, s, Q, x, hd, q => by
    cases x with
    | @tup b ob its m _ e1 e0 e2 e3 =>
      have ty : s.TypeIs (.ref b) "tuple" := ⟨_, e1, e0⟩
      have hd' : NestedKey.depthAll ks ≤ n := by simpa [NestedKey.depth] using hd
      unfold ofAClassStatement
      refine wpAny_bind (wpAny_typeOf ty ?_)
      dsimp only
      have tt : (("tuple" : String) == "tuple") = true := by decide
      simp only [tt, if_true, Bool.not_true, Bool.false_eq_true, if_false]
      first
        | (refine wpAny_bind (wpAny_pure ?_); simp only [Bool.not_true, Bool.false_eq_true, if_false])
        | skip
      show wpAny _ _ (seqItems? (.ref b) >>= _) _ _ s
      refine wpAny_bind (wpAny_seqItems e1 e2 ?_)
      dsimp only
      refine wpAny_bind ?_
      show wpAny _ _ (forIn its _ _) _ _ s
      rw [← Array.forIn_toList]
      have all := cls_keys ks its.toList n s e3 hd'
      refine wpAny_forIn_list _ (fun left r s' => r.1 = none ∧ s' = s ∧ ∀ v, v ∈ left → ∀ (A : Around) (E : Value → Shared → Prop) (Q : Bool → Shared → Prop), Q false s → wpAny (model P w) A (ofAClassStatement n v) Q E s) _ ?_ ?_ _ _ ⟨rfl, rfl, all⟩
      · rintro v left r s' ⟨z1, rfl, z2⟩
        refine wpAny_bind (z2 v List.mem_cons_self _ _ _ ?_)
        simp only [Bool.false_eq_true, if_false]
        exact wpAny_pure ⟨rfl, rfl, fun u hu => z2 u (List.mem_cons_of_mem _ hu)⟩
      · rintro ⟨r1, r2⟩ s' ⟨z1, rfl, _⟩
        simp only at z1
        subst z1
        exact wpAny_pure q
theorem cls_keys : ∀ (ks : List NK) (vs : List Value) (n : Nat) (s : Shared), KAll s.heap ks vs → NestedKey.depthAll ks ≤ n → ∀ v, v ∈ vs → ∀ (A : Around) (E : Value → Shared → Prop) (Q : Bool → Shared → Prop), Q false s → wpAny (model P w) A (ofAClassStatement n v) Q E s
  | [], _, n, s, x, _, v, hv => by cases x; cases hv
  | k :: ks, _, n, s, x, hd, v, hv => by
    cases x with
    | cons a b =>
      simp only [NestedKey.depthAll] at hd
      intro A E Q q
      rcases List.mem_cons.mp hv with e | hv
      · rw [e]; exact cls_key k _ n A E s Q a (by omega) q
      · exact cls_keys ks _ n s b (by omega) v hv A E Q q
end
mutual
/-- whether its hash hangs on the run: whatever -/
theorem byv_key : ∀ (k : NK) (v : Value) (n : Nat) (A : Around) (E : Value → Shared → Prop) (s : Shared) (Q : Bool → Shared → Prop), KIs s.heap k v → k.depth ≤ n → (∀ c, Q c s) → wpAny (model P w) A (hashByValue n v) Q E s
  | .none, _, _, _, _, _, _, x, _, _ => by cases x
  | .num _, _, n, A, E, s, Q, x, _, q => by
    cases x
    have e : hashByValue n (Value.int ‹Int› ‹Tok›) = pure true := by cases n <;> rfl
    rw [e]
    exact wpAny_pure (q _)
  | .text _, _, n, A, E, s, Q, x, _, q => by
    cases x
    have e : hashByValue n (Value.str ‹Str› ‹Tok›) = pure false := by cases n <;> rfl
    rw [e]
    exact wpAny_pure (q _)
  | .tup ks, _, 0, A, E, s, Q, x, hd, q => by simp [NestedKey.depth] at hd
  | .tup ks, _, n + 1, A, E, s, Q, x, hd, q => by
    cases x with
    | @tup b ob its m _ e1 e0 e2 e3 =>
      have ty : s.TypeIs (.ref b) "tuple" := ⟨_, e1, e0⟩
      have hd' : NestedKey.depthAll ks ≤ n := by simpa [NestedKey.depth] using hd
      unfold hashByValue
      refine wpAny_bind (wpAny_specialOf ty F.slot_tuple_hash.lookup ?_)
      show wpAny _ _ (seqItems? (.ref b) >>= _) _ _ s
      refine wpAny_bind (wpAny_seqItems e1 e2 ?_)
      refine wpAny_bind ?_
      show wpAny _ _ (forIn its _ _) _ _ s
      rw [← Array.forIn_toList]
      have all := byv_keys ks its.toList n s e3 hd'
      refine wpAny_forIn_list _ (fun left r s' => s' = s ∧ r.1 = none ∧ ∀ v, v ∈ left → ∀ (A : Around) (E : Value → Shared → Prop) (Q : Bool → Shared → Prop), (∀ c, Q c s) → wpAny (model P w) A (hashByValue n v) Q E s) _ ?_ ?_ _ _ ⟨rfl, rfl, all⟩
      · rintro v left r s' ⟨rfl, z1, z2⟩
        refine wpAny_bind (z2 v List.mem_cons_self _ _ _ fun c => ?_)
        cases c with
        | true =>
          simp only [Bool.not_true, Bool.false_eq_true, if_false]
          exact wpAny_pure ⟨rfl, rfl, fun u hu => z2 u (List.mem_cons_of_mem _ hu)⟩
        | false =>
          simp only [Bool.not_false, if_true]
          exact wpAny_pure (wpAny_pure (q false))
      · rintro ⟨r1, r2⟩ s' ⟨rfl, z1, _⟩
        simp only at z1
        subst z1
        exact wpAny_pure (q _)
theorem byv_keys : ∀ (ks : List NK) (vs : List Value) (n : Nat) (s : Shared), KAll s.heap ks vs → NestedKey.depthAll ks ≤ n → ∀ v, v ∈ vs → ∀ (A : Around) (E : Value → Shared → Prop) (Q : Bool → Shared → Prop), (∀ c, Q c s) → wpAny (model P w) A (hashByValue n v) Q E s
  | [], _, n, s, x, _, v, hv => by cases x; cases hv
  | k :: ks, _, n, s, x, hd, v, hv => by
    cases x with
    | cons a b =>
      simp only [NestedKey.depthAll] at hd
      intro A E Q q
      rcases List.mem_cons.mp hv with e | hv
      · rw [e]; exact byv_key k _ n A E s Q a (by omega) q
      · exact byv_keys ks _ n s b (by omega) v hv A E Q q
end
theorem kTup_class {k : NK} {b : Addr} {Q : Bool → Shared → Prop} (x : kTup P w s.heap k b) (q : Q false s) : wpAny (model P w) A (ofAClassStatement 8 (.ref b)) Q E s := cls_key k _ 8 A E s Q x.1 x.2 q
theorem kTup_byVal {k : NK} {b : Addr} {Q : Bool → Shared → Prop} (x : kTup P w s.heap k b) (q : ∀ c, Q c s) : wpAny (model P w) A (hashByValue 8 (.ref b)) Q E s := byv_key k _ 8 A E s Q x.1 x.2 q
/-- a search among such tuples shows nothing of the table -/
theorem kTup_seen {k : NK} {b : Addr} {Q : Bool → Shared → Prop} (x : kTup P w s.heap k b) {ys : List Value} (hy : ∀ y, y ∈ ys → ∃ m c, y = Value.ref c ∧ kTup P w s.heap m c) (q : Q false s) : wpAny (model P w) A (searchCouldBeSeen (.ref b) ys) Q E s := by
  unfold searchCouldBeSeen
  refine wpAny_bind ?_
  refine wpAny_forIn_list _ (fun left r s' => r.1 = none ∧ s' = s ∧ ∀ y, y ∈ left → ∃ m c, y = Value.ref c ∧ kTup P w s.heap m c) _ ?_ ?_ _ _ ⟨rfl, rfl, hy⟩
  · rintro y left r s' ⟨z1, rfl, z2⟩
    obtain ⟨m, c, rfl, xc⟩ := z2 y List.mem_cons_self
    have more := fun u (hu : u ∈ left) => z2 u (List.mem_cons_of_mem _ hu)
    dsimp only
    by_cases same : (b == c || (carriedByValue (.ref b) && carriedByValue (.ref c))) = true
    · exact wp_if_pos same (wpAny_pure ⟨rfl, rfl, more⟩)
    · refine wp_if_neg same (wpAny_bind ((nestedKind P w).quiet x.is ?_))
      simp only [Bool.not_true, Bool.false_eq_true, if_false]
      refine wpAny_bind ((nestedKind P w).quiet xc.is ?_)
      simp only [Bool.not_true, Bool.false_eq_true, if_false]
      refine wpAny_bind (kTup_class x ?_)
      simp only [Bool.false_eq_true, if_false]
      refine wpAny_bind (kTup_class xc ?_)
      simp only [Bool.false_eq_true, if_false]
      exact wpAny_pure ⟨rfl, rfl, more⟩
  · rintro ⟨r1, r2⟩ s' ⟨z1, rfl, _⟩
    simp only at z1
    subst z1
    exact wpAny_pure q
/-! ### the set -/
abbrev Rows := List (Addr × NK)
def rowV (P : Program) (w : World) (L : Rows) : List (Int × Value) := L.map fun p => (kHash P w p.2, Value.ref p.1)
structure KSet (P : Program) (w : World) (h : Heap) (a : Addr) (L : Rows) (es : Array (Int × Value)) (ep : Nat) (t : SetTable) : Prop where
  obj : ∃ o, h.get? a = some o ∧ o.ExactSet ∧ o.data = .set es ep t
  ent : es.toList = rowV P w L
  tab : TabOk t (L.map fun p => kHash P w p.2)
  nod : (L.map (·.2)).Nodup
  tup : ∀ p, p ∈ L → kTup P w h p.2 p.1
  led : w.params.followText "set-order" = true ∨ t.led = true
  room : L.length * 5 < t.mask * 3
  few : L.length < 64
variable {a : Addr} {L : Rows} {es : Array (Int × Value)} {ep : Nat} {t : SetTable}
theorem rowV_size (h : es.toList = rowV P w L) : es.size = L.length := by
  have := congrArg List.length h
  simpa [rowV] using this
theorem KSet.size (R : KSet P w s.heap a L es ep t) : es.size = L.length := rowV_size R.ent
theorem fits_of {n : Nat} (T : TabOk t (L.map fun p => kHash P w p.2)) (hn : n = L.length) (hm : L.length ≤ t.mask) : t.fits n = true := by
  have h1 := T.sz
  rw [List.length_map] at h1
  subst hn
  simp only [SetTable.fits, SetTable.fill, T.dm, Bool.and_eq_true, beq_iff_eq, decide_eq_true_eq]
  show t.place.size = L.length ∧ t.place.size + 0 ≤ t.mask
  omega
theorem KSet.fits (R : KSet P w s.heap a L es ep t) : t.fits es.size = true := fits_of R.tab R.size (by have := R.room; omega)
theorem KSet.row (R : KSet P w s.heap a L es ep t) {i : Nat} {p : Addr × NK} (h : L[i]? = some p) : es[i]? = some (kHash P w p.2, Value.ref p.1) := by
  rw [← Array.getElem?_toList, R.ent]
  simp [rowV, h]
theorem KSet.here (R : KSet P w s.heap a L es ep t) : ¬ t.gaveWay = true := by
  unfold SetTable.gaveWay
  rw [mask_odd R.tab.mok]
  decide
theorem prb_dummy (z : Int) : ∀ c, (prb t z c).dummy = none := by
  have go : ∀ (n : Nat) (p : SetTable.Probe), p.dummy = none → (nth t.mask p n).dummy = none := by
    intro n
    induction n with
    | zero => exact fun p h => h
    | succ n ih => exact fun p h => ih _ (by unfold adv; split <;> exact h)
  exact fun c => go c _ rfl
theorem prb_add (z : Int) (c q : Nat) : nth t.mask (prb t z c) q = prb t z (c + q) := (nth_add t.mask c _ q).symm
/-- the search, from its c-th step on; K: the first empty place on its way -/
theorem KSet.find (R : KSet P w s.heap a L es ep t) {x : Addr} {k : NK} (hx : kTup P w s.heap k x) (hu : A.units + 8 < cLine) {K : Nat} (hKf : K < 10 * SetTable.turns t.mask) (hK : spot t (kHash P w k) K ∉ t.place.toList) (hKb : ∀ c, c < K → spot t (kHash P w k) c ∈ t.place.toList)
    {Q : SetFound → Shared → Prop} (hin : k ∈ L.map (·.2) → Q (.there none) s) (hout : k ∉ L.map (·.2) → Q (.free (spot t (kHash P w k) K) false) s) :
    ∀ (fuel c : Nat) (at_ : Option SetTable.Probe), at_.getD (t.probeStart (kHash P w k)) = prb t (kHash P w k) c → c ≤ K → K - c < fuel → (∀ (i : Nat) p, L[i]? = some p → p.2 = k → ∃ d, c ≤ d ∧ d < K ∧ t.place.toList[i]? = some (spot t (kHash P w k) d)) →
      wpAny (model P w) A (setSearchFrom a (.ref x) (kHash P w k) true fuel at_) Q E s
  | 0, c, at_, _, _, hf, _ => absurd hf (Nat.not_lt_zero _)
  | fuel + 1, c, at_, hst, hc, hf, hre => by
    obtain ⟨o, ho, hex, hd⟩ := R.obj
    generalize hz : kHash P w k = z at *
    have hj : ∀ q, (nth t.mask (prb t z c) q).j = spot t z (c + q) := fun q => congrArg SetTable.Probe.j (prb_add z c q)
    have hs : ∀ (i : Nat) p, L[i]? = some p → (es[i]?.map (·.1)).getD 0 = kHash P w p.2 := fun i p hp => by rw [R.row hp]; rfl
    have spec := go_spec t R.tab.ris R.tab.dm (fun i => (es[i]?.map (·.1)).getD 0) z (10 * SetTable.turns t.mask) (K - c) (prb t z c) (prb_dummy z c) (by omega) (fun q hq => by rw [hj]; exact hKb (c + q) (by omega)) (by rw [hj, show c + (K - c) = K by omega]; exact hK)
    rw [setSearchFrom_succ]
    refine wpAny_bind (wpAny_setState_of ho hd R.fits ?_)
    dsimp only
    refine wp_if_neg R.here ?_
    first
      | refine wpAny_bind (wpAny_pure ?_)
      | skip
    rw [hst]
    rcases spec with ⟨q, i, hq, hi, hh, hno, hpr⟩ | ⟨hno, hpr⟩
    · rw [show t.probe (fun i => (es[i]?.map (·.1)).getD 0) z (prb t z c) = some (.candidate (spot t z (c + q)) i (prb t z (c + (q + 1)))) from by rw [← hj, ← prb_add]; exact hpr]
      dsimp only
      rw [hj] at hi
      have hil : i < L.length := by
        have h1 := (List.getElem?_eq_some_iff.mp hi).1
        have h2 := R.tab.sz
        rw [List.length_map] at h2
        rw [Array.length_toList] at h1
        omega
      obtain ⟨p, hp⟩ : ∃ p, L[i]? = some p := ⟨_, List.getElem?_eq_getElem hil⟩
      have hmem : p ∈ L := List.mem_of_getElem? hp
      have next : wpAny (model P w) A (searchRest a (.ref x) z true fuel es t (spot t z (c + q)) i (prb t z (c + (q + 1)))) Q E s := by
        unfold searchRest
        rw [R.row hp]
        dsimp only
        refine wpAny_bind (wpAny_holding ((nestedKind P w).eqBool hu (R.tup p hmem).is hx.is ?_))
        refine wpAny_bind (wpAny_setState_of ho hd R.fits ?_)
        dsimp only
        by_cases eq : p.2 = k
        · exact wp_if_pos (by simp [eq]) (wpAny_pure (hin (List.mem_map.mpr ⟨p, hmem, eq⟩)))
        · refine wp_if_neg (by simp [eq]) ?_
          first
            | refine wpAny_bind (wpAny_pure ?_)
            | skip
          rw [sameMem]
          dsimp only
          have live : t.slot (spot t z (c + q)) = .live i := slot_live R.tab.ris hi
          simp only [if_true, live, R.row hp]
          refine wpAny_bind (wpAny_isSame_ref_self (wpAny_bind (wpAny_pure ?_)))
          simp only [if_true]
          refine wp_if_neg (by simp [eq]) ?_
          subst hz
          refine R.find hx hu hKf hK hKb hin hout fuel (c + (q + 1)) _ rfl (by omega) (by omega) fun i' p' h' e' => ?_
          obtain ⟨d, d1, d2, d3⟩ := hre i' p' h' e'
          refine ⟨d, ?_, d2, d3⟩
          rcases Nat.lt_trichotomy d (c + q) with lt | ed | gt
          · exact absurd ((hs i' p' h').trans (by rw [e'])) (hno (d - c) i' (by omega) (by rw [hj, show c + (d - c) = d by omega]; exact d3))
          · rw [ed] at d3
            have live' := slot_live R.tab.ris d3
            rw [live] at live'
            injection live' with ei
            subst ei
            rw [hp] at h'
            cases h'
            exact absurd e' eq
          · omega
      cases led : t.led with
      | true => exact wp_if_neg (by simp) next
      | false =>
        refine wp_if_pos (by simp) (wpAny_bind (kTup_seen hx (fun y hy => ?_) (wp_if_neg (by decide) ?_)))
        · simp only [List.mem_map, Array.mem_toList_iff, Array.mem_filter] at hy
          obtain ⟨e, ⟨he, _⟩, rfl⟩ := hy
          have he2 : e ∈ es.toList := Array.mem_toList_iff.mpr he
          rw [R.ent] at he2
          obtain ⟨p2, hp2, rfl⟩ := List.mem_map.mp he2
          exact ⟨p2.2, p2.1, rfl, R.tup p2 hp2⟩
        · exact next
    · rw [show t.probe (fun i => (es[i]?.map (·.1)).getD 0) z (prb t z c) = some (.empty (spot t z K) none) from by
        rw [show spot t z K = (nth t.mask (prb t z c) (K - c)).j from by rw [hj, show c + (K - c) = K by omega]]
        exact hpr]
      dsimp only
      refine wpAny_pure (hout fun hm => ?_)
      obtain ⟨p', hp', e'⟩ := List.mem_map.mp hm
      obtain ⟨i', hi', rfl⟩ := List.getElem_of_mem hp'
      obtain ⟨d, d1, d2, d3⟩ := hre i' _ (List.getElem?_eq_getElem hi') e'
      exact hno (d - c) i' (by omega) (by rw [hj, show c + (d - c) = d by omega]; exact d3) ((hs i' _ (List.getElem?_eq_getElem hi')).trans (by rw [e', hz]))
end
end Mn
set_option Elab.async false
set_option linter.all false
set_option maxRecDepth 100000
set_option maxHeartbeats 4000000
namespace Mn
open PySem PySem.Spec PyProof.Rows L2
section
variable {P : Program} {w : World} {A : Around} {E : Value → Shared → Prop} {s : Shared} {a : Addr} {L : Rows} {es : Array (Int × Value)} {ep : Nat} {t : SetTable}
theorem KSet.search (R : KSet P w s.heap a L es ep t) {x : Addr} {k : NK} (hx : kTup P w s.heap k x) (hu : A.units + 8 < cLine) {Q : SetFound → Shared → Prop} (hin : k ∈ L.map (·.2) → Q (.there none) s)
    (hout : ∀ K, k ∉ L.map (·.2) → spot t (kHash P w k) K ∉ t.place.toList → (∀ c, c < K → spot t (kHash P w k) c ∈ t.place.toList) → Q (.free (spot t (kHash P w k) K) false) s) :
    wpAny (model P w) A (setSearch a (.ref x) (kHash P w k) true) Q E s := by
  obtain ⟨K, hKf, hK, hKb⟩ := R.tab.first (by rw [List.length_map]; have := R.room; omega) (kHash P w k)
  have small : 10 * SetTable.turns t.mask ≤ 1420 := by
    unfold SetTable.turns
    rcases R.tab.mok with e | e | e <;> omega
  unfold setSearch
  refine R.find hx hu hKf hK hKb hin (fun hn => hout K hn hK hKb) 100000 0 none rfl (Nat.zero_le _) (by omega) fun i p hp e => ?_
  have h1 : i < L.length := (List.getElem?_eq_some_iff.mp hp).1
  have h2 := R.tab.sz
  rw [List.length_map] at h2
  have hil : i < t.place.toList.length := by rw [Array.length_toList]; omega
  obtain ⟨c, hc, ec⟩ := R.tab.before (h := kHash P w k) hK (i := i) (by rw [List.getElem?_map, hp, ← e]; rfl) (List.getElem?_eq_getElem hil)
  exact ⟨c, Nat.zero_le _, hc, (List.getElem?_eq_getElem hil).trans (congrArg some ec.symm)⟩
/-- what is written at the set's address does not touch the tuples -/
theorem kTup_other {h h' : Heap} {k : NK} {b : Addr} {o : Obj} (x : kTup P w h k b) (ho : h.get? a = some o) (hd : o.data = .set es ep t) (hs : Heap.SameBut a h h') : kTup P w h' k b :=
  ⟨KIs.at (fun c ob vs n hb hc => by
    refine (hs.2 c fun e => ?_).trans hb
    subst e
    rw [ho] at hb
    cases hb
    rw [hd] at hc
    cases hc) k _ x.1, x.2⟩
theorem kTup_keep {h h' : Heap} {k : NK} {b : Addr} (x : kTup P w h k b) (kp : ∀ c o, h.get? c = some o → h'.get? c = some o) : kTup P w h' k b :=
  ⟨KIs.at (fun c ob vs n hb _ => kp c ob hb) k _ x.1, x.2⟩
theorem KSet.keep {h h' : Heap} (R : KSet P w h a L es ep t) (ha : ∀ o, h.get? a = some o → h'.get? a = some o) (ht : ∀ p, p ∈ L → kTup P w h' p.2 p.1) : KSet P w h' a L es ep t := by
  obtain ⟨o, ho, r⟩ := R.obj
  exact ⟨⟨o, ha o ho, r⟩, R.ent, R.tab, R.nod, ht, R.led, R.room, R.few⟩
/-- rows taken in another order -/
theorem rows_order (he : es.toList = rowV P w L) {order : Array Nat} (hp : order.toList.Perm (List.range L.length)) :
    ∃ L2 : Rows, (order.filterMap (es[·]?)).toList = rowV P w L2 ∧ L2.Perm L ∧ (L2.map fun p => kHash P w p.2) = order.toList.map fun i => (es.map (·.1)).getD i 0 := by
  have sz := rowV_size he
  have at_ : ∀ (i : Nat) (p : Addr × NK), L[i]? = some p → es[i]? = some (kHash P w p.2, Value.ref p.1) := fun i p hp => by
    rw [← Array.getElem?_toList, he]
    simp [rowV, hp]
  have each : ∀ l : List Nat, (∀ i, i ∈ l → i < L.length) → l.filterMap (fun i => es[i]?) = rowV P w (l.filterMap fun i => L[i]?) ∧ ((l.filterMap fun i => L[i]?).map fun p => kHash P w p.2) = l.map fun i => (es.map (·.1)).getD i 0 := by
    intro l
    induction l with
    | nil => exact fun _ => ⟨rfl, rfl⟩
    | cons i l ih =>
      intro hl
      obtain ⟨h1, h2⟩ := ih fun j hj => hl j (List.mem_cons_of_mem _ hj)
      obtain ⟨p, hi⟩ : ∃ p, L[i]? = some p := ⟨_, List.getElem?_eq_getElem (hl i List.mem_cons_self)⟩
      have ei := at_ i _ hi
      refine ⟨?_, ?_⟩
      · rw [List.filterMap_cons_some ei, List.filterMap_cons_some hi, h1]
        rfl
      · rw [List.filterMap_cons_some hi, List.map_cons, List.map_cons, h2]
        congr 1
        simp [Array.getD_eq_getD_getElem?, ei]
  obtain ⟨g1, g2⟩ := each order.toList fun i hi => List.mem_range.mp (hp.mem_iff.mp hi)
  refine ⟨order.toList.filterMap fun i => L[i]?, by simpa using g1, ?_, g2⟩
  have all : ∀ n, n ≤ L.length → (List.range n).filterMap (fun i => L[i]?) = L.take n := by
    intro n
    induction n with
    | zero => exact fun _ => rfl
    | succ n ih =>
      intro hn
      rw [List.range_succ, List.filterMap_append, ih (Nat.le_of_succ_le hn), List.take_succ, List.getElem?_eq_getElem hn, List.filterMap_cons_some (List.getElem?_eq_getElem hn)]
      rfl
  have := hp.filterMap fun i => L[i]?
  rw [all _ (Nat.le_refl _), List.take_length] at this
  exact this
/-- laid anew in a larger table -/
theorem kset_relay {o : Obj} (ho : s.heap.get? a = some o) (hex : o.ExactSet) (hd : o.data = .set es ep t) (he : es.toList = rowV P w L) (T : TabOk t (L.map fun p => kHash P w p.2)) (hm : L.length ≤ t.mask) (nod : (L.map (·.2)).Nodup) (tup : ∀ p, p ∈ L → kTup P w s.heap p.2 p.1)
    (led : w.params.followText "set-order" = true ∨ t.led = true) (few : L.length < 64) {want M : Nat} (h1 : SetTable.sizeAbove want - 1 = M) (h2 : MaskOk M) (h3 : SetTable.sizeAbove want ≤ 128) (h4 : L.length * 5 < M * 3) {Q : Unit → Shared → Prop}
    (q : ∀ h' L' es' ep' t', Heap.SameBut a s.heap h' → KSet P w h' a L' es' ep' t' → L'.Perm L → Q () { s with heap := h' }) : wpAny (model P w) A (setRelay a want) Q E s := by
  have sz := rowV_size he
  obtain ⟨t', order, e, hp, T', em, el, _, _⟩ := relaid_ok t (hs := es.map (·.1)) (wanted := want) h1 h2 (by rw [Array.size_map, sz]; omega)
  rw [Array.size_map, sz] at hp
  obtain ⟨L2, r1, r2, r3⟩ := rows_order he hp
  rw [← r3] at T'
  have s2 : (order.filterMap (es[·]?)).size = es.size := by rw [rowV_size r1, r2.length_eq, sz]
  rw [setRelay_eq]
  refine wpAny_bind (wpAny_setState_of ho hd (fits_of T sz hm) ?_)
  dsimp only
  refine wp_if_neg (by rw [sizeLine_eq]; omega) ?_
  first
    | refine wpAny_bind (wpAny_pure ?_)
    | skip
  rw [e]
  dsimp only
  refine wpAny_bind (wp_if_neg (by rw [s2]; simp) ?_)
  first
    | refine wpAny_bind (wpAny_pure ?_)
    | skip
  refine wpAny_pure ?_
  dsimp only
  refine wpAny_storeSet_of ho hd ?_ (by rw [s2, sz, sizeLine_eq]; omega)
  have sb : Heap.SameBut a s.heap (s.heap.update a (Obj.putSet (order.filterMap (es[·]?)) t')) := Heap.SameBut.update ..
  exact q _ L2 _ (ep + 1) t' sb ⟨⟨_, store_at ho hd, ⟨hex.1, hex.2.1, hex.2.2⟩, rfl⟩, r1, T', (r2.map (·.2)).nodup_iff.mpr nod, fun p hp => kTup_other (tup p (r2.mem_iff.mp hp)) ho hd sb, by rw [el]; exact led, by rw [r2.length_eq, em]; exact h4, by rw [r2.length_eq]; exact few⟩ r2
/-- one is put in -/
theorem KSet.add (R : KSet P w s.heap a L es ep t) {x : Addr} {k : NK} (hx : kTup P w s.heap k x) (hu : A.units + 8 < cLine) (few : L.length + 1 < 64) {Q : Bool → Shared → Prop}
    (q : ∀ b h' L' es' ep' t', Heap.SameBut a s.heap h' → KSet P w h' a L' es' ep' t' → (k ∈ L.map (·.2) → L' = L) → (k ∉ L.map (·.2) → L'.Perm ((x, k) :: L)) → Q b { s with heap := h' }) : wpAny (model P w) A (setAddHashed a (.ref x) (kHash P w k)) Q E s := by
  obtain ⟨o, ho, hex, hd⟩ := R.obj
  have sz := R.size
  have room := R.room
  unfold setAddHashed
  refine wpAny_holding ?_
  rw [show (100000 : Nat) = 99999 + 1 from rfl, setAddHashedIn_succ]
  refine wpAny_bind (wpAny_setState_of ho hd R.fits ?_)
  dsimp only
  refine wp_if_neg (by simp [byScan, Value.scannable]) ?_
  first
    | refine wpAny_bind (wpAny_pure ?_)
    | skip
  refine wpAny_bind (R.search hx hu (fun hm => ?_) fun K hm hK hb => ?_)
  · dsimp only
    exact wpAny_pure (q false s.heap L es ep t (Heap.SameBut.refl a s.heap) R (fun _ => rfl) fun z => absurd hm z)
  · dsimp only
    refine wpAny_bind (wpAny_setState_of ho hd R.fits ?_)
    dsimp only
    obtain ⟨q1, q2, q3, q4, q5, q6, _, _, q9⟩ := R.tab.put hK hb
    generalize hpt : t.put (spot t (kHash P w k) K) = pt at q1 q3 q4 q5 q6 q9 ⊢
    obtain ⟨t1, p⟩ := pt
    dsimp only at q1 q3 q4 q5 q6 q9 ⊢
    subst q1
    -- whatever its hash hangs on: the table but for that word
    have rest : ∀ t2 : SetTable, t2.place = t1.place → t2.dummies = t1.dummies → t2.mask = t1.mask → t2.led = t1.led →
        wpAny (model P w) A (do
          storeSet a (SetTable.insertAt es (SetTable.below t.place (spot t (kHash P w k) K)) (kHash P w k, Value.ref x)) t2
          if !false && t2.tooFull then setRelay a (SetTable.grown (es.size + 1))
          return true) Q E s := fun t2 g1 g2 g3 g4 => by
      have hin : (SetTable.insertAt es (SetTable.below t.place (spot t (kHash P w k) K)) (kHash P w k, Value.ref x)).toList = rowV P w (L.take (SetTable.below t.place (spot t (kHash P w k) K)) ++ (x, k) :: L.drop (SetTable.below t.place (spot t (kHash P w k) K))) := by
        rw [SetTable.toList_insertAt, R.ent]
        simp [rowV]
      generalize SetTable.below t.place (spot t (kHash P w k) K) = i at q2 q3 hin ⊢
      have pm : (L.take i ++ (x, k) :: L.drop i).Perm ((x, k) :: L) := by
        have := List.perm_middle (l₁ := L.take i) (a := (x, k)) (l₂ := L.drop i)
        rwa [List.take_append_drop] at this
      have T1 : TabOk t2 ((L.take i ++ (x, k) :: L.drop i).map fun p => kHash P w p.2) := by
        have e : ((L.take i ++ (x, k) :: L.drop i).map fun p => kHash P w p.2) = (L.map fun p => kHash P w p.2).take i ++ kHash P w k :: (L.map fun p => kHash P w p.2).drop i := by simp
        rw [e]
        obtain ⟨a1, a2, a3, a4, a5, a6⟩ := q3
        refine ⟨by rw [g1]; exact a1, by rw [g2]; exact a2, by rw [g1]; exact a3, by rw [g3]; exact a4, by rw [g1, g3]; exact a5, ?_⟩
        rw [g1, g3]
        exact a6
      have tf : t2.tooFull = t1.tooFull := by simp [SetTable.tooFull, SetTable.fill, g1, g2, g3]
      generalize hes : SetTable.insertAt es i (kHash P w k, Value.ref x) = es1 at hin ⊢
      generalize L.take i ++ (x, k) :: L.drop i = L1 at pm hin T1
      have len : L1.length = L.length + 1 := pm.length_eq
      have sz1 : es1.size = L.length + 1 := (rowV_size hin).trans len
      have nod1 : (L1.map (·.2)).Nodup := (pm.map (·.2)).nodup_iff.mpr (by rw [List.map_cons]; exact List.nodup_cons.mpr ⟨hm, R.nod⟩)
      refine wpAny_bind (wpAny_storeSet_of ho hd ?_ (by rw [sz1, sizeLine_eq]; omega))
      have sb : Heap.SameBut a s.heap (s.heap.update a (Obj.putSet es1 t2)) := Heap.SameBut.update ..
      have ho1 := store_at (es' := es1) (t' := t2) ho hd
      generalize s.heap.update a (Obj.putSet es1 t2) = h1 at sb ho1 ⊢
      have tup1 : ∀ p, p ∈ L1 → kTup P w h1 p.2 p.1 := fun p hp => by
        rcases List.mem_cons.mp (pm.mem_iff.mp hp) with rfl | hp
        · exact kTup_other hx ho hd sb
        · exact kTup_other (R.tup p hp) ho hd sb
      have led1 : w.params.followText "set-order" = true ∨ t2.led = true := by rw [g4, q5]; exact R.led
      have fill : t1.tooFull = decide ((L.length + 1) * 5 ≥ t1.mask * 3) := by
        unfold SetTable.tooFull
        rw [q9, List.length_map]
      by_cases full : t2.tooFull = true
      · have big : (L.length + 1) * 5 ≥ t.mask * 3 := by
          rw [tf, fill, decide_eq_true_eq, q4] at full
          exact full
        have two : (t.mask = 7 ∧ L.length = 4) ∨ (t.mask = 31 ∧ L.length = 18) := by
          rcases R.tab.mok with e | e | e
          · exact .inl ⟨e, by omega⟩
          · exact .inr ⟨e, by omega⟩
          · omega
        have m1 : L1.length ≤ t2.mask := by
          rw [g3, q4, len]
          rcases two with ⟨e, e2⟩ | ⟨e, e2⟩ <;> omega
        have go : ∀ M, SetTable.sizeAbove (SetTable.grown (es.size + 1)) - 1 = M → MaskOk M → SetTable.sizeAbove (SetTable.grown (es.size + 1)) ≤ 128 → L1.length * 5 < M * 3 →
            wpAny (model P w) A (setRelay a (SetTable.grown (es.size + 1))) (fun _ s' => wpAny (model P w) A (pure true) Q E s') E { s with heap := h1 } := fun M b1 b2 b3 b4 =>
          kset_relay (s := { s with heap := h1 }) ho1 ⟨hex.1, hex.2.1, hex.2.2⟩ rfl hin T1 m1 nod1 tup1 led1 (by rw [len]; exact few) b1 b2 b3 b4 fun h2 L2 es2 ep2 t3 sb2 R2 pm2 =>
            wpAny_pure (q true h2 L2 es2 ep2 t3 (sb.trans sb2) R2 (fun z => absurd z hm) fun _ => pm2.trans pm)
        have run : wpAny (model P w) A (setRelay a (SetTable.grown (es.size + 1))) (fun _ s' => wpAny (model P w) A (pure true) Q E s') E { s with heap := h1 } := by
          rcases two with ⟨_, e2⟩ | ⟨_, e2⟩
          · exact go 31 (by rw [sz, e2, size_20]) (.inr (.inl rfl)) (by rw [sz, e2, size_20]; decide) (by omega)
          · exact go 127 (by rw [sz, e2, size_76]) (.inr (.inr rfl)) (by rw [sz, e2, size_76]; decide) (by omega)
        first
          | exact wpAny_bind (wp_if_pos (by simp [full]) run)
          | exact wp_if_pos (by simp [full]) (wpAny_bind run)
      · have fin : Q true { s with heap := h1 } := q true h1 L1 es1 (ep + 1) t2 sb ⟨⟨_, ho1, ⟨hex.1, hex.2.1, hex.2.2⟩, rfl⟩, hin, T1, nod1, tup1, led1, by
          rw [tf, fill, decide_eq_true_eq, q4] at full
          rw [len, g3, q4]
          omega, by rw [len]; exact few⟩ (fun z => absurd z hm) fun _ => pm
        first
          | exact wpAny_bind (wp_if_neg (by simp [full]) (wpAny_pure (wpAny_pure fin)))
          | exact wp_if_neg (by simp [full]) (wpAny_pure fin)
    have go : ∀ c : Bool, wpAny (model P w) A (do
          storeSet a (SetTable.insertAt es (SetTable.below t.place (spot t (kHash P w k) K)) (kHash P w k, Value.ref x)) (if c = true then t1 else { t1 with plain := false })
          if !false && (if c = true then t1 else { t1 with plain := false }).tooFull then setRelay a (SetTable.grown (es.size + 1))
          return true) Q E s := fun c => by
      cases c with
      | true => exact rest t1 rfl rfl rfl rfl
      | false => exact rest { t1 with plain := false } rfl rfl rfl rfl
    cases pl : t1.plain with
    | true =>
      first
        | exact wpAny_bind (wp_if_pos (by simp) (kTup_byVal hx fun c => go c))
        | exact wp_if_pos (by simp) (wpAny_bind (kTup_byVal hx fun c => go c))
    | false =>
      first
        | exact wpAny_bind (wp_if_neg (by simp) (wpAny_pure (go true)))
        | exact wp_if_neg (by simp) (wpAny_bind (wpAny_pure (go true)))
        | exact wp_if_neg (by simp) (go true)
end
end Mn
set_option Elab.async false
set_option linter.all false
set_option maxRecDepth 100000
set_option maxHeartbeats 4000000
namespace Mn
open PySem PySem.Spec PyProof.Rows L2
/-- what the set has of the first i items -/
structure Taken (ks : Rows) (i : Nat) (L : Rows) : Prop where
  sub : ∀ p, p ∈ L → p ∈ ks.take i
  all : ∀ p, p ∈ ks.take i → p.2 ∈ L.map (·.2)
  len : L.length ≤ i
theorem take_one {α : Type} {l : List α} {i : Nat} {x : α} (h : l[i]? = some x) : l.take (i + 1) = l.take i ++ [x] := by
  rw [List.take_succ, h]
  rfl
theorem Taken.old {ks L : Rows} {i : Nat} {x : Addr × NK} (g : Taken ks i L) (h : ks[i]? = some x) (hm : x.2 ∈ L.map (·.2)) : Taken ks (i + 1) L := by
  refine ⟨fun p hp => ?_, fun p hp => ?_, Nat.le_succ_of_le g.len⟩ <;> rw [take_one h] at *
  · exact List.mem_append_left _ (g.sub p hp)
  · rcases List.mem_append.mp hp with z | z
    · exact g.all p z
    · cases List.mem_singleton.mp z
      exact hm
theorem Taken.new {ks L L' : Rows} {i : Nat} {x : Addr × NK} (g : Taken ks i L) (h : ks[i]? = some x) (pm : L'.Perm (x :: L)) : Taken ks (i + 1) L' := by
  refine ⟨fun p hp => ?_, fun p hp => ?_, by rw [pm.length_eq]; exact Nat.succ_le_succ g.len⟩
  · rw [take_one h]
    exact (List.mem_cons.mp (pm.mem_iff.mp hp)).elim (fun z => List.mem_append_right _ (by rw [z]; exact List.mem_singleton_self x)) fun z => List.mem_append_left _ (g.sub p z)
  · rw [take_one h] at hp
    refine (pm.map (·.2)).mem_iff.mpr ?_
    rcases List.mem_append.mp hp with z | z
    · exact List.mem_cons_of_mem _ (g.all p z)
    · cases List.mem_singleton.mp z
      exact List.mem_cons_self
section
variable {P : Program} {w : World} {A : Around} {E : Value → Shared → Prop} {s : Shared} {a : Addr} {L : Rows} {es : Array (Int × Value)} {ep : Nat} {t : SetTable}
abbrev newSet (w : World) : Obj := { cls := .type "set", dict := none, data := .set #[] 0 (.fresh 0 0 (!w.params.followText "set-order")) }
theorem kset_empty {h : Heap} (ho : h.get? a = some (newSet w)) : KSet P w h a [] #[] 0 (.fresh 0 0 (!w.params.followText "set-order")) where
  obj := ⟨_, ho, ⟨rfl, rfl, rfl⟩, rfl⟩
  ent := rfl
  tab := ⟨List.Pairwise.nil, rfl, rfl, .inl rfl, fun x hx => (by cases hx), fun i h j hi => (by simp at hi)⟩
  nod := List.nodup_nil
  tup := fun p hp => (by cases hp)
  led := by cases h : w.params.followText "set-order" <;> simp [SetTable.fresh]
  room := show 0 * 5 < 7 * 3 by decide
  few := show 0 < 64 by decide
/-- the loop that puts in what an iterator gives -/
theorem kset_loop {I : Addr} {fp wr : List Addr} {G : Array GenState → Array GenState → Prop} {n : Nat} {Pv : Nat → Value → Prop} {St : Nat → Shared → Prop} {R : Result → Shared → Prop} (W : WalksS P w A.in1 I fp wr G n Pv St) (S : Addr) (nS : S ∉ fp) (ks : Rows) (hn : n = ks.length)
    (few : ks.length < 64) (val : ∀ i v, Pv i v → ∃ p, ks[i]? = some p ∧ v = .ref p.1) (h0 : Heap) (hk : ∀ p, p ∈ ks → kTup P w h0 p.2 p.1) (hS : h0.get? S = none) (hw : ∀ b, b ∈ wr → h0.get? b = none) (hu : A.in1.units + 8 < cLine) :
    ∀ (m i : Nat) (s : Shared), n - i = m → i ≤ n → St i s → (∀ b o, h0.get? b = some o → s.heap.get? b = some o) → (∃ L es ep t, KSet P w s.heap S L es ep t ∧ Taken ks i L) →
      (∀ s' L es ep t, Moved (S :: wr) G s s' → KSet P w s'.heap S L es ep t → Taken ks n L → (∀ b o, h0.get? b = some o → s'.heap.get? b = some o) → R (.ok (.ret .none)) s') →
      codeAny (model P w) A (.builtin "set.update.loop" ⟨[.ref S, .ref I], []⟩) R s := by
  have more : ∀ b, b ∈ wr → b ∈ S :: wr := fun b hb => List.mem_cons_of_mem _ hb
  have nSw : S ∉ wr := fun z => nS (W.sub _ z)
  have kp : ∀ {s s' : Shared}, Moved wr G s s' → (∀ b o, h0.get? b = some o → s.heap.get? b = some o) → ∀ b o, h0.get? b = some o → s'.heap.get? b = some o := fun mv k b o e => mv.heap b o (fun hb => by rw [hw b hb] at e; cases e) (k b o e)
  have inks : ∀ {i : Nat} {L : Rows}, Taken ks i L → ∀ p, p ∈ L → p ∈ ks := fun g p hp => List.mem_of_mem_take (g.sub p hp)
  intro m
  induction m with
  | zero =>
    intro i s hm hi hst k ⟨L, es, ep, t, R0, g⟩ fin
    cases (show i = n by omega)
    refine codeAny_builtin F.entry_set_update_loop ?_
    rw [Around.under_plainId F.plain_set_update_loop _]
    show wpAny _ A.in1 (pyNext (.ref I) >>= _) _ _ s
    refine wpAny_bind (W.done s _ _ hst fun s' mv => ?_)
    show wpAny _ A.in1 (ret Value.none) _ _ s'
    exact wpAny_pure (fin s' L es ep t (mv.mono more) (R0.keep (fun o e => mv.heap S o nSw e) fun p hp => kTup_keep (hk p (inks g p hp)) (kp mv k)) g (kp mv k))
  | succ m ih =>
    intro i s hm hi hst k ⟨L, es, ep, t, R0, g⟩ fin
    have lt : i < n := by omega
    refine codeAny_builtin F.entry_set_update_loop ?_
    rw [Around.under_plainId F.plain_set_update_loop _]
    show wpAny _ A.in1 (pyNext (.ref I) >>= _) _ _ s
    refine wpAny_bind (W.item i s _ _ lt hst fun v s' hv hst' mv => ?_)
    obtain ⟨p, hp, rfl⟩ := val i v hv
    have k' := kp mv k
    have R1 : KSet P w s'.heap S L es ep t := R0.keep (fun o e => mv.heap S o nSw e) fun q hq => kTup_keep (hk q (inks g q hq)) k'
    have hx : kTup P w s'.heap p.2 p.1 := kTup_keep (hk p (List.mem_of_getElem? hp)) k'
    show wpAny _ A.in1 (holding [Value.ref p.1] (setAdd S (.ref p.1)) >>= _) _ _ s'
    unfold setAdd
    refine wpAny_bind (wpAny_holding (wpAny_holding (wpAny_bind ((nestedKind P w).pyHash hu hx.is ?_))))
    refine KSet.add (s := { s' with toks := s'.toks + p.2.draws }) R1 hx hu (by have := g.len; omega) fun b h' L' es' ep' t' sb R2 c1 c2 => ?_
    have g' : Taken ks (i + 1) L' := (Classical.em (p.2 ∈ L.map (·.2))).elim (fun c => by rw [c1 c]; exact g.old hp c) fun c => g.new hp (c2 c)
    have k2 : ∀ b o, h0.get? b = some o → h'.get? b = some o := fun b o e => (sb.2 b (fun z => by rw [z, hS] at e; cases e)).trans (k' b o e)
    refine wpAny_pure ⟨plainId_quiet F.plain_set_update_loop _, ih (i + 1) _ (by omega) lt (W.frame _ s' _ _ hst' (Nat.le_add_right _ _) fun b hb o e => ?_) k2 ⟨L', es', ep', t', R2, g'⟩ fun s2 L2 es2 ep2 t2 mv2 R3 g2 k3 => ?_⟩
    · rw [sb.2 b (fun z : b = S => nS (by rw [← z]; exact hb))]
      exact e
    · refine fin s2 L2 es2 ep2 t2 (Moved.trans W.gtrans ((mv.mono more).then_heap (Nat.le_add_right _ _) fun b o hb e => ?_) mv2) R3 g2 k3
      rw [sb.2 b (fun z : b = S => hb (by rw [z]; exact List.mem_cons_self))]
      exact e
end
end Mn
set_option Elab.async false
set_option linter.all false
set_option maxRecDepth 100000
set_option maxHeartbeats 6400000
namespace Mn
open PySem PySem.Spec PyProof.Rows L2
section
variable {P : Program} {w : World} {A : Around} {E : Value → Shared → Prop} {s : Shared}
/-- set(xs), xs a list of such tuples -/
theorem kset_call {l : Addr} {its : Array Value} (ks : Rows) {Q : Value → Shared → Prop} (hh : A.handled = none) (hl : s.heap.IsList l its) (hit : its.toList = ks.map fun p => Value.ref p.1) (hk : ∀ p, p ∈ ks → kTup P w s.heap p.2 p.1) (few : ks.length < 64) (hu : A.units + 11 < cLine)
    (q : ∀ (h' : Heap) (tk : Nat) L es ep t, KSet P w h' s.heap.objs.size L es ep t → Taken ks ks.length L → (∀ b o, s.heap.get? b = some o → h'.get? b = some o) → Q (.ref s.heap.objs.size) { s with heap := h', toks := tk }) :
    wpAny (model P w) A (call (.type "set") [.ref l]) Q E s := by
  have sz : its.size = ks.length := by simpa using congrArg List.length hit
  obtain ⟨c, tl, hmro⟩ := F.called_set.mro
  have w1 := F.called_set.made
  have w2 := F.called_set.sub
  refine wpAny_call (codeAny_of_tree ?_)
  show wpAny _ _ (callAny (.type "set") _) _ _ _
  refine wpAny_pure ⟨Code.quiet_builtin _ (by decide +kernel), codeAny_builtin F.entry_type_call ?_⟩
  rw [Around.under_plain (weight_type_call_type "set" [.ref l] []) rfl]
  have w3 := F.called_set.notType
  have w4 := F.called_set.canCreate
  have w5 := F.typeCall_set_1 (.ref l)
  repeat any_goals first
    | assumption
    | wp_step
  refine codeAny_mono (code_set_led1 (.ref l) (E := E) (Q₁ := fun o s₁ => o = .ref s.heap.objs.size ∧ s₁ = { s with heap := s.heap.push (newSet w) }) ⟨rfl, rfl⟩) fun r s₁ hr => ?_
  match r, hr with
  | .error e, hr => exact hr
  | .ok .next, hr => exact (show False from hr).elim
  | .ok .brk, hr => exact (show False from hr).elim
  | .ok .cont, hr => exact (show False from hr).elim
  | .ok (.ret o), ⟨e1, e2⟩ =>
    subst e1 e2
    have hS : (s.heap.push (newSet w)).get? s.heap.objs.size = some (newSet w) := Heap.get?_push_size _ rfl
    have hT : Shared.TypeIs { s with heap := s.heap.push (newSet w) } (.ref s.heap.objs.size) "set" := ⟨_, hS, rfl⟩
    have w6 := F.called_set.init.lookup
    have w7 := F.called_set.init.bind (.ref s.heap.objs.size)
    repeat any_goals first
      | assumption
      | wp_step
    refine codeAny_mono (codeAny_call_builtin (R := wants (fun r s₂ => r = .none ∧ ∃ h' tk L es ep t, s₂ = { s with heap := h', toks := tk } ∧ KSet P w h' s.heap.objs.size L es ep t ∧ Taken ks ks.length L ∧ (∀ b o, s.heap.get? b = some o → h'.get? b = some o)) E)
      F.called_set.init.plain F.entry_set_init (check_set_init_1 hT ?_)) fun r₂ s₂ hr₂ => ?_
    · obtain ⟨ol, hol, hcl, nl, hdl⟩ := hl
      obtain ⟨oc, od, dt, osl⟩ := ol
      simp only at hcl hdl
      subst hcl hdl
      have old : (s.heap.push (newSet w)).get? l = some { cls := .type "list", dict := od, data := .seq its nl, slots := osl } := Heap.get?_push_of_some _ hol
      have w8 := F.sub_list_set
      have w9 := F.sub_list_frozenset
      have w10 : (Value.type "list" == Value.type "dict") = false := by decide
      have isl : (s.heap.push (newSet w)).IsList l its := ⟨_, old, rfl, nl, rfl⟩
      unfold Builtin.«set.__init__» noKeywords Builtin.Frozenset.updateFrom
      generalize hPI : pyIter = PI
      wp_walk
      subst hPI
      refine wpAny_pyIter_list isl (wpAny_bind (wpAny_runValue ?_))
      have lS : l < s.heap.objs.size := Heap.lt_size hol
      have e1 : (s.heap.push (newSet w)).objs.size = s.heap.objs.size + 1 := Heap.size_push ..
      have none_of : ∀ b, s.heap.objs.size ≤ b → s.heap.get? b = none := fun b hb => by
        cases z : s.heap.get? b with
        | none => rfl
        | some o => exact absurd (Heap.lt_size z) (Nat.not_lt.mpr hb)
      have nI : l ≠ (s.heap.push (newSet w)).objs.size := by rw [e1]; exact Nat.ne_of_lt (Nat.lt_succ_of_lt lS)
      have nf : s.heap.objs.size ∉ [(s.heap.push (newSet w)).objs.size, l] := by
        rw [e1]
        simp only [List.mem_cons, List.not_mem_nil, or_false, not_or]
        exact ⟨Nat.ne_of_lt (Nat.lt_succ_self _), Nat.ne_of_gt lS⟩
      have val : ∀ (i : Nat) (v : Value), its[i]? = some v → ∃ p, ks[i]? = some p ∧ v = .ref p.1 := fun i v hv => by
        rw [← Array.getElem?_toList, hit, List.getElem?_map] at hv
        cases z : ks[i]? with
        | none => rw [z] at hv; cases hv
        | some p => rw [z] at hv; exact ⟨p, rfl, (Option.some.inj hv).symm⟩
      refine kset_loop ((Walks.list (by simp [hh]) _ l nI its).toS) s.heap.objs.size nf ks sz few val s.heap hk (none_of _ (Nat.le_refl _)) (fun b hb => none_of b (by rw [List.mem_singleton.mp hb, e1]; omega)) hu (its.size - 0) 0 _ (by omega) (Nat.zero_le _)
        ⟨⟨_, Heap.get?_push_size _ rfl, rfl, rfl⟩, (isl.push _)⟩ (fun b o e => Heap.get?_push_of_some _ (Heap.get?_push_of_some _ e)) ⟨[], #[], 0, _, kset_empty (Heap.get?_push_of_some _ hS), ⟨fun p h => (by cases h), fun p h => (by simp at h), Nat.le_refl _⟩⟩ fun s' L es ep t mv R g kp => ?_
      obtain ⟨h', g2, d', tk', os'⟩ := s'
      cases (show g2 = s.gens from mv.gens)
      cases (show d' = s.drawn from mv.drawn)
      cases (show os' = s.os from mv.os)
      rw [sz] at g
      exact wpAny_pure (wpAny_pure ⟨rfl, h', tk', L, es, ep, t, rfl, R, g, kp⟩)
    · match r₂, hr₂ with
      | .error e, hr₂ => exact hr₂
      | .ok .next, hr₂ => exact (show False from hr₂).elim
      | .ok .brk, hr₂ => exact (show False from hr₂).elim
      | .ok .cont, hr₂ => exact (show False from hr₂).elim
      | .ok (.ret r), ⟨e1, h', tk, L, es, ep, t, e2, R, g, kp⟩ =>
        subst e1 e2
        repeat any_goals first
          | assumption
          | wp_step
        exact q _ _ _ _ _ _ R g kp
end
end Mn
set_option Elab.async false
set_option linter.all false
set_option maxRecDepth 100000
set_option maxHeartbeats 4000000
namespace Mn
open PySem PySem.Spec PyProof.Rows L2
abbrev keyD (k : NK) : D := k.data
theorem perm_map_inv {α β : Type} {f : α → β} {vs ms : List β} (h : vs.Perm ms) : ∀ {l : List α}, ms = l.map f → ∃ l0 : List α, l0.Perm l ∧ vs = l0.map f := by
  induction h with
  | nil => intro l e; cases l with
    | nil => exact ⟨[], .refl _, rfl⟩
    | cons _ _ => cases e
  | cons x _ ih => intro l e; cases l with
    | nil => cases e
    | cons b l =>
      rw [List.map_cons] at e
      cases e
      obtain ⟨l0, p, e0⟩ := ih rfl
      exact ⟨b :: l0, p.cons b, by rw [e0, List.map_cons]⟩
  | swap x y l' => intro l e; cases l with
    | nil => cases e
    | cons b l => cases l with
      | nil => cases e
      | cons b2 l =>
        simp only [List.map_cons] at e
        cases e
        exact ⟨b2 :: b :: l, .swap b b2 l, rfl⟩
  | trans _ _ ih1 ih2 =>
    intro l e
    obtain ⟨l1, p1, e1⟩ := ih2 e
    obtain ⟨l0, p0, e0⟩ := ih1 e1
    exact ⟨l0, p0.trans p1, e0⟩
mutual
theorem kis_read {h : Heap} : ∀ (k : NK) (v : Value), KIs h k v → Reads h v k.data []
  | .none, _, x => by cases x
  | .num _, _, x => by cases x; exact .int _ _
  | .text _, _, x => by cases x; exact .str _ _
  | .tup ks, _, x => by
    cases x with
    | tup e1 e2 e3 e4 => exact .tuple e1 e2 e3 (kall_read ks _ e4)
theorem kall_read {h : Heap} : ∀ (ks : List NK) (vs : List Value), KAll h ks vs → ReadsAll h vs (NestedKey.datas ks) []
  | [], _, x => by cases x; exact .nil
  | k :: ks, _, x => by
    cases x with
    | cons a b => exact .cons (as := []) (bs := []) (kis_read k _ a) (kall_read ks _ b)
end
theorem kTup_reads {P : Program} {w : World} {h : Heap} {k : NK} {b : Addr} (x : kTup P w h k b) : Reads h (.ref b) (keyD k) [] := kis_read k _ x.1
abbrev rowD (p : Addr × NK) : D := keyD p.2
mutual
theorem data_depth : ∀ k : NK, k.data.depth = k.depth
  | .none => rfl
  | .num _ => rfl
  | .text _ => rfl
  | .tup ks => by simp only [NestedKey.data, PyData.depth, NestedKey.depth, datas_depth ks]
theorem datas_depth : ∀ ks : List NK, PyData.depthAll (NestedKey.datas ks) = NestedKey.depthAll ks
  | [] => rfl
  | k :: ks => by simp only [NestedKey.datas, PyData.depthAll, NestedKey.depthAll, data_depth k, datas_depth ks]
end
theorem kTup_depth {P : Program} {w : World} {h : Heap} {k : NK} {b : Addr} (x : kTup P w h k b) : (keyD k).depth ≤ 8 := by
  show k.data.depth ≤ 8
  rw [data_depth]
  exact x.2
theorem refs_each : ∀ L0 : Rows, PySem.W.EachIs (fun (u : Value) (p : Addr × NK) => u = .ref p.1) (L0.map fun p => Value.ref p.1) L0
  | [] => .nil
  | p :: L => .cons rfl (refs_each L)
theorem refs_out : ∀ {out : List Value} {L0 : Rows}, PySem.W.EachIs (fun (u : Value) (p : Addr × NK) => u = .ref p.1) out L0 → out = L0.map fun p => Value.ref p.1
  | _, _, .nil => rfl
  | _, _, .cons e t => by rw [List.map_cons, ← refs_out t, e]
section
variable {P : Program} {w : World} {A : Around} {E : Value → Shared → Prop} {s : Shared} {a : Addr} {L : Rows} {es : Array (Int × Value)} {ep : Nat} {t : SetTable}
theorem kset_sorted {Q : Value → Shared → Prop} (R : KSet P w s.heap a L es ep t) (hh : A.handled = none) (hu : A.units + 65 < cLine) (al : PySem.W.AllAlike (L.map rowD)) (so : PySem.W.Sortable (L.map rowD))
    (q : ∀ s' p (out : Array Value) (c : Nat) (L0 : Rows), (∀ b o, s.heap.get? b = some o → s'.heap.get? b = some o) → s'.gens = s.gens → s'.os = s.os → s.heap.objs.size ≤ p → s'.heap.get? p = some (seqObj "list" out c) → out.toList = (L0.mergeSort (PySem.W.dataLe false rowD)).map (fun r => Value.ref r.1) → L0.Perm L → Q (.ref p) s') :
    wpAny (model P w) A (call (.builtin "sorted") [.ref a]) Q E s := by
  obtain ⟨o, ho, hex, hd⟩ := R.obj
  have sz := R.size
  have few := R.few
  refine Calls.call_function_entry kind_sorted plain_sorted entry_sorted (args_sorted1 _) ?_
  unfold Builtin.«sorted»
  refine wpAny_bind (m := checkCount "sorted" 1 1 _) (wpAny_pure (wpAny_bind (collect_set (A := A.in1) hh ⟨o, ho, hex.1, hd⟩ R.fits (by unfold scanBound; omega) R.tab.ris R.led fun s1 vs k1 hz g1 o1 pm => ?_)))
  have pm' : vs.Perm (L.map fun p => Value.ref p.1) := by
    have e : es.toList.map (·.2) = L.map fun p => Value.ref p.1 := by rw [R.ent]; simp [rowV]
    rwa [e] at pm
  obtain ⟨L0, pL, rfl⟩ := perm_map_inv pm' rfl
  have len : L0.length < 64 := by rw [pL.length_eq]; exact few
  refine wpAny_bind (wpAny_newList ?_ (by rw [List.length_map, sizeLine_eq]; omega))
  have new : (s1.heap.push (seqObj "list" (L0.map fun p => Value.ref p.1).toArray 0)).get? s1.heap.objs.size = some (seqObj "list" (L0.map fun p => Value.ref p.1).toArray 0) := Heap.get?_push_size _ rfl
  have rd : ∀ l : Rows, (∀ p, p ∈ l → p ∈ L0) → PySem.W.EachIs (fun v (b : Addr × NK) => ∃ as, Reads (s1.heap.push (seqObj "list" (L0.map fun p => Value.ref p.1).toArray 0)) v (rowD b) as ∧ s1.heap.objs.size ∉ as) (l.map fun p => Value.ref p.1) l := by
    intro l
    induction l with
    | nil => exact fun _ => .nil
    | cons p l ih =>
      refine fun h => .cons ⟨[], kTup_reads (kTup_keep (R.tup p (pL.mem_iff.mp (h p List.mem_cons_self))) fun b u e => Heap.get?_push_of_some _ (k1 b u e)), by simp⟩ (ih fun p' hp' => h p' (List.mem_cons_of_mem _ hp'))
  have pD : (L0.map rowD).Perm (L.map rowD) := pL.map _
  refine wpAny_bind (wpAny_holding (PySem.W.list_sort_data (s := { s1 with heap := s1.heap.push (seqObj "list" (L0.map fun p => Value.ref p.1).toArray 0) }) (enc := rowD) (R := fun u p => u = .ref p.1) new (refs_each L0) (rd L0 fun _ h => h)
    (fun d hd d' hd' => al d (pD.mem_iff.mp hd) d' (pD.mem_iff.mp hd')) (so.imp (fun h d hd => h d (pD.mem_iff.mp hd)) fun h d hd => h d (pD.mem_iff.mp hd)) (by rw [sizeLine_eq]; omega) (fun b hb => by have := kTup_depth (R.tup b (pL.mem_iff.mp hb)); show A.units + 1 + 1 + (keyD b.2).depth < cLine; omega) fun out lo eo => ?_))
  obtain ⟨c, hc⟩ := sortedHeap_at (vs := L0.map fun p => Value.ref p.1) (out := out.toArray) new
  refine wpAny_pure ⟨_, rfl, q _ s1.heap.objs.size out.toArray c L0 (fun b u e => ?_) g1 o1 hz hc (by simpa using refs_out eo) pL⟩
  have lt := Heap.lt_size (k1 b u e)
  show (sortedHeap _ s1.heap.objs.size _ out.toArray).get? b = some u
  rw [sortedHeap_old (Nat.ne_of_lt lt) (by rw [size_push']; exact Nat.lt_succ_of_lt lt)]
  exact Heap.get?_push_of_some _ (k1 b u e)
end
/-! ### the rules -/
structure KS0 (P : Program) (w : World) (h : Heap) (a : Addr) (L : Rows) : Prop where
  ex : ∃ (es : Array (Int × Value)) (ep : Nat) (t : SetTable), (∃ o, h.get? a = some o ∧ o.ExactSet ∧ o.data = .set es ep t) ∧ es.toList = rowV P w L ∧ TabOk t (L.map fun p => kHash P w p.2) ∧ (L.map (·.2)).Nodup ∧ (w.params.followText "set-order" = true ∨ t.led = true) ∧ L.length * 5 < t.mask * 3 ∧ L.length < 64
def ksetO (P : Program) (w : World) (a : Addr) (L : Rows) : HO := .ext fun h => KS0 P w h a L
theorem ks0_ok {P : Program} {w : World} {H : Hp} {h : Heap} {a : Addr} {L : Rows} (R : KS0 P w h a L) : ObjOk P w H h a (ksetO P w a L) := by
  have ⟨es, ep, t, ⟨o, ho, r⟩, q⟩ := R.ex
  refine ⟨R, ⟨o, ho⟩, fun h1 h2 p k => ?_⟩
  have ⟨es', ep', t', ⟨o', ho', r'⟩, q'⟩ := KS0.ex p
  exact ⟨es', ep', t', ⟨o', k o' ho', r'⟩, q'⟩
theorem refs_are : ∀ {ks : Rows} {us : List Value}, Vals (ks.map fun p => V.ref p.1) us → us = ks.map fun p => Value.ref p.1
  | [], _, .nil => rfl
  | p :: ks, _, .cons r t => by
    cases r
    rw [refs_are t]
    rfl
theorem are_refs : ∀ ks : Rows, Vals (ks.map fun p => V.ref p.1) (ks.map fun p => Value.ref p.1)
  | [] => .nil
  | _ :: ks => .cons rfl (are_refs ks)
section
variable {X : Cx}
mutual
/-- the key that data is -/
def toK : D → NK
  | .int i => .num i
  | .str x => .text x
  | .tuple xs => .tup (toKs xs)
  | _ => .none
def toKs : List D → List NK
  | [] => []
  | x :: xs => toK x :: toKs xs
end
mutual
theorem toK_data : ∀ d : D, isKeyD d = true → (toK d).data = d
  | .int _, _ => rfl
  | .str _, _ => rfl
  | .tuple xs, h => by
    rw [isKeyD] at h
    simp only [toK, NestedKey.data, toKs_data xs h]
  | .none, h => by cases h
  | .bool _, h => by cases h
  | .list _, h => by cases h
  | .dict _, h => by cases h
theorem toKs_data : ∀ ds : List D, areKeysD ds = true → NestedKey.datas (toKs ds) = ds
  | [], _ => rfl
  | d :: ds, h => by
    rw [areKeysD, Bool.and_eq_true] at h
    simp only [toKs, NestedKey.datas, toK_data d h.1, toKs_data ds h.2]
end
mutual
theorem dq_kis {pins : List (Addr × Obj)} {σ : L2.St} {H : Hp} {s : Shared} (I : Inv X pins σ H s) : ∀ (d : D) (v : V) (u : Value), isKeyD d = true → Dq X.K H v d → RelV v u → KIs s.heap (toK d) u
  | .int _, _, _, _, h, r => by
    cases h
    obtain ⟨t, rfl⟩ := r
    exact .int _ _
  | .str _, _, _, _, h, r => by
    cases h
    obtain ⟨t, rfl⟩ := r
    exact .text _ _
  | .tuple xs, _, _, k, h, r => by
    cases h with
    | tup hs ha =>
      cases r
      rw [isKeyD] at k
      obtain ⟨its, rv, ⟨o, ho, hc, n, hd⟩, _⟩ := I.tuple hs
      exact .tup ho hc hd (by simpa using dqa_kis I xs _ its k ha rv)
  | .none, _, _, k, _, _ => by cases k
  | .bool _, _, _, k, _, _ => by cases k
  | .list _, _, _, k, _, _ => by cases k
  | .dict _, _, _, k, _, _ => by cases k
theorem dqa_kis {pins : List (Addr × Obj)} {σ : L2.St} {H : Hp} {s : Shared} (I : Inv X pins σ H s) : ∀ (ds : List D) (vs : List V) (us : List Value), areKeysD ds = true → DqAll X.K H vs ds → Vals vs us → KAll s.heap (toKs ds) us
  | [], _, _, _, h, r => by
    cases h
    cases r
    exact .nil
  | d :: ds, _, _, k, h, r => by
    cases h with
    | cons h1 h2 =>
      cases r with
      | cons r1 r2 =>
        rw [areKeysD, Bool.and_eq_true] at k
        exact .cons (dq_kis I d _ _ k.1 h1 r1) (dqa_kis I ds _ _ k.2 h2 r2)
end
/-- a row: its key stands for the data at its place -/
structure RowOk (K : PySem.W.Frag) (H : Hp) (p : Addr × NK) : Prop where
  key : isKeyD (rowD p) = true
  is : p.2 = toK (rowD p)
  dep : p.2.depth ≤ 8
  dq : Dq K H (.ref p.1) (rowD p)
theorem inv_kTup {pins : List (Addr × Obj)} {σ : L2.St} {H : Hp} {s : Shared} {p : Addr × NK} (I : Inv X pins σ H s) (h : RowOk X.K H p) : kTup X.prog X.w s.heap p.2 p.1 := by
  refine ⟨?_, h.dep⟩
  rw [h.is]
  exact dq_kis I _ _ _ h.key h.dq rfl
def rKSet (K : PySem.W.Frag) (P : Program) (w : World) : List V → Hp → VK → Prop := fun xs H Q => ∃ (l : Addr) (ks : Rows), xs = [V.ref l] ∧ SqL K H l (ks.map fun p => V.ref p.1) ∧ (∀ p, p ∈ ks → RowOk K H p) ∧ ks.length < 64 ∧
  ∀ a L, H a = none → (∀ p, p ∈ L → p ∈ ks) → (∀ p, p ∈ ks → p.2 ∈ L.map (·.2)) → (L.map (·.2)).Nodup → Q (.ref a) (upd H a (ksetO P w a L))
theorem cr_kset (hc : X.calm = true) (hu : X.A.units + 65 < cLine) : CallR X (.type "set") (rKSet X.K X.prog X.w) := by
  intro pins s σ H xs us Q I r ⟨l, ks, ex, hl, hk, few, q⟩
  subst ex
  rw [Vals.ref1 r]
  obtain ⟨its, rv, pl, hz⟩ := I.list hl
  refine kset_call ks (I.ok.hd hc) pl.isList (by simpa using refs_are rv) (fun p hp => inv_kTup I (hk p hp)) few (by omega) fun h' tk L es ep t R g k => ?_
  exact ⟨.ref s.heap.objs.size, upd H s.heap.objs.size (ksetO X.prog X.w s.heap.objs.size L), I.laid (t' := tk) k (Nat.le_refl _) (ks0_ok ⟨es, ep, t, R.obj, R.ent, R.tab, R.nod, R.led, R.room, R.few⟩), rfl, q _ L (I.hok.fresh (Nat.le_refl _)) (fun p hp => List.mem_of_mem_take (g.sub p hp)) (fun p hp => g.all p (by rw [List.take_length]; exact hp)) R.nod⟩
def rKSort (K : PySem.W.Frag) (P : Program) (w : World) : List V → Hp → VK → Prop := fun vs H Q => ∃ (a : Addr) (L : Rows), vs = [V.ref a] ∧ H a = some (ksetO P w a L) ∧ (∀ p, p ∈ L → RowOk K H p) ∧ PySem.W.AllAlike (L.map rowD) ∧ PySem.W.Sortable (L.map rowD) ∧
  ∀ (L0 : Rows) (p : Addr), L0.Perm L → H p = none → Q (.ref p) (upd H p (.lst ((L0.mergeSort (PySem.W.dataLe false rowD)).map fun r => V.ref r.1)))
theorem cr_ksort (hc : X.calm = true) (hu : X.A.units + 65 < cLine) : CallR X (.builtin "sorted") (rKSort X.K X.prog X.w) := by
  intro pins s σ H vs us Q I r ⟨a, L, ev, ha, hk, al, so, q⟩
  subst ev
  rw [Vals.ref1 r]
  have R0 : KS0 X.prog X.w s.heap a L := (I.hok a _ ha).1
  obtain ⟨es, ep, t, h1, h2, h3, h4, h5, h6, h7⟩ := R0.ex
  refine kset_sorted ⟨h1, h2, h3, h4, fun p hp => inv_kTup I (hk p hp), h5, h6, h7⟩ (I.ok.hd hc) hu al so fun s' p out c L0 k g o hp hg hout pm => ?_
  have hn : H p = none := I.hok.fresh hp
  have len : ((L0.mergeSort (PySem.W.dataLe false rowD)).map fun r => V.ref r.1).length ≤ sizeLine := by
    rw [List.length_map, List.length_mergeSort, pm.length_eq, sizeLine_eq]
    omega
  have hv : Vals ((L0.mergeSort (PySem.W.dataLe false rowD)).map fun r => V.ref r.1) out.toList := by rw [hout]; exact are_refs _
  have J := I.call (g' := s'.gens) (d' := s'.drawn) (t' := s'.toks) (ch := []) (Un.laid k hp hn) (I.hok.laid k hp (o := .lst ((L0.mergeSort (PySem.W.dataLe false rowD)).map fun r => V.ref r.1)) ⟨len, out.toList, c, hv, hg⟩) (by rw [g]; exact I.bare) (fun _ z => nomatch z)
  have e : s' = { s with heap := s'.heap, gens := s'.gens, drawn := s'.drawn, toks := s'.toks } := by
    cases s'
    cases s
    cases o
    rfl
  rw [e]
  exact ⟨.ref p, _, J, rfl, q L0 p pm hn⟩
end
end Mn
set_option Elab.async false
set_option linter.all false
set_option maxRecDepth 100000
set_option maxHeartbeats 4000000
namespace Mn
open PySem PySem.Spec PyProof.Rows L2
/-! ### sorted and without doubles, as data -/
mutual
theorem data_eqv : ∀ a b : NK, PyData.eqv a.data b.data = NestedKey.beq a b
  | .none, .none => rfl
  | .num a, .num b => by simp [NestedKey.data, PyData.eqv, NestedKey.beq]; rfl
  | .text a, .text b => by simp [NestedKey.data, PyData.eqv, NestedKey.beq]; rfl
  | .tup a, .tup b => by
    show PyData.eqvAll _ _ = _
    rw [datas_eqv a b, NestedKey.beq]
  | .none, .num _ => rfl
  | .none, .text _ => rfl
  | .none, .tup _ => rfl
  | .num _, .none => rfl
  | .num _, .text _ => rfl
  | .num _, .tup _ => rfl
  | .text _, .none => rfl
  | .text _, .num _ => rfl
  | .text _, .tup _ => rfl
  | .tup _, .none => rfl
  | .tup _, .num _ => rfl
  | .tup _, .text _ => rfl
theorem datas_eqv : ∀ a b : List NK, PyData.eqvAll (NestedKey.datas a) (NestedKey.datas b) = NestedKey.beqAll a b
  | [], [] => rfl
  | [], _ :: _ => rfl
  | _ :: _, [] => rfl
  | x :: a, y :: b => by
    rw [NestedKey.datas, NestedKey.datas, PySem.W.eqv_all_cons, data_eqv x y, datas_eqv a b]
    rfl
end
theorem keyD_eqv (a b : NK) : PyData.eqv (keyD a) (keyD b) = decide (a = b) := by
  rw [data_eqv, NestedKey.decide_eq]
/-- unlike data of one kind stand apart in the order -/
theorem leD_anti {x y : D} (al : PySem.W.alike x y = true) (h1 : PySem.W.dataLe false (fun d => d) x y = true) (h2 : PySem.W.dataLe false (fun d => d) y x = true) : PyData.eqv x y = true := by
  cases q : PyData.eqv x y with
  | true => rfl
  | false =>
    exfalso
    have a1 : PySem.W.dataLt y x = false := by
      have h1 : (!PySem.W.dataLt y x) = true := h1
      simpa using h1
    have a2 : PySem.W.dataLt x y = false := by
      have h2 : (!PySem.W.dataLt x y) = true := h2
      simpa using h2
    have e : PySem.W.keyToks x = PySem.W.keyToks y := PyProof.Rows.lex_total _ _ a2 a1
    have z := ((PySem.W.toks_eqv x y al).2 q)
    have z1 := z [] [Sum.inl 0]
    have z2 := z [Sum.inl 0] []
    rw [e, PySem.W.lex_pre] at z1 z2
    rw [← z2] at z1
    cases z1
theorem dedup_mem : ∀ {xs : List D}, (∀ x, x ∈ xs → ∀ y, y ∈ xs → PyData.eqv x y = true → x = y) → (∀ x, x ∈ xs → PyData.eqv x x = true) → (∀ z, z ∈ dedup xs ↔ z ∈ xs) ∧ (dedup xs).Nodup
  | [], _, _ => ⟨fun z => Iff.rfl, List.nodup_nil⟩
  | x :: xs, h, hr => by
    obtain ⟨i1, i2⟩ := dedup_mem (xs := xs) (fun a ha b hb => h a (List.mem_cons_of_mem _ ha) b (List.mem_cons_of_mem _ hb)) fun a ha => hr a (List.mem_cons_of_mem _ ha)
    unfold dedup
    by_cases q : (dedup xs).any (fun y => PyData.eqv y x) = true
    · rw [if_pos q]
      obtain ⟨y, hy, e⟩ := List.any_eq_true.mp q
      have hy' := (i1 y).mp hy
      have : y = x := h y (List.mem_cons_of_mem _ hy') x List.mem_cons_self e
      subst this
      exact ⟨fun z => ⟨fun hz => List.mem_cons_of_mem _ ((i1 z).mp hz), fun hz => (List.mem_cons.mp hz).elim (fun e => by rw [e]; exact hy) (i1 z).mpr⟩, i2⟩
    · rw [if_neg q]
      refine ⟨fun z => ?_, List.nodup_cons.mpr ⟨fun hx => q (List.any_eq_true.mpr ⟨x, hx, hr x List.mem_cons_self⟩), i2⟩⟩
      rw [List.mem_cons, List.mem_cons, i1 z]
theorem sort_perm_eq {l1 l2 : List D} (pm : l1.Perm l2) (al : PySem.W.AllAlike l1) (eq : ∀ x, x ∈ l1 → ∀ y, y ∈ l1 → PyData.eqv x y = true → x = y) : sortD l1 = sortD l2 := by
  rw [sortD_eq, sortD_eq]
  have T := leD_total (fun d : D => d)
  refine List.Perm.eq_of_pairwise (le := fun a b => PySem.W.dataLe false (fun d => d) a b = true) (fun a b ha hb h1 h2 => ?_) (List.pairwise_mergeSort T.trans (fun a b => by simpa using T.total a b) l1) (List.pairwise_mergeSort T.trans (fun a b => by simpa using T.total a b) l2) ((List.mergeSort_perm l1 _).trans (pm.trans (List.mergeSort_perm l2 _).symm))
  have m1 : a ∈ l1 := List.mem_mergeSort.mp ha
  have m2 : b ∈ l1 := pm.mem_iff.mpr (List.mem_mergeSort.mp hb)
  exact eq a m1 b m2 (leD_anti (al a m1 b m2) h1 h2)
theorem keyD_inj {a b : NK} (h : keyD a = keyD b) : a = b := by
  have := keyD_eqv a b
  rw [h, keyD_eqv] at this
  simpa using this.symm
theorem sset_eq {ks L L0 : Rows} (h1 : ∀ p, p ∈ L → p ∈ ks) (h2 : ∀ p, p ∈ ks → p.2 ∈ L.map (·.2)) (nd : (L.map (·.2)).Nodup) (pm : L0.Perm L) (al : PySem.W.AllAlike (ks.map rowD)) :
    (L0.mergeSort (PySem.W.dataLe false rowD)).map rowD = sortD (dedup (ks.map rowD)) := by
  have e1 : (L0.mergeSort (PySem.W.dataLe false rowD)).map rowD = sortD (L0.map rowD) := by
    rw [sortD_eq]
    exact List.map_mergeSort fun a _ b _ => rfl
  rw [e1]
  have key : ∀ x, x ∈ ks.map rowD → ∃ k, x = keyD k := fun x hx => by
    obtain ⟨p, _, rfl⟩ := List.mem_map.mp hx
    exact ⟨p.2, rfl⟩
  have eq : ∀ x, x ∈ ks.map rowD → ∀ y, y ∈ ks.map rowD → PyData.eqv x y = true → x = y := fun x hx y hy e => by
    obtain ⟨a, rfl⟩ := key x hx
    obtain ⟨b, rfl⟩ := key y hy
    rw [keyD_eqv] at e
    rw [of_decide_eq_true e]
  obtain ⟨d1, d2⟩ := dedup_mem eq fun x hx => by
    obtain ⟨a, rfl⟩ := key x hx
    rw [keyD_eqv]
    exact decide_eq_true rfl
  have inks : ∀ x, x ∈ L0.map rowD → x ∈ ks.map rowD := fun x hx => by
    obtain ⟨p, hp, rfl⟩ := List.mem_map.mp hx
    exact List.mem_map_of_mem (h1 p (pm.mem_iff.mp hp))
  have nd0 : (L0.map rowD).Nodup := by
    have n1 : (L0.map (·.2)).Nodup := (pm.map (·.2)).nodup_iff.mpr nd
    have n2 : ((L0.map (·.2)).map keyD).Nodup := List.pairwise_map.mpr (n1.imp fun hne e => hne (keyD_inj e))
    have e : (L0.map (·.2)).map keyD = L0.map rowD := by rw [List.map_map]; rfl
    rwa [e] at n2
  have perm : (L0.map rowD).Perm (dedup (ks.map rowD)) := (List.perm_ext_iff_of_nodup nd0 d2).mpr fun z => by
    rw [d1 z]
    refine ⟨inks z, fun hz => ?_⟩
    obtain ⟨p, hp, rfl⟩ := List.mem_map.mp hz
    obtain ⟨r, hr, er⟩ := List.mem_map.mp (h2 p hp)
    exact List.mem_map.mpr ⟨r, pm.mem_iff.mpr hr, by show keyD r.2 = keyD p.2; rw [er]⟩
  exact sort_perm_eq perm (fun x hx y hy => al x (inks x hx) y (inks y hy)) fun x hx y hy => eq x (inks x hx) y (inks y hy)
/-- rows of such tuples, out of the data -/
theorem rows_of {K : PySem.W.Frag} {F : Hp} : ∀ {xs : List D} {vs : List V}, xs.all setKey = true → DqAll K F vs xs → ∃ ks : Rows, xs = ks.map rowD ∧ vs = ks.map (fun p => V.ref p.1) ∧ ∀ p, p ∈ ks → RowOk K F p
  | [], _, _, .nil => ⟨[], rfl, rfl, fun p hp => by cases hp⟩
  | x :: xs, _, h, .cons h1 h2 => by
    rw [List.all_cons, Bool.and_eq_true] at h
    obtain ⟨ks, e1, e2, hk⟩ := rows_of h.2 h2
    have h0 := h.1
    cases x with
    | tuple ds =>
      simp only [setKey, Bool.and_eq_true, decide_eq_true_eq] at h0
      have kd : isKeyD (.tuple ds) = true := by rw [isKeyD]; exact h0.1
      have ed := toK_data _ kd
      cases h1 with
      | @tup ad us _ a b =>
        have dq : Dq K F (.ref ad) (.tuple ds) := .tup a b
        refine ⟨(ad, toK (.tuple ds)) :: ks, ?_, ?_, fun p hp => ?_⟩
        · rw [List.map_cons, ← e1]
          show _ = (toK (.tuple ds)).data :: _
          rw [ed]
        · rw [List.map_cons, ← e2]
        · rcases List.mem_cons.mp hp with rfl | hp
          · refine ⟨?_, ?_, ?_, ?_⟩
            · show isKeyD (toK (.tuple ds)).data = true
              rw [ed]; exact kd
            · show toK _ = toK (toK (.tuple ds)).data
              rw [ed]
            · show (toK (.tuple ds)).depth ≤ 8
              rw [← data_depth, ed]
              exact h0.2
            · show Dq K F (.ref ad) (toK (.tuple ds)).data
              rw [ed]; exact dq
          · exact hk p hp
    | _ => cases h0
theorem RowOk.sub {K : PySem.W.Frag} {F F' : Hp} {p : Addr × NK} (h : RowOk K F p) (e : Sub F F') : RowOk K F' p := ⟨h.key, h.is, h.dep, dp_sub e _ _ h.dq⟩
theorem rows_dq {K : PySem.W.Frag} {F : Hp} : ∀ {ks : Rows}, (∀ p, p ∈ ks → RowOk K F p) → DqAll K F (ks.map fun p => V.ref p.1) (ks.map rowD)
  | [], _ => .nil
  | p :: ks, h => .cons (h p List.mem_cons_self).dq (rows_dq fun q hq => h q (List.mem_cons_of_mem _ hq))
theorem boot_set : bootBuiltins "set" = some (.type "set") := by decide +kernel
section
variable {X : Cx} {A : Ad} {Wx : WX}
theorem rd_sset {g : Bool} {e : Expr} {p p2 pos pos2 : Pos} {ev : Env → Res (R × Env)} (hc : X.calm = true) (hu : X.A.units + 65 < cLine) (hg : Gl X "sorted") (hm : X.mg "sorted" = none) (hg2 : Gl X "set") (hm2 : X.mg "set" = none) (ha : PE X e (RdE X.K A Wx ev)) (hs : noStar e = true) :
    PE X (.Call (.Name "sorted" p) [.Call (.Name "set" p2) [e] [] pos2] [] pos) (RdE X.K A Wx fun ρ => do
      let (x, ρ) ← ev ρ
      let u ← Res.of (x.peek ρ)
      let r ← Res.of (bltD g .sset [u])
      .ok (r, ρ)) := by
  have inner := pe_callTy (p := p2) (pos := pos2) (cr_kset (X := X) hc hu) hg2 hm2 boot_set (pa_cons ha pa_nil (star_head (noStar_ne hs))) (by decide) (by decide) (star_head (noStar_ne hs)) rfl
  refine PE_imp (pe_callB (cr_ksort hc hu) hg hm (by decide +kernel) (pa_cons inner pa_nil) (by decide) (by decide)) fun σ H Q ⟨B, ρ, T, at_, gg⟩ => ?_
  refine ⟨B, ρ, T, at_, (gd_bind.mp gg).mono (fun ⟨x, ρ1⟩ g1 v H1 ⟨F, O, S⟩ => ?_) fun _ _ h => h⟩
  obtain ⟨u, e1, g2⟩ := gd_of (gd_bind.mp g1)
  obtain ⟨r, e2, g3⟩ := gd_of (gd_bind.mp g2)
  cases u with
  | list xs =>
    unfold bltD at e2
    simp only at e2
    split at e2
    · rename_i cond
      cases e2
      simp only [Bool.and_eq_true, decide_eq_true_eq] at cond
      obtain ⟨⟨c1, c2⟩, c3⟩ := cond
      obtain ⟨al, so, _, _⟩ := sortOk_of c1
      obtain ⟨l, vs, rfl, rd, dd⟩ := S.peekL one_top e1
      obtain ⟨ks, e1k, e2k, hk⟩ := rows_of c2 dd
      subst e1k e2k
      refine ⟨l, ks, rfl, .inl rd, fun p hp => (hk p hp).sub S.fh, by simpa using c3, fun a L hn h1 h2 nd => ?_⟩
      have S2 := S.junk (o := ksetO X.prog X.w a L) hn (fun ps z => by unfold ksetO at z; cases z)
      have inL : ∀ d, d ∈ L.map rowD → d ∈ ks.map rowD := fun d hd => by
        obtain ⟨p, hp, rfl⟩ := List.mem_map.mp hd
        exact List.mem_map_of_mem (h1 p hp)
      refine ⟨a, L, rfl, upd_same, fun p hp => (hk p (h1 p hp)).sub S2.fh, fun d hd d' hd' => al d (inL d hd) d' (inL d' hd'), so.imp (fun h d hd => h d (inL d hd)) fun h d hd => h d (inL d hd), fun L0 q pm hq => ?_⟩
      refine g3 _ _ (S2.drop.newLst hq ?_)
      rw [← sset_eq h1 h2 nd pm al]
      exact rows_dq fun p hp => hk p (h1 p (pm.mem_iff.mp (List.mem_mergeSort.mp hp)))
    · cases e2
  | _ => cases e2
end
end Mn
set_option Elab.async false
set_option linter.all false
set_option autoImplicit false
set_option maxRecDepth 100000
set_option maxHeartbeats 4000000
/-! ## sorted(xs, key=f), f a def that may make new objects: the keys' calls by an invariant -/
namespace Mn
open PySem PySem.W PySem.Calls PyProof.Rows
section
variable {prog : Program} {w : World} {A : Around} {E : Value → Shared → Prop} {s : Shared} {a kS : Addr} {b : Bool} {vs : List Value} {keys : Array Value} {e e1 : Nat} {P : PySem.Fin → Shared → Prop} {kz : List PyData}
/-- all but what stands at a and k -/
def Keeps2 (a k : Addr) (h h' : Heap) : Prop := ∀ b o, b ≠ a → b ≠ k → h.get? b = some o → h'.get? b = some o
theorem keyJ_tail {st : SortSt} {out : List Value} (nk : s.heap.get? kS = some (seqObj "list" keys e)) (na : s.heap.get? a = some (seqObj "list" #[] e1)) (hka : kS ≠ a)
    (hsz : keys.size ≤ sizeLine) (hz : out.length ≤ sizeLine) (hfl : failedOf st = none) (ho : (if b = true then ((arrOf st).map (·.2)).reverse else (arrOf st).map (·.2)) = out.toArray)
    (h : ∀ h' tk c, Keeps2 a kS s.heap h' → h'.get? a = some (seqObj "list" out.toArray c) → P (.done (.ret .none)) { s with heap := h', toks := tk }) :
    wpAny (model prog w) A (ksk_tail a b e1 (.ref kS) st) P E s := by
  have s1 := Heap.SameBut.update s.heap kS (Obj.mapSeq fun _ => (#[] : Array Value))
  have na1 : (s.heap.update kS (Obj.mapSeq fun _ => (#[] : Array Value))).get? a = some (seqObj "list" #[] e1) := (s1.2 a hka.symm).trans na
  have s2 := Heap.SameBut.update (s.heap.update kS (Obj.mapSeq fun _ => (#[] : Array Value))) a (Obj.mapSeq fun _ => out.toArray)
  obtain ⟨c2, hc2⟩ : ∃ c2, ((s.heap.update kS (Obj.mapSeq fun _ => (#[] : Array Value))).update a (Obj.mapSeq fun _ => out.toArray)).get? a = some (seqObj "list" out.toArray c2) :=
    ⟨_, get?_update_seq na1 fun _ => out.toArray⟩
  have hz2 : out.toArray.size ≤ sizeLine + 1 := by
    rw [List.size_toArray]
    exact Nat.le_succ_of_le hz
  unfold ksk_tail
  try dsimp only
  rw [ho]
  refine wpAny_bind (listUpdate_at nk rfl ?_ hsz (Nat.zero_le _))
  refine wpAny_bind (wpAny_letGo ?_)
  refine wpAny_bind (seqEpoch_at na1 rfl ?_)
  refine wpAny_bind (listUpdate_at na1 rfl ?_ (Nat.zero_le _) hz2)
  rw [hfl]
  simp only [bne_self_eq_false, Bool.false_eq_true, if_false]
  exact wpAny_pure (h _ _ c2 (fun x o h1 h2 q => (s2.2 x h1).trans ((s1.2 x h2).trans q)) hc2)
theorem keyJ_end {κ : PyProof.Rows.KeyKind} (nk : s.heap.get? kS = some (seqObj "list" keys e)) (na : s.heap.get? a = some (seqObj "list" #[] e1)) (hka : kS ≠ a)
    (S : SortsAt prog w A s κ keys.toList) (hsz : keys.size = vs.length) (hZ : vs.length ≤ sizeLine)
    (h : ∀ h' tk c, Keeps2 a kS s.heap h' → h'.get? a = some (seqObj "list" (sortVals κ b keys.toList vs).toArray c) → P (.done (.ret .none)) { s with heap := h', toks := tk }) :
    wpAny (model prog w) A (ksk_end a b vs.toArray e1 (.ref kS) keys) P E s := by
  obtain ⟨kd, h1, h2⟩ := S.kind
  have hkl : keys.toList.length = vs.length := by
    rw [Array.length_toList]
    exact hsz
  have hK : PyProof.Rows.KeysOf κ (keys.zip vs.toArray) := keysOf_zip S.keys
  have hol : (sortVals κ b keys.toList vs).length = vs.length := sortVals_length b hkl
  have hstart : (if b = true then (keys.zip vs.toArray).reverse else keys.zip vs.toArray).Perm (keys.zip vs.toArray) := by
    cases b with
    | false => exact Array.Perm.refl _
    | true => exact Array.perm_iff_toList_perm.mpr (by rw [if_pos rfl, Array.toList_reverse]; exact List.reverse_perm _)
  have hss : (if b = true then (keys.zip vs.toArray).reverse else keys.zip vs.toArray).size = vs.length := by rw [hstart.size_eq, Array.size_zip, hsz, List.size_toArray, Nat.min_self]
  have fin : ∀ st' : SortSt, (arrOf st').Perm (if b = true then (keys.zip vs.toArray).reverse else keys.zip vs.toArray) → SortedToK κ (arrOf st') (if b = true then (keys.zip vs.toArray).reverse else keys.zip vs.toArray).size →
      Stable κ (arrOf st') (if b = true then (keys.zip vs.toArray).reverse else keys.zip vs.toArray) → (if b = true then ((arrOf st').map (·.2)).reverse else (arrOf st').map (·.2)) = (sortVals κ b keys.toList vs).toArray := by
    intro st' hp hs ht
    have e := sort_out (rev := b) (keys := keys) (items := vs.toArray) (xs := arrOf st') (κ := κ) hK hp hs ht
    have e' := congrArg List.toArray e
    rw [Array.toArray_toList] at e'
    exact e'
  have step : ∀ t : Sem PySem.Fin, wpAny (model prog w) A t P E s → wpAny (model prog w) A (if b = true then (do let _ ← rule "list.sort.reverse"; t) else t) P E s := by
    intro t ht
    split
    · exact wpAny_bind (wpAny_rule ht)
    · exact ht
  unfold ksk_end
  try dsimp only
  refine step _ ?_
  by_cases hl2 : vs.toArray.size < 2
  · rw [if_pos hl2, if_pos hl2]
    refine wpAny_bind (wpAny_pure ?_)
    rw [StateT.run_pure]
    refine wpAny_bind (wpAny_pure ?_)
    try dsimp only
    refine keyJ_tail (st := SortSt.mk' general' (if b = true then (keys.zip vs.toArray).reverse else keys.zip vs.toArray) #[] 7 none) nk na hka (by rw [hsz]; exact hZ) (by rw [hol]; exact hZ) rfl (fin _ (Array.Perm.refl _) ?_ (Stable.refl _)) h
    intro i j hij hj
    rw [hss] at hj
    rw [List.size_toArray] at hl2
    have : i = j := by omega
    subst this
    exact KeyOrd.kle_refl _
  · rw [if_neg hl2, if_neg hl2]
    rw [List.size_toArray] at hl2
    refine wpAny_bind (h2 (by omega) _ ?_)
    refine wpAny_bind (wpAny_mono (H.wpS_sortRunsSt (κ := κ) (kd := kd) (a₀ := if b = true then (keys.zip vs.toArray).reverse else keys.zip vs.toArray)
      (st := SortSt.mk' kd (if b = true then (keys.zip vs.toArray).reverse else keys.zip vs.toArray) #[] 7 none)
      (Q := fun _ st' => failedOf st' = none ∧ (if b = true then ((arrOf st').map (·.2)).reverse else (arrOf st').map (·.2)) = (sortVals κ b keys.toList vs).toArray)
      h1 (hK.perm hstart) ⟨Array.Perm.refl _, rfl, rfl⟩ rfl (Stable.refl _) (by rw [hss]; omega) fun st' a1 a2 a3 a4 => ⟨a2, fin st' a1 a3 a4⟩) ?_ fun _ _ e => e)
    rintro ⟨⟨⟩, st'⟩ s' ⟨rfl, hf, ho⟩
    try dsimp only at ho ⊢
    exact keyJ_tail nk na hka (by rw [hsz]; exact hZ) (by rw [hol]; exact hZ) hf ho h
/-- the calls of the keys: what holds after i of them -/
structure KeysInv (a kS : Addr) (kz : List PyData) (J : List Value → Shared → Prop) : Prop where
  reads : ∀ ks s, J ks s → EachIs (fun v k => ∃ as, Reads s.heap v k as) ks (kz.take ks.length)
  upd : ∀ ks s h, J ks s → Heap.SameBut kS s.heap h → J ks { s with heap := h }
theorem keyJ_rest {f : Value} {J : List Value → Shared → Prop} (I : KeysInv a kS kz J) (j0 : J [] s) (nk : s.heap.get? kS = some (seqObj "list" #[] 0)) (na : s.heap.get? a = some (seqObj "list" #[] e1)) (hka : kS ≠ a)
    (hlen : kz.length = vs.length) (hZ : vs.length ≤ sizeLine) (hal : AllAlike kz) (hsk : Sortable kz) (hu : ∀ d, d ∈ kz → A.units + d.depth < cLine)
    (turn : ∀ (v : Value) (ks : List Value) (s' : Shared) , vs[ks.length]? = some v → J ks s' → s'.heap.get? kS ≠ none → s'.heap.get? a ≠ none →
      wpAny (model prog w) A (call f [v]) (fun u s'' => J (ks ++ [u]) s'' ∧ (∀ o, s'.heap.get? kS = some o → s''.heap.get? kS = some o) ∧ ∀ o, s'.heap.get? a = some o → s''.heap.get? a = some o) (fun _ _ => False) s')
    (h : ∀ ks s' h' tk out c, J ks s' → Keeps2 a kS s'.heap h' → s'.heap.get? a ≠ none → s'.heap.get? kS ≠ none → h'.get? a = some (seqObj "list" (List.toArray out) c) → KeyedOut b kz vs out → P (.done (.ret .none)) { s' with heap := h', toks := tk }) :
    wpAny (model prog w) A (ksk_rest a f b vs.toArray e1 (.ref kS)) P E s := by
  unfold ksk_rest
  refine wpAny_bind (wpAny_rule ?_)
  first
    | rw [List.forIn_toArray]
    | (rw [← Array.forIn_toList]; simp only [List.toList_toArray])
    | rw [← Array.forIn_toList]
  refine wpAny_bind (ksk_fold (fun i s' => ∃ kA e, J (Array.toList kA) s' ∧ kA.size = i ∧ s'.heap.get? kS = some (seqObj "list" kA e) ∧ s'.heap.get? a = some (seqObj "list" #[] e1)) vs 0 s
    ⟨#[], 0, j0, rfl, nk, na⟩ ?step ?done)
  case step =>
    rintro j x s' hx ⟨kA, e, hj, hsz, nk', na'⟩
    simp only [Nat.zero_add] at hsz ⊢
    have hjl : j < vs.length := (List.getElem?_eq_some_iff.mp hx).1
    refine wpAny_bind (wpAny_attempt (wpAny_mono (turn x kA.toList s' (by rw [Array.length_toList, hsz]; exact hx) hj (by rw [nk']; exact Option.some_ne_none _) (by rw [na']; exact Option.some_ne_none _)) (fun v s'' he => ?_) fun _ _ hF => hF.elim))
    obtain ⟨hj2, k1, k2⟩ := he
    try dsimp only
    have nk2 := k1 _ nk'
    have na2 := k2 _ na'
    have s1 := Heap.SameBut.update s''.heap kS (Obj.mapSeq (·.push v))
    obtain ⟨c2, hc2⟩ : ∃ c2, (s''.heap.update kS (Obj.mapSeq (·.push v))).get? kS = some (seqObj "list" (kA.push v) c2) := ⟨_, get?_update_seq nk2 (·.push v)⟩
    refine wpAny_bind (listUpdate_at nk2 rfl ?_ (by omega) (Nat.le_trans (Nat.le_of_eq (Array.size_push ..)) (by omega)))
    refine wpAny_pure ⟨rfl, kA.push v, c2, ?_, by rw [Array.size_push, hsz], hc2, (s1.2 a hka.symm).trans na2⟩
    rw [show (kA.push v).toList = kA.toList ++ [v] by simp]
    exact I.upd _ _ _ hj2 s1
  case done =>
    rintro s' ⟨kA, e, hj, hsz, nk', na'⟩
    have hsz' : kA.size = vs.length := by rw [hsz]; omega
    have hk' := I.reads _ _ hj
    have e3 : kz.take kA.toList.length = kz := by rw [Array.length_toList, hsz', ← hlen, List.take_length]
    rw [e3] at hk'
    try dsimp only
    refine wpAny_bind (listItems_at nk' rfl ?_)
    exact keyJ_end (κ := dataKind s'.heap kz) nk' na' hka (SortsAt.data hk' hal hsk hu) hsz' hZ fun h3 tk3 c k3 n3 => h _ s' h3 tk3 _ c hj k3 (by rw [na']; exact Option.some_ne_none _) (by rw [nk']; exact Option.some_ne_none _) n3 ⟨s'.heap, kA.toList, hal, rfl, hk'⟩
end
section
variable {prog : Program} {w : World} {A : Around} {E : Value → Shared → Prop} {s : Shared} {vs : List Value} {kz : List PyData}
theorem keyJ_tree {a : Addr} {b : Bool} {P : PySem.Fin → Shared → Prop} {f : Value} {n : Nat} (ho : s.heap.get? a = some (seqObj "list" vs.toArray n)) (hlen : kz.length = vs.length) (hZ : vs.length ≤ sizeLine) (hal : AllAlike kz) (hsk : Sortable kz) (hu : ∀ d, d ∈ kz → A.units + d.depth < cLine)
    (J : Addr → List Value → Shared → Prop) (I : ∀ kS, KeysInv a kS kz (J kS))
    (j0 : ∀ kS h, (∀ b o, b ≠ a → s.heap.get? b = some o → h.get? b = some o) → s.heap.objs.size ≤ kS → a < kS → J kS [] { s with heap := h })
    (turn : ∀ (kS : Addr) (v : Value) (ks : List Value) (s' : Shared) , vs[ks.length]? = some v → J kS ks s' → s'.heap.get? kS ≠ none → s'.heap.get? a ≠ none →
      wpAny (model prog w) A (call f [v]) (fun u s'' => J kS (ks ++ [u]) s'' ∧ (∀ o, s'.heap.get? kS = some o → s''.heap.get? kS = some o) ∧ ∀ o, s'.heap.get? a = some o → s''.heap.get? a = some o) (fun _ _ => False) s')
    (h : ∀ kS ks s' h' tk out c, J kS ks s' → Keeps2 a kS s'.heap h' → s'.heap.get? a ≠ none → s'.heap.get? kS ≠ none → h'.get? a = some (seqObj "list" (List.toArray out) c) → KeyedOut b kz vs out → P (.done (.ret .none)) { s' with heap := h', toks := tk }) :
    wpAny (model prog w) A (ksk_tree a f b) P E s := by
  have ha : a < s.heap.objs.size := Heap.lt_size ho
  obtain ⟨e1, ho1⟩ : ∃ e1, (s.heap.update a (Obj.mapSeq fun _ => (#[] : Array Value))).get? a = some (seqObj "list" #[] e1) := ⟨_, get?_update_seq ho fun _ => #[]⟩
  have hkS : ((s.heap.update a (Obj.mapSeq fun _ => (#[] : Array Value))).push (seqObj "tuple" vs.toArray 0)).objs.size = s.heap.objs.size + 1 := by rw [size_push', Heap.size_update]
  unfold ksk_tree
  refine wpAny_bind (listItems_at ho rfl ?_)
  refine wpAny_bind (listUpdate_at ho rfl ?_ (by rw [List.size_toArray]; exact hZ) (Nat.zero_le _))
  refine wpAny_bind (seqEpoch_at ho1 rfl ?_)
  refine wpAny_bind (wpAny_newTuple ?_ (by show vs.length ≤ _; exact hZ))
  refine wpAny_bind (wpAny_newList ?_ (Nat.zero_le _))
  refine wpAny_holding ?_
  have kp : ∀ b o, b ≠ a → s.heap.get? b = some o → (sortingHeap s.heap a vs).get? b = some o := fun b o hb q => sortingHeap_old hb q
  have lt : a < ((s.heap.update a (Obj.mapSeq fun _ => (#[] : Array Value))).push (seqObj "tuple" vs.toArray 0)).objs.size := by rw [hkS]; exact Nat.lt_succ_of_lt ha
  refine keyJ_rest (kz := kz) (s := { s with heap := ((s.heap.update a (Obj.mapSeq fun _ => (#[] : Array Value))).push (seqObj "tuple" vs.toArray 0)).push (seqObj "list" #[] 0) }) (kS := ((s.heap.update a (Obj.mapSeq fun _ => (#[] : Array Value))).push (seqObj "tuple" vs.toArray 0)).objs.size)
    (J := J _) (I _) (j0 _ _ kp (by rw [hkS]; exact Nat.le_succ _) lt) (Heap.get?_push_size _ rfl) (Heap.get?_push_of_some _ (Heap.get?_push_of_some _ ho1)) (Nat.ne_of_gt lt) hlen hZ hal hsk hu (turn _) (h _)
/-- sorted(xs, key=f) -/
theorem keyJ_sorted {l : Addr} {f : Value} {kw : List (Str × Value)} {b : Bool} {Q : Value → Shared → Prop} (hl : s.heap.IsList l vs.toArray) (hlen : kz.length = vs.length) (hal : AllAlike kz) (hk : Sortable kz) (hL : vs.length ≤ sizeLine)
    (hu : ∀ x, x ∈ kz → A.units + 2 + x.depth < cLine) (ha1 : argsOk "sorted" ⟨[.ref l], kw⟩) (ha2 : ∀ x, argsOk "list.sort" ⟨[.ref x], kw⟩) (ht : ∀ x, Builtin.«list.sort» ⟨[.ref x], kw⟩ = ksk_tree x f b)
    (J : Addr → List Value → Shared → Prop) (I : ∀ kS, KeysInv (s.heap.objs.size + 1) kS kz (J kS))
    (j0 : ∀ kS h, (∀ b o, s.heap.get? b = some o → h.get? b = some o) → s.heap.objs.size + 1 < kS → J kS [] { s with heap := h })
    (turn : ∀ (kS : Addr) (v : Value) (ks : List Value) (s' : Shared) , vs[ks.length]? = some v → J kS ks s' → s'.heap.get? kS ≠ none → s'.heap.get? (s.heap.objs.size + 1) ≠ none →
      wpAny (model prog w) A.in1.in1 (call f [v]) (fun u s'' => J kS (ks ++ [u]) s'' ∧ (∀ o, s'.heap.get? kS = some o → s''.heap.get? kS = some o) ∧ ∀ o, s'.heap.get? (s.heap.objs.size + 1) = some o → s''.heap.get? (s.heap.objs.size + 1) = some o) (fun _ _ => False) s')
    (h : ∀ kS ks s' h' tk out c, J kS ks s' → Keeps2 (s.heap.objs.size + 1) kS s'.heap h' → h'.get? (s.heap.objs.size + 1) = some (seqObj "list" (List.toArray out) c) → KeyedOut b kz vs out →
      Q (.ref (s.heap.objs.size + 1)) { s' with heap := h', toks := tk }) :
    wpAny (model prog w) A (call (.builtin "sorted") [.ref l] kw) Q E s := by
  refine sorted_of_sort hl hL ha1 ha2 fun E' => ?_
  rw [ht]
  exact keyJ_tree (kz := kz) (s := { s with heap := copyHeap s.heap vs }) (copyHeap_at s.heap vs) hlen hL hal hk (fun x hx => by have := hu x hx; show A.units + 1 + 1 + x.depth < cLine; omega) J I
    (fun kS h kp _ lt => j0 kS h (fun b o q => kp b o (Nat.ne_of_lt (Nat.lt_succ_of_lt (Heap.lt_size q))) (copyHeap_old q)) lt) turn fun kS ks s' h' tk out c a1 a2 _ _ a3 a4 => ⟨rfl, h kS ks s' h' tk out c a1 a2 a3 a4⟩
end
end Mn
set_option Elab.async false
set_option linter.all false
set_option maxRecDepth 100000
set_option maxHeartbeats 4000000
namespace Mn
open PySem PySem.Spec PyProof.Rows L2
section
variable {X : Cx} {K : PySem.W.Frag} {A : Ad} {Wx : WX} {B : Bs} {σ σ1 σ2 : L2.St} {ρ ρ' : Env} {T : Tmps} {H H' F : Hp} {O : Addr → Option Owner}
theorem dpa_of_get : ∀ {vs : List V} {ds : List D}, vs.length = ds.length → (∀ (i : Nat) v d, vs[i]? = some v → ds[i]? = some d → Dq K F v d) → DqAll K F vs ds
  | [], [], _, _ => .nil
  | [], _ :: _, h, _ => by cases h
  | _ :: _, [], h, _ => by cases h
  | v :: vs, d :: ds, h, g => .cons (g 0 v d rfl rfl) (dpa_of_get (by simpa using h) fun i w e h1 h2 => g (i + 1) w e (by simpa using h1) (by simpa using h2))
/-- data in the temporaries -/
def dT (ds : List D) (vs : List V) : Tmps := (ds.map R.d).zip vs
theorem dT_get {ds : List D} {vs : List V} {i : Nat} {v : V} {d : D} (h1 : vs[i]? = some v) (h2 : ds[i]? = some d) : (dT ds vs)[i]? = some (.d d, v) := by
  unfold dT
  rw [List.getElem?_zip_eq_some]
  exact ⟨by rw [List.getElem?_map, h2]; rfl, h1⟩
theorem dT_len {ds : List D} {vs : List V} (h : vs.length = ds.length) : (dT ds vs).length = ds.length := by
  unfold dT
  rw [List.length_zip, List.length_map, h, Nat.min_self]
theorem dT_snoc {ds : List D} {vs : List V} {d : D} {v : V} (h : vs.length = ds.length) : dT ds vs ++ [(.d d, v)] = dT (ds ++ [d]) (vs ++ [v]) := by
  unfold dT
  rw [List.map_append, List.zip_append (by rw [List.length_map, h])]
  rfl
theorem Sep.getT {T1 T2 : Tmps} {ds : List D} {vs : List V} (S : Sep K A B σ ρ (T1 ++ dT ds vs ++ T2) H F O) (h : vs.length = ds.length) : DqAll K F vs ds := by
  refine dpa_of_get h fun i v d h1 h2 => ?_
  have hi : i < (dT ds vs).length := by rw [dT_len h]; exact (List.getElem?_eq_some_iff.mp h2).1
  exact S.temps (T1.length + i) (.d d) v (by
    rw [List.append_assoc, List.getElem?_append_right (by omega), Nat.add_sub_cancel_left, List.getElem?_append_left hi]
    exact dT_get h1 h2)
theorem Sep.pushAll : ∀ {ds : List D} {vs : List V} {T : Tmps}, Sep K A B σ ρ T H F O → DqAll K F vs ds → Sep K A B σ ρ (T ++ dT ds vs) H F O
  | [], _, T, S, .nil => by simpa [dT] using S
  | d :: ds, v :: vs, T, S, .cons h t => by
    have := Sep.pushAll (S.push (r := .d d) (v := v) h) t
    have e : T ++ [(R.d d, v)] ++ dT ds vs = T ++ dT (d :: ds) (v :: vs) := by simp [dT]
    rwa [e] at this
theorem keys_length {call : List W → CRes} : ∀ {xs ks : List D}, keysBy call xs = some ks → ks.length = xs.length
  | [], ks, h => by cases h; rfl
  | x :: xs, ks, h => by
    unfold keysBy at h
    split at h
    · rename_i k ks2 h1 h2
      cases h
      simp [keys_length h2]
    · cases h
theorem keys_get {call : List W → CRes} : ∀ {xs ks : List D} {i : Nat} {x : D}, keysBy call xs = some ks → xs[i]? = some x → ∃ k, ks[i]? = some k ∧ call [.d x] = .ret (.d k) none
  | [], ks, i, x, h, hx => by simp at hx
  | y :: xs, ks, i, x, h, hx => by
    unfold keysBy at h
    split at h
    · rename_i k ks2 h1 h2
      cases h
      cases i with
      | zero => simp at hx; subst hx; exact ⟨k, rfl, h1⟩
      | succ i =>
        obtain ⟨k', a, b⟩ := keys_get (i := i) h2 (by simpa using hx)
        exact ⟨k', by simpa using a, b⟩
    · cases h
/-- a promise kept under another's hood (within a built-in that calls) -/
theorem run_deep {g : Bool} {k : Nat} {f : Addr} {fd : FuncData} {ps : List Str} {sp : Sp} {pins : List (Addr × Obj)} {σ : L2.St} {H : Hp} {s : Shared} {Q : VK} {us : List Value} {vs : List V} {A2 : Around} (Fn : FnG g X.prog X.w X.K X.mg X.base k f fd ps sp) (hg : g = true → A2.guards = some []) (hr : Room k A2) (hb : Binds X.K fd ps []) (hf : A2.frames = X.A.frames)
    (I : Inv X pins σ H s) (r : Vals vs us) (h : sp vs H Q (fun _ _ _ => False)) : wpAny (model X.prog X.w) A2 (call (.ref f) us) (fun u s' => CE X.stack X.prog X.w H s Q u s') (fun _ _ => False) s := by
  have hl : (us ++ ([] : List Value)).length = ps.length := by
    rw [List.append_nil, ← r.length]
    exact Fn.len _ _ _ _ h
  have b := hb s us I.kIn hl
  rw [List.append_nil] at b
  have rr := Fn.run A2 X.stack s H ⟨us, []⟩ us vs Q (fun _ _ _ => False) hg hr { I.env0 with frames := hf.trans I.env0.frames } b r h
  refine wpAny_call (codeAny_mono rr fun res s' hq => ?_)
  match res, hq with
  | .error e, hq =>
    obtain ⟨_, _, _, _, _, _, _, _, _, _, _, _, z⟩ := hq
    exact z.elim
  | .ok (.ret u), hq => exact hq
  | .ok .next, hq => exact (show False from hq).elim
  | .ok .brk, hq => exact (show False from hq).elim
  | .ok .cont, hq => exact (show False from hq).elim
theorem hok_adopt {P : Program} {w : World} {H : Hp} {h : Heap} {a : Addr} {o : HO} (x : HOk P w H h) (hn : H a = none) (new : ObjOk P w (upd H a o) h a o) : HOk P w (upd H a o) h := fun b u e => by
  by_cases hb : b = a
  · subst hb; rw [upd_same] at e; cases e; exact new
  · rw [upd_ne hb] at e
    exact (x b u e).stay (fun c v _ q => q) (fun c q => by rw [upd_ne (ne_of_none q hn)]; exact q) fun c xs q => by rw [upd_ne (ne_of_none q hn)]; exact q
theorem un_adopt {fs ex : List Addr} {H : Hp} {h : Heap} {a : Addr} {o : HO} (hn : H a = none) (hx : a ∈ ex) : Un fs ex H (upd H a o) h h where
  keep := fun b ob e _ _ _ => e
  slot := fun b ob e _ _ _ => ⟨ob.slots, e⟩
  free := fun b ob e n nx => by rw [upd_ne (fun z => nx (by rw [z]; exact hx))]; exact n
  there := fun b ob e _ => ⟨ob, e⟩
  tups := fun b xs e => by rw [upd_ne (ne_of_none e hn)]; exact e
  frzs := fun b ob u e => by rw [upd_ne (ne_of_none e hn)]; exact e
  tbls := fun b ps e => ⟨#[], by rw [upd_ne (ne_of_none e hn), Array.append_empty]; exact e⟩
/-- an untracked object of ours is tracked from now on -/
theorem inv_adopt {pins : List (Addr × Obj)} {σ : L2.St} {s : Shared} {a : Addr} {o : HO} (I : Inv X pins σ H s) (f : FpOk X pins H a) (new : ObjOk X.prog X.w (upd H a o) s.heap a o) : Inv X pins σ (upd H a o) s :=
  I.call' (s' := s) (ch := [a]) rfl (un_adopt f.1 List.mem_cons_self) (hok_adopt I.hok f.1 new) I.bare fun b hb => by
    obtain rfl := List.mem_singleton.mp hb
    exact ⟨f.2.2.2.1, f.2.1, f.2.2.2.2.1, f.2.2.2.2.2⟩
def rSortKey (K : PySem.W.Frag) (A : Ad) (f : Str) (call : List W → CRes) : List V → List V → Hp → VK → Prop := fun vs zs H Q =>
  ∃ (B : Bs) (σ : L2.St) (ρ : Env) (T : Tmps) (F : Hp) (O : Addr → Option Owner) (l : Addr) (us : List V) (xs ks : List D), vs = [V.ref l] ∧ zs = [V.ref (A f)] ∧ Sep K A B σ ρ T H F O ∧ Rd H l (.lst us) ∧ DqAll K F us xs ∧ keysBy call xs = some ks ∧ sortOk ks = true ∧
    ∀ (ws : List V) (p : Addr) (H' F' : Hp) (O' : Addr → Option Owner), Sep K A B σ ρ T H' F' O' → H' p = none → DqAll K F' ws (sortByK xs ks) → Q (.ref p) (upd H' p (.lst ws))
theorem cr_sortKey {g : Bool} {k : Nat} {f : Str} {fd : FuncData} {ps : List Str} {call : List W → CRes} (Fn : FnG g X.prog X.w X.K X.mg X.base k (A f) fd ps (spC X.K A 1 call)) (hg : g = true → X.A.guards = some []) (hr : Room (k + 2) X.A) (hb : Binds X.K fd ps []) :
    CallRK X (.builtin "sorted") [Str.ofString "key"] (rSortKey X.K A f call) := by
  intro pins s σX H vs zs us0 ws0 Q I r rz h
  obtain ⟨B, σ, ρ, T, F, O, l, us, xs, kz, rfl, rfl, S, hl, hd, hk, hok, q⟩ := h
  obtain rfl := Vals.ref1 r
  obtain ⟨w1, rfl, e1⟩ := vals1 rz
  obtain rfl : w1 = Value.ref (A f) := e1
  obtain ⟨al, so, len, dep⟩ := sortOk_of hok
  obtain ⟨its, n, rv, e1, hz⟩ := rd_list I hl
  have kl : kz.length = xs.length := keys_length hk
  have ul : us.length = xs.length := dpa_len hd
  have il : its.length = us.length := rv.length.symm
  have S0 := S.pushAll hd
  let J : Addr → List Value → Shared → Prop := fun kS ks s' => ∃ (H' F' : Hp) (O' : Addr → Option Owner) (zs : List V), Inv X pins σX H' s' ∧ Sep X.K A B σ ρ (T ++ dT xs us ++ dT (kz.take ks.length) zs) H' F' O' ∧ Vals zs ks ∧ ks.length ≤ kz.length ∧ FpOk X pins H' kS ∧ FpOk X pins H' (s.heap.objs.size + 1)
  have zl : ∀ {ks : List Value} {zs : List V}, Vals zs ks → ks.length ≤ kz.length → zs.length = (kz.take ks.length).length := fun {ks zs} r h => by rw [r.length, List.length_take]; omega
  have room2 : Room k X.A.in1.in1 := hr.in1.in1
  have hI : ∀ kS, KeysInv (s.heap.objs.size + 1) kS kz (J kS) := fun kS => by
    constructor
    · rintro ks s' ⟨H', F', O', zs, I', S', r', hle, _, _⟩
      have dz : DqAll X.K F' zs (kz.take ks.length) := Sep.getT (T1 := T ++ dT xs us) (T2 := []) (by rw [List.append_nil]; exact S') (zl r' hle)
      exact each_reads I' S'.fh (each_of r' dz)
    · rintro ks s' h ⟨H', F', O', zs, I', S', r', hle, f1, f2⟩ sb
      exact ⟨H', F', O', zs, I'.turnedL (t' := s'.toks) (ch := [kS]) (fun b o hb e => (sb.2 b (fun z => hb (by simp [z]))).trans e) (fun b hb => by obtain rfl := List.mem_singleton.mp hb; exact f1), S', r', hle, f1, f2⟩
  refine keyJ_sorted (vs := its) (kz := kz) (b := false) ⟨_, e1, rfl, n, rfl⟩ (by omega) al so (Nat.le_trans (by omega) lim_size) (fun x hx => ?_) (PyProof.Rows.ksk_s1 _ _) (fun _ => PyProof.Rows.ksk_l1 _ _) (fun x => PyProof.Rows.ksk_t1 _ _) J hI (fun kS h kp lt => ?_) (fun kS v ks s' hv hj nk na => ?_) fun kS ks s' h' tk out c hj k2 ha ko => ?_
  · have := dep x hx
    have := hr.un
    omega
  · exact ⟨H, F, O, [], I.kept (t' := s.toks) kp, by simpa [dT] using S0, .nil, Nat.zero_le _, I.fpOk (Nat.le_of_lt (Nat.lt_of_succ_lt lt)) (I.hok.fresh (Nat.le_of_lt (Nat.lt_of_succ_lt lt))), I.fpOk (Nat.le_succ _) (I.hok.fresh (Nat.le_succ _))⟩
  · obtain ⟨H', F', O', zs, I', S', r', hle, f1, f2⟩ := hj
    have hi : ks.length < its.length := (List.getElem?_eq_some_iff.mp hv).1
    obtain ⟨x, hx⟩ : ∃ x, xs[ks.length]? = some x := ⟨_, List.getElem?_eq_getElem (by omega)⟩
    obtain ⟨y, hy⟩ : ∃ y, us[ks.length]? = some y := ⟨_, List.getElem?_eq_getElem (by omega)⟩
    obtain ⟨v', hv', rvy⟩ := rv.get hy
    rw [hv] at hv'
    cases hv'
    obtain ⟨kd, hkd, hcall⟩ := keys_get hk hx
    have dx : DqAll X.K F' us xs := Sep.getT (T1 := T) S' ul
    obtain ⟨y', hy', dxy⟩ := dpa_get dx hx
    rw [hy] at hy'
    cases hy'
    have sp : spC X.K A 1 call [y] H' (fun v2 H2 => At X.K A B σ ρ (T ++ dT xs us ++ dT (kz.take ks.length) zs ++ [(.d kd, v2)]) H2) (WE (fun _ _ _ _ => False) σ) := call_plain (ws := [.d x]) S' (.d dxy .nil) rfl (fun r o hc => by
      rw [hcall] at hc
      cases hc
      exact ⟨(fun i z => nomatch z), fun v H2 a => a⟩) (fun c hc => by rw [hcall] at hc; cases hc) (by rw [hcall]; exact fun z => nomatch z)
    refine wpAny_mono (run_deep (A2 := X.A.in1.in1) Fn hg room2 hb rfl I' (.cons rvy .nil) sp) (fun u s'' ce => ?_) fun _ _ z => z
    have ce' := ce
    obtain ⟨v2, H2, os, bare, un, hok2, rv2, F2, O2, S2⟩ := ce
    have keepFp : ∀ b, FpOk X pins H' b → s'.heap.get? b ≠ none → (∀ o, s'.heap.get? b = some o → s''.heap.get? b = some o) ∧ FpOk X pins H2 b := fun b fp nb => by
      have nfr : b ∉ frs X.stack := fun z => (List.mem_cons.mp (I'.stkSub b z)).elim fp.2.1 fp.2.2.1
      refine ⟨fun o e => un.keep b o e fp.1 nfr (by simp), ?_, fp.2⟩
      cases q : s'.heap.get? b with
      | none => exact absurd q nb
      | some o => exact un.free b o q fp.1 (by simp)
    obtain ⟨c1, g1⟩ := keepFp kS f1 nk
    obtain ⟨c2, g2⟩ := keepFp _ f2 na
    refine ⟨⟨H2, F2, O2, zs ++ [v2], I'.call' os un hok2 bare (fun b z => absurd z (by simp)), ?_, r'.append (.cons rv2 .nil), by rw [List.length_append, List.length_singleton]; omega, g1, g2⟩, c1, c2⟩
    have e2 : kz.take (ks ++ [u]).length = kz.take ks.length ++ [kd] := by
      rw [List.length_append, List.length_singleton, List.take_succ, hkd]
      rfl
    rw [e2, ← dT_snoc (zl r' hle), ← List.append_assoc]
    exact S2
  · obtain ⟨H', F', O', zs, I', S', r', hle, f1, f2⟩ := hj
    have dx : DqAll X.K F' us xs := Sep.getT (T1 := T) S' ul
    have eR := each_of rv dx
    have ez : PySem.W.EachIs (fun v (p : D × D) => RD X.K F' v p.1) its (xs.zip kz) := by
      have go : ∀ {vs : List Value} {xs ks : List D}, PySem.W.EachIs (RD X.K F') vs xs → ks.length = xs.length → PySem.W.EachIs (fun v (p : D × D) => RD X.K F' v p.1) vs (xs.zip ks) := by
        intro vs xs ks e
        induction e generalizing ks with
        | nil => intro _; simpa using PySem.W.EachIs.nil
        | cons h t ih =>
          intro hl
          cases ks with
          | nil => cases hl
          | cons k ks =>
            rw [List.zip_cons_cons]
            exact .cons h (ih (by simpa using hl))
      exact go eR kl
    have em : (xs.zip kz).map (fun p => p.2) = kz := List.map_snd_zip (by omega)
    have eo := PySem.W.keyedOut_each (rev := false) (R := fun v (p : D × D) => RD X.K F' v p.1) (bs := xs.zip kz) (fun p => p.2) (by rw [em]; exact ko) ez
    have eo2 : PySem.W.EachIs (RD X.K F') out (sortByK xs kz) := by
      have go : ∀ {vs : List Value} {ps : List (D × D)}, PySem.W.EachIs (fun v (p : D × D) => RD X.K F' v p.1) vs ps → PySem.W.EachIs (RD X.K F') vs (ps.map (·.1)) := by
        intro vs ps e
        induction e with
        | nil => exact .nil
        | cons h t ih => exact .cons h ih
      rw [sortByK_eq]
      exact go eo
    obtain ⟨ws, rw_, dw⟩ := of_each eo2
    have I1 : Inv X pins σX H' { s' with heap := h', toks := tk } := I'.turnedL (ch := [s.heap.objs.size + 1, kS]) (fun b o hb e => k2 b o (fun z => hb (by simp [z])) (fun z => hb (by simp [z])) e) fun b hb => by
      have e' : b = s.heap.objs.size + 1 ∨ b = kS := by simpa using hb
      rcases e' with z | z
      · rw [z]; exact f2
      · rw [z]; exact f1
    have sl : (sortByK xs kz).length ≤ LIM := by
      rw [sortByK_eq, List.length_map, List.length_mergeSort, List.length_zip]
      omega
    refine ⟨.ref (s.heap.objs.size + 1), _, inv_adopt I1 f2 (o := .lst ws) ⟨by rw [dpa_len dw]; exact Nat.le_trans sl lim_size, out, c, rw_, ha⟩, rfl, ?_⟩
    exact q ws _ H' F' O' (S'.drop.drop) f2.1 dw
abbrev sortKEv (Γ : Ctx) (f : Str) (ev : Env → Res (R × Env)) : Env → Res (R × Env) := fun ρ => do
  let (x, ρ) ← ev ρ
  let u ← Res.of (x.peek ρ)
  match u with
  | .list xs => do
    let ks ← Res.of (keysBy (Γ.call Γ.g f) xs)
    if (sortOk ks && noListsD ks) = true then .ok (.fresh (sortByK xs ks), ρ) else .stuck
  | _ => .stuck
theorem rd_sortK {Γ : Ctx} {k : Nat} {f : Str} {fd : FuncData} {ps : List Str} {e : Expr} {p q kp pos : Pos} {ev : Env → Res (R × Env)} (Fn : FnG Γ.g X.prog X.w X.K X.mg X.base k (A f) fd ps (spC X.K A 1 (Γ.call Γ.g f))) (hgd : Γ.g = true → X.A.guards = some []) (hr : Room (k + 2) X.A) (hb : Binds X.K fd ps [])
    (hg : Gl X "sorted") (hm : X.mg "sorted" = none) (hgf : Gl X f) (hmf : X.mg f = some (.ref (A f))) (hdb : (f == ("__debug__" : Str)) = false) (he : PE X e (RdE X.K A Wx ev)) (hs : noStar e = true) :
    PE X (.Call (.Name "sorted" p) [e] [⟨some "key", .Name f q, kp⟩] pos) (RdE X.K A Wx (sortKEv Γ f ev)) := by
  refine PE_imp (pe_callBK (cr_sortKey Fn hgd hr hb) hg hm (by decide +kernel) (pa_cons he pa_nil (star_head (noStar_ne hs))) (pk_cons (pe_glob (v := .ref (A f)) hgf hmf rfl hdb) pk_nil) (by decide) (by decide) (by rw [star_head (noStar_ne hs)]; rfl) (by rw [star_head (noStar_ne hs)]; rfl) rfl rfl rfl) fun σ H Q ⟨B, ρ, T, at_, g⟩ => ?_
  refine ⟨B, ρ, T, at_, (gd_bind.mp g).mono (fun ⟨x, ρ1⟩ g1 v H1 ⟨F, O, S⟩ => ?_) fun _ _ h => h⟩
  obtain ⟨u, e1, g2⟩ := gd_of (gd_bind.mp g1)
  cases u with
  | list xs =>
    obtain ⟨ks, e2, g3⟩ := gd_of (gd_bind.mp g2)
    obtain ⟨hok, g4⟩ := gd_if_stuck g3
    rw [Bool.and_eq_true] at hok
    obtain ⟨l, us, rfl, hl, dd⟩ := S.peekL one_top e1
    exact ⟨B, σ, ρ1, T ++ [(x, .ref l)], F, O, l, us, xs, ks, rfl, rfl, S, hl, dd, e2, hok.1, fun ws p H' F' O' S' hp dw => g4 _ _ (S'.drop.newLst hp dw)⟩
  | _ => exact (show False from g2).elim
end
end Mn
set_option Elab.async false
set_option linter.all false
set_option maxRecDepth 100000
set_option maxHeartbeats 4000000
namespace Mn
open PySem PySem.Spec PyProof.Rows L2
section
variable {X : Cx} {K : PySem.W.Frag} {A : Ad} {Wx : WX} {B : Bs} {σ σ1 σ2 : L2.St} {ρ ρ' : Env} {T : Tmps} {H H' F : Hp} {O : Addr → Option Owner}
theorem rg_dq (i : Int) : ∀ n : Nat, DqAll K F ((List.range n).map fun k => V.int (i + (k : Nat))) ((List.range n).map fun (k : Nat) => .int (i + k)) := fun n => by
  refine dpa_of_get (by simp) fun j v d h1 h2 => ?_
  rw [List.getElem?_map] at h1 h2
  cases q : (List.range n)[j]? with
  | none => rw [q] at h1; cases h1
  | some k =>
    rw [q] at h1 h2
    cases h1
    cases h2
    exact .int _
theorem lim24 : LIM ≤ 2 ^ 24 := by decide
theorem rd_rngL1 {g : Bool} {e : Expr} {p p2 pos pos2 : Pos} {ev : Env → Res (R × Env)} (hc : X.calm = true) (hg : Gl X "list") (hm : X.mg "list" = none) (hg2 : Gl X "range") (hm2 : X.mg "range" = none) (ha : PE X e (RdE X.K A Wx ev)) (hs : noStar e = true) :
    PE X (.Call (.Name "list" p) [.Call (.Name "range" p2) [e] [] pos2] [] pos) (RdE X.K A Wx fun ρ => do
      let (x, ρ) ← ev ρ
      let u ← Res.of (x.peek ρ)
      let r ← Res.of (bltD g .rngL1 [u])
      .ok (r, ρ)) := by
  refine PE_imp (pe_listRg hc hg hm (prg_1 hg2 hm2 ha (star_head (noStar_ne hs)))) fun σ H Q ⟨B, ρ, T, at_, gg⟩ => ?_
  refine ⟨B, ρ, T, at_, (gd_bind.mp gg).mono (fun ⟨x, ρ1⟩ g1 v H1 ⟨F, O, S⟩ => ?_) fun _ _ h => h⟩
  obtain ⟨u, e1, g2⟩ := gd_of (gd_bind.mp g1)
  obtain ⟨r, e2, g3⟩ := gd_of (gd_bind.mp g2)
  cases u with
  | int j =>
    unfold bltD at e2
    simp only at e2
    split at e2
    · rename_i cond
      cases e2
      have hv := dp_int (S.peek one_top e1)
      subst hv
      have l24 := lim24
      have lz : (LIM : Int) = 1000000 := rfl
      rw [lz] at cond
      refine ⟨j, rfl, ⟨by omega, by omega, by omega, by omega, by omega⟩, fun q hq => g3 _ _ (S.drop.newLst hq ?_)⟩
      have := rg_dq (K := X.K) (F := F) 0 (j - 0).toNat
      simp only [Int.zero_add] at this
      unfold rgV
      simpa using this
    · cases e2
  | _ => cases e2
theorem rd_rngL2 {Γ : Ctx} {e e' : Expr} {es : Es} {p p2 pos pos2 : Pos} {ev : Env → Res (List R × Env)} {ev1 ev2 : Env → Res (R × Env)} (hev : ∀ ρ, ev ρ = (do
      let (x, ρ) ← ev1 ρ
      let (y, ρ) ← ev2 ρ
      .ok ([x, y], ρ))) (hc : X.calm = true) (hg : Gl X "list") (hm : X.mg "list" = none) (hg2 : Gl X "range") (hm2 : X.mg "range" = none) (ha : PE X e (RdE X.K A Wx ev1)) (ha' : PE X e' (RdE X.K A Wx ev2)) (hs : noStar e = true) (hs' : noStar e' = true) :
    PE X (.Call (.Name "list" p) [.Call (.Name "range" p2) [e, e'] [] pos2] [] pos) (RdE X.K A Wx (bltEv Γ.g .rngL2 ev)) := by
  refine PE_imp (pe_listRg hc hg hm (prg_2 hg2 hm2 ha ha' (star_head (noStar_ne hs)) (star_head (noStar_ne hs')) (star_plain (by rw [List.all_cons, hs']; rfl)))) fun σ H Q ⟨B, ρ, T, at_, gg⟩ => ?_
  have gg' := gd_bind.mp gg
  rw [hev] at gg'
  refine ⟨B, ρ, T, at_, (gd_bind.mp gg').mono (fun ⟨x, ρ1⟩ g1 v H1 at1 => ?_) fun _ _ h => h⟩
  refine ⟨B, ρ1, _, at1, (gd_bind.mp g1).mono (fun ⟨y, ρ2⟩ g2 v' H2 ⟨F, O, S⟩ => ?_) fun _ _ h => h⟩
  have g2' : Gd (do
    let xs ← Res.of (peekAll ρ2 [x, y])
    let r ← Res.of (bltD Γ.g .rngL2 xs)
    .ok (r, ρ2) : Res (R × Env)) _ _ := g2
  obtain ⟨xs, e1, g3⟩ := gd_of (gd_bind.mp g2')
  obtain ⟨r, e2, g4⟩ := gd_of (gd_bind.mp g3)
  match xs, e2 with
  | [.int i, .int j], e2 =>
    simp only [bltD] at e2
    split at e2
    · rename_i cond
      cases e2
      obtain ⟨_, _, _, _, q1, q2, p1, p2⟩ := two_arg (ρ := ρ2) (rs := [x, y]) (vs := [v, v']) rfl e1
      cases q1
      cases q2
      have S' : Sep X.K A B σ ρ2 (T ++ [x, y].zip [v, v']) H2 F O := by simpa using S
      have e3 := dp_int (S'.peek zip2_at.1 p1)
      have e4 := dp_int (S'.peek zip2_at.2 p2)
      subst e3 e4
      have l24 := lim24
      have lz : (LIM : Int) = 1000000 := rfl
      rw [lz] at cond
      refine ⟨i, j, rfl, rfl, ⟨by omega, by omega, by omega, by omega, ?_⟩, fun q hq => g4 _ _ (S.drop.drop.newLst hq (rg_dq i _))⟩
      omega
    · cases e2
end
end Mn
set_option Elab.async false
set_option linter.all false
set_option maxRecDepth 100000
set_option maxHeartbeats 1000000
namespace Mn
open PySem PySem.Spec PyProof.Rows L2

/-! ## which program text a value of the small language stands for -/
structure Cfg where
  N : List Str
  ar : Str → Option Nat
  gl : Str → Bool
  bl : Str → Bool
  exn : Str → Bool
def glB (sc : Scope) (x : Str) : Bool := decide (sc.names.lookup x = some .globalImplicit) && !(x == ("__debug__" : Str))
def visB (sc : Scope) (x : Str) : Bool := (decide (sc.names.lookup x = some .local) || decide (sc.names.lookup x = some .cell) || decide (sc.names.lookup x = some .free)) && !(x == ("__debug__" : Str)) && !(x == ("__classdict__" : Str))
def ownP (N : List Str) (scope : Scope) : List (Str × Nat) := scope.names.filterMap fun y => if y.2 = .local ∨ y.2 = .cell then (N.findIdx? (· == y.1)).map fun i => (y.1, i) else none
def cpB : Cp → CmpOp → Bool
  | .eq, .Eq => true | .ne, .NotEq => true | .lt, .Lt => true | .le, .LtE => true | .gt, .Gt => true | .ge, .GtE => true | .isin, .In => true | .notin, .NotIn => true
  | _, _ => false
def opB : Op2 → Operator → Bool
  | .add, .Add => true | .sub, .Sub => true | .mul, .Mult => true | .mod, .Mod => true | .fdiv, .FloorDiv => true | .pow, .Pow => true
  | _, _ => false
theorem cpB_eq {o : Cp} {p : CmpOp} (h : cpB o p = true) : p = o.py := by
  cases o <;> cases p <;> first | rfl | cases h
theorem opB_eq {o : Op2} {p : Operator} (h : opB o p = true) : p = o.py := by
  cases o <;> cases p <;> first | rfl | cases h
/-- a block's names, what it captured of the def's cells known as cells -/
def relS (sc scope : Scope) : Scope := { scope with names := scope.names.map fun (n, k) => if (k == .free && sc.kind == .function && sc.names.lookup n == some .cell) then (n, .cell) else (n, k) }
/-- a name that may be stored to: sf: the names as written -/
def stoB (sc sf : Scope) (x : Str) : Bool := decide (sc.names.lookup x = some .local) || (decide (sc.names.lookup x = some .cell) && decide (sf.names.lookup x = some .cell))
def chkTg (N : List Str) (sc sf : Scope) : Tg → Expr → Bool
  | .one i, .Name x _ => decide (N[i]? = some x) && stoB sc sf x
  | .row is, .Tuple es _ _ => go is es
  | _, _ => false
where go : List Nat → List Expr → Bool
  | [], [] => true
  | i :: is, .Name x _ :: es => decide (N[i]? = some x) && stoB sc sf x && go is es
  | _, _ => false
def isFun : Blt → Option String
  | .len => some "len" | .abs => some "abs" | .sorted => some "sorted" | .repr => some "repr" | .all => some "all" | .any => some "any" | .min2 => some "min" | .max2 => some "max"
  | _ => none
def isTy : Blt → Option String
  | .int => some "int" | .tuple => some "tuple" | .list => some "list"
  | _ => none
/-- a method's call on a slot -/
def mthB (N : List Str) (sc : Scope) (i : Nat) (m : Str) (f : Expr) (cpos : Pos) : Bool := match f with
  | .Attribute (.Name x _) m' apos => (m == m') && decide (N[i]? = some x) && visB sc x && (apos.endLine == cpos.line)
  | _ => false
/-- what is checked of a built-in's arguments -/
def bltArgs (c : Cfg) (sc : Scope) (b : Blt) (f : Str) (xs : List Expr) : Option (List Expr) := match b with
  | .isStr => (match xs with
    | [x, .Name n _] => if f = "isinstance" ∧ glB sc f ∧ c.bl f ∧ n = "str" ∧ glB sc n ∧ c.bl n then some [x] else none
    | _ => none)
  | .isTup => (match xs with
    | [x, .Name n _] => if f = "isinstance" ∧ glB sc f ∧ c.bl f ∧ n = "tuple" ∧ glB sc n ∧ c.bl n then some [x] else none
    | _ => none)
  | .sset => (match xs with
    | [.Call (.Name n _) [x] [] _] => if f = "sorted" ∧ glB sc f ∧ c.bl f ∧ n = "set" ∧ glB sc n ∧ c.bl n then some [x] else none
    | _ => none)
  | .rngL1 => (match xs with
    | [.Call (.Name n _) [x] [] _] => if f = "list" ∧ glB sc f ∧ c.bl f ∧ n = "range" ∧ glB sc n ∧ c.bl n then some [x] else none
    | _ => none)
  | .rngL2 => (match xs with
    | [.Call (.Name n _) [x, y] [] _] => if f = "list" ∧ glB sc f ∧ c.bl f ∧ n = "range" ∧ glB sc n ∧ c.bl n then some [x, y] else none
    | _ => none)
  | b => if f = b.name ∧ glB sc f ∧ c.bl f ∧ !xs.isEmpty then some xs else none
mutual
def chkE (c : Cfg) (lm : Bool) (sc : Scope) : E → Expr → Bool
  | .non, e => match e with
    | .Constant .none _ _ => true
    | _ => false
  | .bl b, e => match e with
    | .Constant (.bool b') _ _ => decide (b = b')
    | _ => false
  | .int i, e => match e with
    | .Constant (.int i') _ _ => decide (i = i')
    | .UnaryOp p (.Constant (.int i') _ _) _ => decide (p = .USub) && decide (i = -i')
    | _ => false
  | .str s, e => match e with
    | .Constant (.str s') _ _ => decide (s = s')
    | _ => false
  | .var i, e => match e with
    | .Name x _ => decide (c.N[i]? = some x) && visB sc x
    | _ => false
  | .glo y, e => match e with
    | .Name x _ => decide (y = x) && glB sc x && c.gl x
    | _ => false
  | .fn y, e => match e with
    | .Name x _ => decide (y = x) && glB sc x && (c.ar x).isSome
    | _ => false
  | .tup es, e => match e with
    | .Tuple xs _ _ => xs.all noStar && chkEs c lm sc es xs
    | _ => false
  | .lst es, e => match e with
    | .List xs _ => xs.all noStar && chkEs c lm sc es xs
    | _ => false
  | .op o a b, e => match e with
    | .BinOp x p y _ => opB o p && chkE c lm sc a x && chkE c lm sc b y
    | _ => false
  | .rep a b, e => match e with
    | .BinOp x p y _ => decide (p = .Mult) && chkE c lm sc a x && chkE c lm sc b y
    | _ => false
  | .ite t a b, e => match e with
    | .IfExp u x y _ => chkC c lm sc t u && chkE c lm sc a x && chkE c lm sc b y
    | _ => false
  | .call f es, e => match e with
    | .Call (.Name f' _) xs [] _ => decide (f = f') && glB sc f && decide (c.ar f = some xs.length) && xs.all noStar && chkEs c lm sc es xs
    | _ => false
  | .callV i es, e => match e with
    | .Call (.Name x _) xs [] _ => decide (c.N[i]? = some x) && visB sc x && !xs.isEmpty && xs.all noStar && chkEs c lm sc es xs
    | _ => false
  | .sortK f a, e => match e with
    | .Call (.Name n _) [x] [⟨some k, .Name f' _, _⟩] _ => decide (n = "sorted") && glB sc n && c.bl n && decide (k = "key") && decide (f = f') && glB sc f && decide (c.ar f = some 1) && noStar x && chkE c lm sc a x
    | _ => false
  | .blt b es, e => match e with
    | .Call (.Name f _) xs [] _ => (match bltArgs c sc b f xs with
      | some ys => ys.all noStar && chkEs c lm sc es ys
      | none => false)
    | _ => false
  | .idx a i, e => match e with
    | .Subscript x y _ => plainIx y && chkE c lm sc a x && chkE c lm sc i y
    | _ => false
  | .slc a lo hi, e => match e with
    | .Subscript x (.Slice l h none _) _ => chkE c lm sc a x && chkO c lm sc lo l && chkO c lm sc hi h
    | _ => false
  | .lc elt tg it t own, e => match e with
    | .ListComp x [⟨g, i, ifs, 0⟩] scope _ => blkC c.N sc scope (ownP c.N scope) && decide ((ownP c.N scope).map (·.2) = own) && chkTg c.N (relS sc scope) scope tg g && tg.slots.all (fun j => own.contains j) && noSet i && chkI c lm sc it g i && chkOc c false (relS sc scope) t ifs && chkE c false (relS sc scope) elt x
    | _ => false
  | .lc2 elt t1 i1 c1 t2 i2 c2 own own2, e => match e with
    | .ListComp x [⟨g, i, ifs, 0⟩, ⟨g2, j, ifs2, 0⟩] scope _ => blkC c.N sc scope (ownP c.N scope) && decide ((ownP c.N scope).map (·.2) = own) && chkTg c.N (relS sc scope) scope t1 g && t1.slots.all (fun j => own.contains j) && own2.all (fun j => own.contains j) && t2.slots.all (fun j => own2.contains j) && noSet i && noSet j &&
        chkI c lm sc i1 g i && chkOc c false (relS sc scope) c1 ifs && chkTg c.N (relS sc scope) scope t2 g2 && chkI c false (relS sc scope) i2 g2 j && chkOc c false (relS sc scope) c2 ifs2 && chkE c false (relS sc scope) elt x
    | _ => false
  | .ofC t, e => match t with
    | .cmp o a b => (match e with
      | .Compare x [p] [y] _ => cpB o p && noSet y && chkE c lm sc a x && chkE c lm sc b y
      | _ => false)
    | .not (.tru a) => (match e with
      | .UnaryOp p x _ => decide (p = .Not) && chkE c lm sc a x
      | _ => false)
    | .isN a => (match e with
      | .Compare x [p] [.Constant .none _ _] _ => decide (p = .Is) && chkE c lm sc a x
      | _ => false)
    | .notN a => (match e with
      | .Compare x [p] [.Constant .none _ _] _ => decide (p = .IsNot) && chkE c lm sc a x
      | _ => false)
    | _ => false
  | .andV a b, e => match e with
    | .BoolOp p (x :: y :: rest) pos => decide (p = .And) && chkE c lm sc a x && (match rest with
      | [] => chkE c lm sc b y
      | z :: r => chkE c lm sc b (.BoolOp .And (y :: z :: r) pos))
    | _ => false
  | .orV a b, e => match e with
    | .BoolOp p (x :: y :: rest) pos => decide (p = .Or) && chkE c lm sc a x && (match rest with
      | [] => chkE c lm sc b y
      | z :: r => chkE c lm sc b (.BoolOp .Or (y :: z :: r) pos))
    | _ => false
  | .app i a, e => match e with
    | .Call f [x] [] p => mthB c.N sc i "append" f p && noStar x && chkE c lm sc a x
    | _ => false
  | .ext i a, e => match e with
    | .Call f [x] [] p => mthB c.N sc i "extend" f p && noStar x && chkE c lm sc a x
    | _ => false
  | .ins i a b, e => match e with
    | .Call f [x, y] [] p => mthB c.N sc i "insert" f p && noStar x && noStar y && chkE c lm sc a x && chkE c lm sc b y
    | _ => false
  | .pop i, e => match e with
    | .Call f [] [] p => mthB c.N sc i "pop" f p
    | _ => false
  | .heard g a, e => match e with
    | .Call (.Name f _) [.Lambda ⟨[], [], none, [], [], none, []⟩ x scope _] [] _ => lm && decide (g = f) && glB sc f && LamX.lamSB sc scope && chkE c false scope a x
    | _ => false
def chkEs (c : Cfg) (lm : Bool) (sc : Scope) : Es → List Expr → Bool
  | .nil, xs => xs.isEmpty
  | .cons e es, xs => match xs with
    | x :: xs => chkE c lm sc e x && chkEs c lm sc es xs
    | [] => false
def chkO (c : Cfg) (lm : Bool) (sc : Scope) : Oe → Option Expr → Bool
  | .none, x => x.isNone
  | .some e, x => match x with
    | some x => chkE c lm sc e x
    | none => false
def chkOc (c : Cfg) (lm : Bool) (sc : Scope) : Oc → List Expr → Bool
  | .yes, xs => xs.isEmpty
  | .some t, xs => match xs with
    | [x] => chkC c lm sc t x
    | _ => false
def chkC (c : Cfg) (lm : Bool) (sc : Scope) : C → Expr → Bool
  | .cmp o a b, e => match e with
    | .Compare x [p] [y] _ => cpB o p && noSet y && chkE c lm sc a x && chkE c lm sc b y
    | _ => false
  | .chain o o' a b d, e => match e with
    | .Compare x [p, q] [y, z] _ => cpB o p && cpB o' q && noSet z && chkE c lm sc a x && chkE c lm sc b y && chkE c lm sc d z
    | _ => false
  | .and a b, e => match e with
    | .BoolOp p (x :: y :: rest) pos => decide (p = .And) && chkC c lm sc a x && (match rest with
      | [] => chkC c lm sc b y
      | z :: r => chkC c lm sc b (.BoolOp .And (y :: z :: r) pos))
    | _ => false
  | .or a b, e => match e with
    | .BoolOp p (x :: y :: rest) pos => decide (p = .Or) && chkC c lm sc a x && (match rest with
      | [] => chkC c lm sc b y
      | z :: r => chkC c lm sc b (.BoolOp .Or (y :: z :: r) pos))
    | _ => false
  | .not a, e => match e with
    | .UnaryOp p x _ => decide (p = .Not) && chkC c lm sc a x
    | _ => false
  | .tru a, e => plainTest e && chkE c lm sc a e
  | .isN a, e => match e with
    | .Compare x [p] [.Constant .none _ _] _ => decide (p = .Is) && chkE c lm sc a x
    | _ => false
  | .notN a, e => match e with
    | .Compare x [p] [.Constant .none _ _] _ => decide (p = .IsNot) && chkE c lm sc a x
    | _ => false
def chkI (c : Cfg) (lm : Bool) (sc : Scope) : I → Expr → Expr → Bool
  | .seq a, _, e => chkE c lm sc a e
  | .rng1 a, _, e => match e with
    | .Call (.Name f _) [x] [] _ => decide (f = "range") && glB sc f && c.bl f && noStar x && chkE c lm sc a x
    | _ => false
  | .rng2 a b, _, e => match e with
    | .Call (.Name f _) [x, y] [] _ => decide (f = "range") && glB sc f && c.bl f && noStar x && noStar y && chkE c lm sc a x && chkE c lm sc b y
    | _ => false
  | .zip a b, t, e => match t, e with
    | .Tuple _ _ _, .Call (.Name f _) [x, y] [] _ => decide (f = "zip") && glB sc f && c.bl f && noStar x && noStar y && chkE c lm sc a x && chkE c lm sc b y
    | _, _ => false
  | .enum a, t, e => match t, e with
    | .Tuple _ _ _, .Call (.Name f _) [x] [] _ => decide (f = "enumerate") && glB sc f && c.bl f && noStar x && chkE c lm sc a x
    | _, _ => false
end
end Mn
set_option Elab.async false
set_option linter.all false
set_option maxRecDepth 100000
set_option maxHeartbeats 1000000
namespace Mn
open PySem PySem.Spec PyProof.Rows L2

/-- what is known where the program runs -/
structure CxOk (X : Cx) (A : Ad) (Γ : Ctx) (c : Cfg) (sc : Scope) (Wx : WX) : Prop where
  scp : X.env.scope = sc
  N : X.N = c.N
  nd : X.N.Nodup
  calm : X.calm = true
  tk : Takes X Wx
  kind : sc.kind = .function
  units : X.A.units + 65 < cLine
  guards : Γ.g = true → X.A.guards = some []
  calls : ∀ f n, c.ar f = some n → X.mg f = some (.ref (A f)) ∧ PySem.W.keepIn X.K (.ref (A f)) = true ∧ ∃ k fd ps, FnG Γ.g X.prog X.w X.K X.mg X.base k (A f) fd ps (spC X.K A n (Γ.call Γ.g f)) ∧ Room (k + 2) X.A ∧ Binds X.K fd ps []
  ar : ∀ f, Γ.ar f = c.ar f
  glo : ∀ x d, c.gl x = true → Γ.glo x = some d → ∃ v u, X.mg x = some u ∧ RelV v u ∧ ∀ F, Dq X.K F v d
  bl : ∀ x, c.bl x = true → X.mg x = none
  exn : ∀ x, c.exn x = true → ∃ bmB B newId initId, ExcBaseFacts B newId initId bmB ∧ PySem.W.excIn X.K (A x) bmB newId = true ∧ X.mg x = some (.ref (A x)) ∧ PySem.W.keepIn X.K (.ref (A x)) = true ∧ Raises X (.ref (A x))
/-- g(lambda: ..) -/
def HeardOk (X : Cx) (A : Ad) (Γ : Ctx) (c : Cfg) (sc : Scope) (Wx : WX) : Prop := ∀ g hs, Γ.told g = some hs → ∀ (body : Expr) (scope : Scope) (p lpos pos : Pos) (ev : Env → Res (R × Env)), glB sc g = true → LamX.lamSB sc scope = true →
  (∀ Y Wy, CxOk Y A { Γ with g := false, told := fun _ => none } c scope Wy → PE Y body (RdE Y.K A Wy ev)) → PE X (.Call (.Name g p) [.Lambda ⟨[], [], none, [], [], none, []⟩ body scope lpos] [] pos) (RdE X.K A Wx (heardEv hs ev))
section
variable {X : Cx} {A : Ad} {Γ : Ctx} {c : Cfg} {sc : Scope} {Wx : WX}
theorem CxOk.blk (h : CxOk X A Γ c sc Wx) {s : Shared} {H : Hp} {C : Addr} {cl : List (Str × Addr)} {fp : List Addr} {scope : Scope} (hk : scope.kind = .function) :
    CxOk (X.blk s H scope (compEnvC scope cl C X.env) fp) A Γ c (relS sc scope) (fun _ _ _ _ => False) where
  scp := by rw [← h.scp]; rfl
  N := h.N
  nd := h.nd
  calm := h.calm
  tk := LamX.takes0
  kind := hk
  units := h.units
  guards := h.guards
  calls := h.calls
  ar := h.ar
  glo := h.glo
  bl := h.bl
  exn := h.exn
theorem CxOk.gl (h : CxOk X A Γ c sc Wx) {x : Str} (g : glB sc x = true) : Gl X x ∧ (x == ("__debug__" : Str)) = false := by
  unfold glB at g
  simp only [Bool.and_eq_true, decide_eq_true_eq, Bool.not_eq_true'] at g
  exact ⟨by show X.env.scope.names.lookup x = _; rw [h.scp]; exact g.1, g.2⟩
theorem CxOk.var (h : CxOk X A Γ c sc Wx) {x : Str} {i : Nat} {p : Pos} (hi : c.N[i]? = some x) (g : visB sc x = true) : PE X (.Name x p) (tVar i) := by
  unfold visB at g
  simp only [Bool.and_eq_true, Bool.or_eq_true, decide_eq_true_eq, Bool.not_eq_true'] at g
  obtain ⟨⟨v, d⟩, cd⟩ := g
  refine pe_var (by rw [h.N]; exact hi) ?_ d cd
  unfold Vis
  rw [h.scp]
  rcases v with (v | v) | v
  · exact .inl v
  · exact .inr (.inl v)
  · exact .inr (.inr v)
theorem CxOk.visOf (h : CxOk X A Γ c sc Wx) {x : Str} (g : visB sc x = true) : Vis X.env.scope x ∧ (x == ("__debug__" : Str)) = false ∧ (x == ("__classdict__" : Str)) = false := by
  unfold visB at g
  simp only [Bool.and_eq_true, Bool.or_eq_true, decide_eq_true_eq, Bool.not_eq_true'] at g
  obtain ⟨⟨v, d⟩, cd⟩ := g
  refine ⟨?_, d, cd⟩
  unfold Vis
  rw [h.scp]
  rcases v with (v | v) | v
  · exact .inl v
  · exact .inr (.inl v)
  · exact .inr (.inr v)
theorem CxOk.pg (h : CxOk X A Γ c sc Wx) {sf : Scope} (hf : ∀ x, sf.names.lookup x = some .cell → X.fn x = true) {x : Str} {i : Nat} {p : Pos} (hi : c.N[i]? = some x) (g : stoB sc sf x = true) : PG X (.Name x p) (gName i) := by
  unfold stoB at g
  simp only [Bool.and_eq_true, Bool.or_eq_true, decide_eq_true_eq] at g
  refine pg_name h.nd (by rw [h.N]; exact hi) (by unfold L2.Loc; rw [h.scp]; exact g.imp id And.left) ?_
  rcases g with g | g
  · exact .inr (by rw [h.scp]; exact g)
  · exact .inl (hf x g.2)
theorem go_ok (h : CxOk X A Γ c sc Wx) {sf : Scope} (hf : ∀ x, sf.names.lookup x = some .cell → X.fn x = true) : ∀ {is : List Nat} {es : List Expr}, chkTg.go c.N sc sf is es = true → PGs X es (gRow is) ∧ (assignEach es X.env).length = is.length ∧ (assignEach es X.env).findIdx? (·.1) = none
  | [], [], _ => ⟨pgs_nil, rfl, rfl⟩
  | [], e :: es, g => by simp [chkTg.go] at g
  | i :: is, [], g => by simp [chkTg.go] at g
  | i :: is, e :: es, g => by
    cases e with
    | Name x p =>
      simp only [chkTg.go, Bool.and_eq_true, decide_eq_true_eq] at g
      obtain ⟨⟨g1, g2⟩, g3⟩ := g
      obtain ⟨q1, q2, q3⟩ := go_ok h hf g3
      refine ⟨pgs_cons (h.pg hf g1 g2) q1 rfl, ?_, ?_⟩
      · show (assignEach es X.env).length + 1 = _
        rw [q2]; rfl
      · show List.findIdx? _ ((false, _) :: assignEach es X.env) = none
        rw [List.findIdx?_cons]
        simp only [Bool.false_eq_true, if_false]
        rw [q3]; rfl
    | _ => simp [chkTg.go] at g
theorem tg_ok (h : CxOk X A Γ c sc Wx) {sf : Scope} (hf : ∀ x, sf.names.lookup x = some .cell → X.fn x = true) {t : Tg} {e : Expr} (g : chkTg c.N sc sf t e = true) : PG X e (RdG X.K t) := by
  cases t with
  | one i =>
    cases e with
    | Name x p =>
      simp only [chkTg, Bool.and_eq_true, decide_eq_true_eq] at g
      exact h.pg hf g.1 g.2
    | _ => simp [chkTg] at g
  | row is =>
    cases e with
    | Tuple es k p =>
      simp only [chkTg] at g
      obtain ⟨q1, q2, q3⟩ := go_ok h hf g
      exact pg_tup h.calm q1 q2 q3
    | _ => simp [chkTg] at g
theorem noSet_folded {e : Expr} (h : noSet e = true) (env : PySem.Env) (x : Value) : foldedSetIterable e env x = pure x := by
  cases e <;> first | rfl | cases h
theorem tsl {t : Tg} {own : List Nat} (h : t.slots.all (fun j => own.contains j) = true) : ∀ j ∈ t.slots, j ∈ own := fun j hj => List.contains_iff_mem.mp (List.all_eq_true.mp h j hj)
theorem repr_g {g : Bool} {xs : List D} {r : R} (e : bltD g .repr xs = some r) : g = true := by
  unfold bltD at e
  split at e <;> first | (rename_i h; cases h; done) | skip
  all_goals first | (cases e; done) | skip
  split at e
  · rename_i h
    simp only [Bool.and_eq_true] at h
    exact h.1.1.1.1
  · cases e
/-- the built-ins -/
theorem bltCall (h : CxOk X A Γ c sc Wx) {b : Blt} {es : List Expr} {p pos : Pos} {evs : Env → Res (List R × Env)} (hg : glB sc b.name = true) (hb : c.bl b.name = true) (hne : es ≠ []) (hs : es.all noStar = true) (ha : PA X es (RdA X.K A Wx evs))
    (h1 : b.sp = false) : PE X (.Call (.Name b.name p) es [] pos) (RdE X.K A Wx (bltEv Γ.g b evs)) := by
  obtain ⟨gl, db⟩ := h.gl hg
  have hm := h.bl _ hb
  match es, hne, hs, ha with
  | e :: es, _, hs, ha =>
    cases b with
    | len => exact rd_bltB (id := "len") call_len gl hm boot_len (by decide) db ha hs h1
    | abs => exact rd_bltB (id := "abs") call_abs gl hm (by decide +kernel) (by decide) db ha hs h1
    | int => exact rd_bltT (id := "int") call_int1 gl hm (by decide +kernel) (by decide) db ha hs h1
    | tuple => exact rd_bltT (id := "tuple") call_tuple_of gl hm (by decide +kernel) (by decide) db ha hs h1
    | list => exact rd_bltT (id := "list") call_list_of gl hm (by decide +kernel) (by decide) db ha hs h1
    | sorted => exact rd_bltB (id := "sorted") (cr_sortD h.units) gl hm (by decide +kernel) (by decide) db ha hs h1
    | repr => 
      rw [List.all_cons, Bool.and_eq_true] at hs
      have hc : CallR X (.builtin "repr") (fun xs H Q => X.A.guards = some [] ∧ bltRule X.K .repr xs H Q) := fun pins s σ H x u Q I rx ⟨g, q⟩ => cr_reprD h.units g pins s σ H x u Q I rx q
      refine PE_imp (pe_callB hc gl hm (by decide +kernel) ha (by decide) db (star_head (noStar_ne hs.1)) (star_plain hs.2)) fun σ H Q ⟨B, ρ, T, at_, gg⟩ => ?_
      refine ⟨B, ρ, T, at_, (gd_bind.mp gg).mono (fun ⟨rs, ρ1⟩ g1 vs H1 hl ⟨F, O, S⟩ => ?_) fun _ _ h => h⟩
      obtain ⟨xs, e1, g2⟩ := gd_of (gd_bind.mp g1)
      obtain ⟨r, e2, g3⟩ := gd_of (gd_bind.mp g2)
      exact ⟨h.guards (repr_g e2), blt_sound S hl e1 e2 g3 h1⟩
    | all => exact rd_bltB (id := "all") (cr_all h.calm) gl hm (by decide +kernel) (by decide) db ha hs h1
    | any => exact rd_bltB (id := "any") (cr_any h.calm) gl hm (by decide +kernel) (by decide) db ha hs h1
    | min2 => exact rd_bltB (id := "min") (call_min2 h.calm) gl hm (by decide +kernel) (by decide) db ha hs h1
    | max2 => exact rd_bltB (id := "max") (call_max2 h.calm) gl hm (by decide +kernel) (by decide) db ha hs h1
    | isStr => cases h1
    | isTup => cases h1
    | sset => cases h1
    | rngL1 => cases h1
    | rngL2 => cases h1
end
end Mn
set_option Elab.async false
set_option linter.all false
set_option maxRecDepth 100000
set_option maxHeartbeats 4000000
namespace Mn
open PySem PySem.Spec PyProof.Rows L2
section
variable {X : Cx} {A : Ad} {Γ : Ctx} {c : Cfg} {sc : Scope} {Wx : WX}
theorem PE_ev {X : Cx} {A : Ad} {Wx : WX} {x : Expr} {ev ev' : Env → Res (R × Env)} (h : PE X x (RdE X.K A Wx ev)) (e : ∀ ρ, ev' ρ = ev ρ) : PE X x (RdE X.K A Wx ev') := (funext e : ev' = ev) ▸ h
theorem PA_ev {X : Cx} {A : Ad} {Wx : WX} {x : List Expr} {ev ev' : Env → Res (List R × Env)} (h : PA X x (RdA X.K A Wx ev)) (e : ∀ ρ, ev' ρ = ev ρ) : PA X x (RdA X.K A Wx ev') := (funext e : ev' = ev) ▸ h
theorem PT_ev {X : Cx} {A : Ad} {Wx : WX} {x : Expr} {ev ev' : Env → Res (Bool × Env)} (h : PT X x (RdT X.K A Wx ev)) (e : ∀ ρ, ev' ρ = ev ρ) : PT X x (RdT X.K A Wx ev') := (funext e : ev' = ev) ▸ h
theorem PW_ev {X : Cx} {A : Ad} {Wx : WX} {x : Expr} {ev ev' : Env → Res (Bool × Env)} (h : PW X x (RdT X.K A Wx ev)) (e : ∀ ρ, ev' ρ = ev ρ) : PW X x (RdT X.K A Wx ev') := (funext e : ev' = ev) ▸ h
theorem PTs_ev {X : Cx} {A : Ad} {Wx : WX} {x : List Expr} {ev ev' : Env → Res (Bool × Env)} (h : PTs X x (RdT X.K A Wx ev)) (e : ∀ ρ, ev' ρ = ev ρ) : PTs X x (RdT X.K A Wx ev') := (funext e : ev' = ev) ▸ h
theorem PO_ev {X : Cx} {A : Ad} {Wx : WX} {x : Option Expr} {ev ev' : Env → Res (Option Int × Env)} (h : PO X x (RdO X.K A Wx ev)) (e : ∀ ρ, ev' ρ = ev ρ) : PO X x (RdO X.K A Wx ev') := (funext e : ev' = ev) ▸ h
theorem PI_ev {X : Cx} {A : Ad} {Wx : WX} {t x : Expr} {ev ev' : Env → Res (List D × Env)} (h : PI X t x (RdI X.K A Wx ev)) (e : ∀ ρ, ev' ρ = ev ρ) : PI X t x (RdI X.K A Wx ev') := (funext e : ev' = ev) ▸ h
theorem pe_no {X : Cx} {x : Expr} : PE X x (fun _ _ _ => False) := ⟨fun _ _ _ _ _ _ h => h.elim⟩
theorem rdts_nil {X : Cx} {A : Ad} {Wx : WX} : PTs X [] (RdT X.K A Wx fun ρ => .ok (true, ρ)) := ⟨fun pins s σ H Q I ⟨B, ρ, T, at_, g⟩ => pts_nil.run pins s σ H Q I (g H at_)⟩
/-- a method's call -/
theorem mth_ok (h : CxOk X A Γ c sc Wx) {i : Nat} {m : Str} {f : Expr} {p : Pos} (g : mthB c.N sc i m f p = true) : ∃ nm apos, f = .Attribute nm m apos ∧ PE X nm (tVar i) ∧ attributeBase nm m X.env (eval nm X.env) = eval nm X.env ∧ (apos.endLine == p.line) = true := by
  unfold mthB at g
  split at g
  · rename_i x p2 m' apos
    simp only [Bool.and_eq_true, beq_iff_eq, decide_eq_true_eq] at g
    obtain ⟨⟨⟨g1, g2⟩, g3⟩, g4⟩ := g
    subst g1
    exact ⟨_, _, rfl, h.var g2 g3, base_name, by rw [g4]; exact beq_self_eq_true _⟩
  · cases g
theorem chkEs_len : ∀ {es : Es} {xs : List Expr} {c : Cfg} {lm : Bool} {sc : Scope}, chkEs c lm sc es xs = true → es.len = xs.length
  | .nil, [], _, _, _, _ => rfl
  | .nil, x :: xs, _, _, _, g => by simp [chkEs] at g
  | .cons a es, [], _, _, _, g => by simp [chkEs] at g
  | .cons a es, x :: xs, c, lm, sc, g => by
    simp only [chkEs, Bool.and_eq_true] at g
    simp only [Es.len, List.length_cons, chkEs_len g.2]
theorem evEs_len {Γ : Ctx} : ∀ {es : Es} {xs : List Expr} {c : Cfg} {lm : Bool} {sc : Scope} {ρ ρ' : Env} {rs : List R}, chkEs c lm sc es xs = true → evEs Γ es ρ = .ok (rs, ρ') → rs.length = xs.length
  | .nil, [], _, _, _, ρ, ρ', rs, _, e => by
    rw [evEs] at e
    cases e
    rfl
  | .nil, x :: xs, _, _, _, ρ, ρ', rs, g, e => by simp [chkEs] at g
  | .cons a es, [], _, _, _, ρ, ρ', rs, g, e => by simp [chkEs] at g
  | .cons a es, x :: xs, c, lm, sc, ρ, ρ', rs, g, e => by
    simp only [chkEs, Bool.and_eq_true] at g
    rw [evEs] at e
    cases q : evE Γ a ρ with
    | stuck => rw [q] at e; cases e
    | ex c ρ1 => rw [q] at e; cases e
    | ok z =>
      obtain ⟨r, ρ1⟩ := z
      rw [q] at e
      have e' : (evEs Γ es ρ1 >>= fun z => (.ok (r :: z.1, z.2) : Res (List R × Env))) = .ok (rs, ρ') := e
      cases q2 : evEs Γ es ρ1 with
      | stuck => rw [q2] at e'; cases e'
      | ex c ρ1 => rw [q2] at e'; cases e'
      | ok z =>
        obtain ⟨rs2, ρ2⟩ := z
        rw [q2] at e'
        have e2 : (.ok (r :: rs2, ρ2) : Res (List R × Env)) = .ok (rs, ρ') := e'
        cases e2
        simp [evEs_len g.2 q2]
end
theorem blt_cases {c : Cfg} {sc : Scope} {b : Blt} {f : Str} {xs ys : List Expr} (h : bltArgs c sc b f xs = some ys) :
    (∃ (n : String) (x : Expr) (n' : Str) (p : Pos), ((b = .isStr ∧ n = "str") ∨ (b = .isTup ∧ n = "tuple")) ∧ xs = [x, .Name n' p] ∧ ys = [x] ∧ f = "isinstance" ∧ glB sc f = true ∧ c.bl f = true ∧ n' = n ∧ glB sc n' = true ∧ c.bl n' = true) ∨
    (∃ (x : Expr) (n : Str) (p p2 : Pos), b = .sset ∧ xs = [.Call (.Name n p) [x] [] p2] ∧ ys = [x] ∧ f = "sorted" ∧ glB sc f = true ∧ c.bl f = true ∧ n = "set" ∧ glB sc n = true ∧ c.bl n = true) ∨
    (∃ (x : Expr) (n : Str) (p p2 : Pos), b = .rngL1 ∧ xs = [.Call (.Name n p) [x] [] p2] ∧ ys = [x] ∧ f = "list" ∧ glB sc f = true ∧ c.bl f = true ∧ n = "range" ∧ glB sc n = true ∧ c.bl n = true) ∨
    (∃ (x y : Expr) (n : Str) (p p2 : Pos), b = .rngL2 ∧ xs = [.Call (.Name n p) [x, y] [] p2] ∧ ys = [x, y] ∧ f = "list" ∧ glB sc f = true ∧ c.bl f = true ∧ n = "range" ∧ glB sc n = true ∧ c.bl n = true) ∨
    (b.sp = false ∧ f = b.name ∧ glB sc f = true ∧ c.bl f = true ∧ xs ≠ [] ∧ ys = xs) := by
  unfold bltArgs at h
  split at h
  · split at h
    · split at h
      · rename_i x n p q
        cases h
        exact .inl ⟨"str", x, n, p, .inl ⟨rfl, rfl⟩, rfl, rfl, q.1, q.2.1, q.2.2.1, q.2.2.2.1, q.2.2.2.2.1, q.2.2.2.2.2⟩
      · cases h
    · cases h
  · split at h
    · split at h
      · rename_i x n p q
        cases h
        exact .inl ⟨"tuple", x, n, p, .inr ⟨rfl, rfl⟩, rfl, rfl, q.1, q.2.1, q.2.2.1, q.2.2.2.1, q.2.2.2.2.1, q.2.2.2.2.2⟩
      · cases h
    · cases h
  · split at h
    · split at h
      · rename_i n p x p2 q
        cases h
        exact .inr (.inl ⟨x, n, p, p2, rfl, rfl, rfl, q.1, q.2.1, q.2.2.1, q.2.2.2.1, q.2.2.2.2.1, q.2.2.2.2.2⟩)
      · cases h
    · cases h
  · split at h
    · split at h
      · rename_i n p x p2 q
        cases h
        exact .inr (.inr (.inl ⟨x, n, p, p2, rfl, rfl, rfl, q.1, q.2.1, q.2.2.1, q.2.2.2.1, q.2.2.2.2.1, q.2.2.2.2.2⟩))
      · cases h
    · cases h
  · split at h
    · split at h
      · rename_i n p x y p2 q
        cases h
        exact .inr (.inr (.inr (.inl ⟨x, y, n, p, p2, rfl, rfl, rfl, q.1, q.2.1, q.2.2.1, q.2.2.2.1, q.2.2.2.2.1, q.2.2.2.2.2⟩)))
      · cases h
    · cases h
  · rename_i n1 n2 n3 n4 n5
    split at h
    · rename_i q
      cases h
      exact .inr (.inr (.inr (.inr ⟨by cases b <;> first | rfl | exact absurd rfl n1 | exact absurd rfl n2 | exact absurd rfl n3 | exact absurd rfl n4 | exact absurd rfl n5, q.1, q.2.1, q.2.2.1, by simpa using q.2.2.2, rfl⟩)))
    · cases h
theorem isi_ev {Γ : Ctx} {b : Blt} {e : E} {ρ : Env} : evE Γ (.blt b (.cons e .nil)) ρ = (do
    let (x, ρ) ← evE Γ e ρ
    let u ← Res.of (x.peek ρ)
    let r ← Res.of (bltD Γ.g b [u])
    .ok (r, ρ)) := by
  rw [evE, evEs]
  cases evE Γ e ρ with
  | stuck => rfl
  | ex c ρ1 => rfl
  | ok z =>
    obtain ⟨x, ρ1⟩ := z
    show (do
      let (rs, ρ) ← (do
        let (rs, ρ) ← evEs Γ .nil ρ1
        .ok (x :: rs, ρ) : Res (List R × Env))
      let xs ← Res.of (peekAll ρ rs)
      let r ← Res.of (bltD Γ.g b xs)
      .ok (r, ρ) : Res (R × Env)) = _
    rw [evEs]
    show (do
      let xs ← Res.of (peekAll ρ1 [x])
      let r ← Res.of (bltD Γ.g b xs)
      .ok (r, ρ1) : Res (R × Env)) = (do
      let u ← Res.of (x.peek ρ1)
      let r ← Res.of (bltD Γ.g b [u])
      .ok (r, ρ1))
    unfold peekAll peekAll
    cases x.peek ρ1 <;> rfl
/-! ## what is checked stands for its text -/
mutual
theorem okE {X : Cx} {A : Ad} {Γ : Ctx} {c : Cfg} {sc : Scope} {Wx : WX} {lm : Bool} (h : CxOk X A Γ c sc Wx) (hd : lm = true → HeardOk X A Γ c sc Wx) : ∀ (e : E) (x : Expr), chkE c lm sc e x = true → PE X x (RdE X.K A Wx (evE Γ e))
  | .non, x, g => by
    simp only [chkE] at g
    split at g
    · exact PE_ev (rd_c pe_non fun _ => .non) fun ρ => by (first | (rw [evE]; done) | (rw [evE]; rfl))
    · cases g
  | .bl b, x, g => by
    simp only [chkE] at g
    split at g
    · cases of_decide_eq_true g
      exact PE_ev (rd_c pe_bl fun _ => .bl _) fun ρ => by (first | (rw [evE]; done) | (rw [evE]; rfl))
    · cases g
  | .int i, x, g => by
    simp only [chkE] at g
    split at g
    · cases of_decide_eq_true g
      exact PE_ev (rd_c pe_int fun _ => .int _) fun ρ => by (first | (rw [evE]; done) | (rw [evE]; rfl))
    · simp only [Bool.and_eq_true, decide_eq_true_eq] at g
      obtain ⟨g1, g2⟩ := g
      subst g1 g2
      exact PE_ev (rd_c (v := .int (-_)) (PE_imp (pe_un un_neg pe_int) fun σ H Q q => ⟨_, rfl, q⟩) fun _ => .int _) fun ρ => by (first | (rw [evE]; done) | (rw [evE]; rfl))
    · cases g
  | .str s, x, g => by
    simp only [chkE] at g
    split at g
    · cases of_decide_eq_true g
      exact PE_ev (rd_c pe_str fun _ => .str _) fun ρ => by (first | (rw [evE]; done) | (rw [evE]; rfl))
    · cases g
  | .var i, x, g => by
    simp only [chkE] at g
    split at g
    · simp only [Bool.and_eq_true, decide_eq_true_eq] at g
      exact rd_var Γ (h.var g.1 g.2)
    · cases g
  | .glo y, x, g => by
    simp only [chkE] at g
    split at g
    · rename_i z p
      simp only [Bool.and_eq_true, decide_eq_true_eq] at g
      obtain ⟨⟨g1, g2⟩, g3⟩ := g
      subst g1
      obtain ⟨gl, db⟩ := h.gl g2
      cases q : Γ.glo y with
      | none =>
        refine PE_imp (pe_no (X := X)) fun σ H Q ⟨B, ρ, T, at_, g⟩ => ?_
        rw [evE, q] at g
        exact (show False from g).elim
      | some d =>
        obtain ⟨v, u, e1, e2, e3⟩ := h.glo y d g3 q
        exact PE_ev (rd_c (pe_glob gl e1 e2 db) e3) fun ρ => by rw [evE, q]
    · cases g
  | .fn y, x, g => by
    simp only [chkE] at g
    split at g
    · rename_i z p
      simp only [Bool.and_eq_true, decide_eq_true_eq] at g
      obtain ⟨⟨g1, g2⟩, g3⟩ := g
      subst g1
      obtain ⟨gl, db⟩ := h.gl g2
      obtain ⟨n, hn⟩ := Option.isSome_iff_exists.mp g3
      obtain ⟨c1, c2, _⟩ := h.calls y n hn
      exact PE_ev (rd_fn (Γ := Γ) (f := y) (pe_glob (v := .ref (A y)) gl c1 rfl db)) fun ρ => by (first | (rw [evE]; done) | (rw [evE]; rfl))
    · cases g
  | .tup es, x, g => by
    simp only [chkE] at g
    split at g
    · simp only [Bool.and_eq_true] at g
      exact PE_ev (rd_tup (okEs h hd es _ g.2 g.1)) fun ρ => by (first | (rw [evE]; done) | (rw [evE]; rfl))
    · cases g
  | .lst es, x, g => by
    simp only [chkE] at g
    split at g
    · simp only [Bool.and_eq_true] at g
      exact PE_ev (rd_lst (okEs h hd es _ g.2 g.1)) fun ρ => by (first | (rw [evE]; done) | (rw [evE]; rfl))
    · cases g
  | .op o a b, x, g => by
    simp only [chkE] at g
    split at g
    · simp only [Bool.and_eq_true] at g
      obtain ⟨⟨g1, g2⟩, g3⟩ := g
      cases opB_eq g1
      exact PE_ev (rd_op (okE h hd a _ g2) (okE h hd b _ g3)) fun ρ => by (first | (rw [evE]; done) | (rw [evE]; rfl))
    · cases g
  | .rep a b, x, g => by
    simp only [chkE] at g
    split at g
    · simp only [Bool.and_eq_true, decide_eq_true_eq] at g
      obtain ⟨⟨g1, g2⟩, g3⟩ := g
      subst g1
      exact PE_ev (rd_rep (okE h hd a _ g2) (okE h hd b _ g3)) fun ρ => by (first | (rw [evE]; done) | (rw [evE]; rfl))
    · cases g
  | .ite t a b, x, g => by
    simp only [chkE] at g
    split at g
    · simp only [Bool.and_eq_true] at g
      obtain ⟨⟨g1, g2⟩, g3⟩ := g
      exact PE_ev (rd_ite (okC h hd t _ g1).1 (okE h hd a _ g2) (okE h hd b _ g3)) fun ρ => by (first | (rw [evE]; done) | (rw [evE]; rfl))
    · cases g
  | .call f es, x, g => by
    simp only [chkE] at g
    split at g
    · rename_i f' p xs pos
      simp only [Bool.and_eq_true, decide_eq_true_eq] at g
      obtain ⟨⟨⟨⟨g1, g2⟩, g3⟩, g4⟩, g5⟩ := g
      subst g1
      obtain ⟨gl, db⟩ := h.gl g2
      obtain ⟨c1, c2, k, fd, ps, c3, c4, c5⟩ := h.calls f _ g3
      by_cases hx : xs = []
      · subst hx
        refine PE_ev (rd_call0 c3 h.guards (c4.mono (by omega)) c5 h.tk gl c1 c2 db) fun ρ => ?_
        match es, g5 with
        | .nil, _ => rw [evE, evEs]
        | .cons _ _, g5 => simp [chkEs] at g5
      · exact PE_ev (rd_call (n := xs.length) c3 h.guards (c4.mono (by omega)) c5 h.tk gl c1 c2 (okEs h hd es _ g5 g4) g4 hx db rfl fun ρ rs ρ' e => evEs_len g5 e) fun ρ => by (first | (rw [evE]; done) | (rw [evE]; rfl))
    · cases g
  | .callV i es, x, g => by
    simp only [chkE] at g
    split at g
    · rename_i y p xs pos
      simp only [Bool.and_eq_true, decide_eq_true_eq, Bool.not_eq_true', List.isEmpty_eq_false_iff] at g
      obtain ⟨⟨⟨⟨g1, g2⟩, g3⟩, g4⟩, g5⟩ := g
      obtain ⟨vis, db, cd⟩ := h.visOf g2
      refine PE_ev (rd_callV (Γ := Γ) (n := es.len) (fun f hf => ?_) h.guards h.tk (by rw [h.N]; exact g1) vis (okEs h hd es _ g5 g4) g4 g3 db cd (chkEs_len g5).symm fun ρ rs ρ' e => evEs_len g5 e) fun ρ => by (first | (rw [evE]; done) | (rw [evE]; rfl))
      obtain ⟨c1, c2, k, fd, ps, c3, c4, c5⟩ := h.calls f _ (by rw [← h.ar]; exact hf)
      exact ⟨c2, k, fd, ps, c3, c4.mono (by omega), c5⟩
    · cases g
  | .sortK f a, x, g => by
    simp only [chkE] at g
    split at g
    · rename_i n p x k f' q kp pos
      simp only [Bool.and_eq_true, decide_eq_true_eq] at g
      obtain ⟨⟨⟨⟨⟨⟨⟨⟨g1, g2⟩, g3⟩, g4⟩, g5⟩, g6⟩, g7⟩, g8⟩, g9⟩ := g
      subst g1 g4 g5
      obtain ⟨c1, c2, k, fd, ps, c3, c4, c5⟩ := h.calls f _ g7
      exact PE_ev (rd_sortK (Γ := Γ) c3 h.guards c4 c5 (h.gl g2).1 (h.bl _ g3) (h.gl g6).1 c1 (h.gl g6).2 (okE h hd a _ g9) g8) fun ρ => by (first | (rw [evE]; done) | (rw [evE]; rfl))
    · cases g
  | .blt b es, x, g => by
    simp only [chkE] at g
    split at g
    · rename_i f p xs pos
      split at g
      · rename_i ys q
        simp only [Bool.and_eq_true] at g
        obtain ⟨g1, g2⟩ := g
        rcases blt_cases q with ⟨n, x, n', p2, q1, q2, q3, q4, q5, q6, q7, q8, q9⟩ | ⟨x, n', p2, p3, q1, q2, q3, q4, q5, q6, q7, q8, q9⟩ | ⟨x, n', p2, p3, q1, q2, q3, q4, q5, q6, q7, q8, q9⟩ | ⟨x, y, n', p2, p3, q1, q2, q3, q4, q5, q6, q7, q8, q9⟩ | ⟨q1, q4, q5, q6, q7, q8⟩
        · subst q2 q3 q4 q7
          match es, g2 with
          | .nil, g2 => simp [chkEs] at g2
          | .cons e .nil, g2 =>
            simp only [chkEs, Bool.and_eq_true] at g2
            simp only [List.all_cons, Bool.and_eq_true] at g1
            exact PE_ev (rd_isi (g := Γ.g) (b := b) (n := n) q1 (h.gl q5).1 (h.bl _ q6) (h.gl q8).1 (h.bl _ q9) (okE h hd e _ g2.1) g1.1) fun ρ => isi_ev
          | .cons e (.cons _ _), g2 => simp [chkEs] at g2
        · subst q1 q2 q3 q4 q7
          match es, g2 with
          | .nil, g2 => simp [chkEs] at g2
          | .cons e .nil, g2 =>
            simp only [chkEs, Bool.and_eq_true] at g2
            simp only [List.all_cons, Bool.and_eq_true] at g1
            exact PE_ev (rd_sset (g := Γ.g) h.calm h.units (h.gl q5).1 (h.bl _ q6) (h.gl q8).1 (h.bl _ q9) (okE h hd e _ g2.1) g1.1) fun ρ => isi_ev
          | .cons e (.cons _ _), g2 => simp [chkEs] at g2
        · subst q1 q2 q3 q4 q7
          match es, g2 with
          | .nil, g2 => simp [chkEs] at g2
          | .cons e .nil, g2 =>
            simp only [chkEs, Bool.and_eq_true] at g2
            simp only [List.all_cons, Bool.and_eq_true] at g1
            exact PE_ev (rd_rngL1 (g := Γ.g) h.calm (h.gl q5).1 (h.bl _ q6) (h.gl q8).1 (h.bl _ q9) (okE h hd e _ g2.1) g1.1) fun ρ => isi_ev
          | .cons e (.cons _ _), g2 => simp [chkEs] at g2
        · subst q1 q2 q3 q4 q7
          match es, g2 with
          | .nil, g2 => simp [chkEs] at g2
          | .cons e .nil, g2 => simp [chkEs] at g2
          | .cons e (.cons e' .nil), g2 =>
            simp only [chkEs, Bool.and_eq_true] at g2
            simp only [List.all_cons, Bool.and_eq_true] at g1
            refine PE_ev (rd_rngL2 (Γ := Γ) (ev := evEs Γ (.cons e (.cons e' .nil))) (es := .nil) (fun ρ => ?_) h.calm (h.gl q5).1 (h.bl _ q6) (h.gl q8).1 (h.bl _ q9) (okE h hd e _ g2.1) (okE h hd e' _ g2.2.1) g1.1 g1.2.1) fun ρ => by (first | (rw [evE]; done) | (rw [evE]; rfl))
            rw [evEs]
            cases evE Γ e ρ with
            | stuck => rfl
            | ex c ρ1 => rfl
            | ok z =>
              obtain ⟨x, ρ1⟩ := z
              show (do
                let (rs, ρ) ← evEs Γ (.cons e' .nil) ρ1
                .ok (x :: rs, ρ) : Res (List R × Env)) = (do
                let (y, ρ) ← evE Γ e' ρ1
                .ok ([x, y], ρ))
              rw [evEs]
              cases evE Γ e' ρ1 with
              | stuck => rfl
              | ex c ρ2 => rfl
              | ok z =>
                obtain ⟨y, ρ2⟩ := z
                show (do
                  let (rs, ρ) ← (do
                    let (rs, ρ) ← evEs Γ .nil ρ2
                    .ok (y :: rs, ρ) : Res (List R × Env))
                  .ok (x :: rs, ρ) : Res (List R × Env)) = _
                rw [evEs]
                rfl
          | .cons e (.cons e' (.cons _ _)), g2 => simp [chkEs] at g2
        · subst q4 q8
          exact PE_ev (bltCall h q5 q6 q7 g1 (okEs h hd es _ g2 g1) q1) fun ρ => by (first | (rw [evE]; done) | (rw [evE]; rfl))
      · cases g
    · cases g
  | .idx a i, x, g => by
    simp only [chkE] at g
    split at g
    · simp only [Bool.and_eq_true] at g
      obtain ⟨⟨g1, g2⟩, g3⟩ := g
      exact PE_ev (rd_idx g1 (okE h hd a _ g2) (okE h hd i _ g3)) fun ρ => by (first | (rw [evE]; done) | (rw [evE]; rfl))
    · cases g
  | .slc a lo hi, x, g => by
    simp only [chkE] at g
    split at g
    · simp only [Bool.and_eq_true] at g
      obtain ⟨⟨g1, g2⟩, g3⟩ := g
      exact PE_ev (rd_slc (okE h hd a _ g1) (okO h hd lo _ g2) (okO h hd hi _ g3)) fun ρ => by (first | (rw [evE]; done) | (rw [evE]; rfl))
    · cases g
  | .lc elt tg it t own, x, g => by
    simp only [chkE] at g
    split at g
    · rename_i xe tgx ix ifs scope pos
      simp only [Bool.and_eq_true, decide_eq_true_eq] at g
      obtain ⟨⟨⟨⟨⟨⟨⟨g1, g2⟩, g3⟩, g4⟩, g5⟩, g6⟩, g7⟩, g8⟩ := g
      have ok : BlkOk X.N X.env.scope scope (ownP c.N scope) := by rw [h.N, h.scp]; exact blkOk_by g1
      have nd : X.N.Nodup := h.nd
      refine PE_imp (pe_lc (g := RdG X.K tg) (tt := RdT X.K A (fun _ _ _ _ => False) (evOc Γ t)) (te := RdE X.K A (fun _ _ _ _ => False) (evE Γ elt)) h.calm nd (okI h hd it tgx ix g6) ok (fun s H C cl fp => tg_ok (h.blk ok.kind) (sf := scope) (fun x hx => by show (scope.names.lookup x == some .cell) = true; rw [hx]; rfl) g3)
        (fun s H C cl fp => okOc (lm := false) (h.blk ok.kind) (fun z => Bool.noConfusion z) t ifs g7) (fun s H C cl fp => okE (lm := false) (h.blk ok.kind) (fun z => Bool.noConfusion z) elt xe g8) (noSet_folded g5 _)) fun σ H Q q => ?_
      rw [g2]
      refine lc_sound (tsl g4) ?_
      rwa [show evE Γ (.lc elt tg it t own) = _ from funext fun ρ => evE.eq_def _ _ _] at q
    · cases g
  | .lc2 elt t1 i1 c1 t2 i2 c2 own own2, x, g => by
    simp only [chkE] at g
    split at g
    · rename_i xe tgx ix ifs tgx2 ix2 ifs2 scope pos
      simp only [Bool.and_eq_true, decide_eq_true_eq] at g
      obtain ⟨⟨⟨⟨⟨⟨⟨⟨⟨⟨⟨⟨⟨g1, g2⟩, g3⟩, g4⟩, g5⟩, g6⟩, g7⟩, g8⟩, g9⟩, g10⟩, g11⟩, g12⟩, g13⟩, g14⟩ := g
      have ok : BlkOk X.N X.env.scope scope (ownP c.N scope) := by rw [h.N, h.scp]; exact blkOk_by g1
      have nd : X.N.Nodup := h.nd
      have hfs : ∀ x, scope.names.lookup x = some .cell → (scope.names.lookup x == some .cell) = true := fun x hx => by rw [hx]; rfl
      have i21 : ∀ j ∈ own2, j ∈ own := fun j hj => List.contains_iff_mem.mp (List.all_eq_true.mp g5 j hj)
      refine PE_imp (pe_lc2 (vs1 := own2) (wi1 := RdI X.K A (fun _ _ _ _ => False) (evI Γ i2)) (g := RdG X.K t1) (g1 := RdG X.K t2) (tt := RdT X.K A (fun _ _ _ _ => False) (evOc Γ c1)) (tt1 := RdT X.K A (fun _ _ _ _ => False) (evOc Γ c2)) (te := RdE X.K A (fun _ _ _ _ => False) (evE Γ elt)) h.calm nd (okI h hd i1 tgx ix g9) ok (by rw [g2]; exact i21) (fun s H C cl fp => tg_ok (h.blk ok.kind) (sf := scope) hfs g3)
        (fun s H C cl fp => okOc (lm := false) (h.blk ok.kind) (fun z => Bool.noConfusion z) c1 ifs g10) (fun s H C cl fp => okI (lm := false) (h.blk ok.kind) (fun z => Bool.noConfusion z) i2 tgx2 ix2 g12) (fun s H C cl fp => tg_ok (h.blk ok.kind) (sf := scope) hfs g11)
        (fun s H C cl fp => okOc (lm := false) (h.blk ok.kind) (fun z => Bool.noConfusion z) c2 ifs2 g13) (fun s H C cl fp => okE (lm := false) (h.blk ok.kind) (fun z => Bool.noConfusion z) elt xe g14) (noSet_folded g7 _) (noSet_folded g8)) fun σ H Q q => ?_
      rw [g2]
      refine lc2_sound (tsl g4) (tsl g6) i21 ?_
      rwa [show evE Γ (.lc2 elt t1 i1 c1 t2 i2 c2 own own2) = _ from funext fun ρ => evE.eq_def _ _ _] at q
    · cases g
  | .ofC (.cmp o a b), x, g => by
    simp only [chkE] at g
    split at g
    · simp only [Bool.and_eq_true] at g
      obtain ⟨⟨⟨g1, g2⟩, g3⟩, g4⟩ := g
      cases cpB_eq g1
      exact PE_ev (rd_cmp h.units g2 (okE h hd a _ g3) (okE h hd b _ g4)) fun ρ => by (first | (rw [evE, evC]; done) | (rw [evE, evC]; rfl))
    · cases g
  | .ofC (.not (.tru a)), x, g => by
    simp only [chkE] at g
    split at g
    · simp only [Bool.and_eq_true, decide_eq_true_eq] at g
      obtain ⟨g1, g2⟩ := g
      subst g1
      exact PE_ev (rd_notT (okE h hd a _ g2)) fun ρ => by (first | (rw [evE, evC, evC]; done) | (rw [evE, evC, evC]; rfl))
    · cases g
  | .ofC (.isN a), x, g => by
    simp only [chkE] at g
    split at g
    · simp only [Bool.and_eq_true, decide_eq_true_eq] at g
      obtain ⟨g1, g2⟩ := g
      subst g1
      exact PE_ev (rd_isN (okE h hd a _ g2)) fun ρ => by (first | (rw [evE, evC]; done) | (rw [evE, evC]; rfl))
    · cases g
  | .ofC (.notN a), x, g => by
    simp only [chkE] at g
    split at g
    · simp only [Bool.and_eq_true, decide_eq_true_eq] at g
      obtain ⟨g1, g2⟩ := g
      subst g1
      exact PE_ev (rd_notN (okE h hd a _ g2)) fun ρ => by (first | (rw [evE, evC]; done) | (rw [evE, evC]; rfl))
    · cases g
  | .ofC (.chain _ _ _ _ _), x, g => by simp [chkE] at g
  | .ofC (.and _ _), x, g => by simp [chkE] at g
  | .ofC (.or _ _), x, g => by simp [chkE] at g
  | .ofC (.tru _), x, g => by simp [chkE] at g
  | .ofC (.not (.cmp _ _ _)), x, g => by simp [chkE] at g
  | .ofC (.not (.chain _ _ _ _ _)), x, g => by simp [chkE] at g
  | .ofC (.not (.and _ _)), x, g => by simp [chkE] at g
  | .ofC (.not (.or _ _)), x, g => by simp [chkE] at g
  | .ofC (.not (.not _)), x, g => by simp [chkE] at g
  | .ofC (.not (.isN _)), x, g => by simp [chkE] at g
  | .ofC (.not (.notN _)), x, g => by simp [chkE] at g
  | .andV a b, x, g => by
    simp only [chkE] at g
    split at g
    · rename_i p x y rest pos
      simp only [Bool.and_eq_true, decide_eq_true_eq] at g
      obtain ⟨⟨g1, g2⟩, g3⟩ := g
      subst g1
      split at g3
      · exact PE_ev (rd_and (okE h hd a _ g2) (rd_one (okE h hd b _ g3))) fun ρ => by (first | (rw [evE]; done) | (rw [evE]; rfl))
      · exact PE_ev (rd_and (okE h hd a _ g2) (okE h hd b _ g3)) fun ρ => by (first | (rw [evE]; done) | (rw [evE]; rfl))
    · cases g
  | .orV a b, x, g => by
    simp only [chkE] at g
    split at g
    · rename_i p x y rest pos
      simp only [Bool.and_eq_true, decide_eq_true_eq] at g
      obtain ⟨⟨g1, g2⟩, g3⟩ := g
      subst g1
      split at g3
      · exact PE_ev (rd_or (okE h hd a _ g2) (rd_one (okE h hd b _ g3))) fun ρ => by (first | (rw [evE]; done) | (rw [evE]; rfl))
      · exact PE_ev (rd_or (okE h hd a _ g2) (okE h hd b _ g3)) fun ρ => by (first | (rw [evE]; done) | (rw [evE]; rfl))
    · cases g
  | .app i a, x, g => by
    simp only [chkE] at g
    split at g
    · simp only [Bool.and_eq_true] at g
      obtain ⟨⟨g1, g2⟩, g3⟩ := g
      obtain ⟨nm, apos, e1, e2, e3, e4⟩ := mth_ok h g1
      subst e1
      exact PE_ev (rd_app e2 e3 (okE h hd a _ g3) g2 e4) fun ρ => by (first | (rw [evE]; done) | (rw [evE]; rfl))
    · cases g
  | .ext i a, x, g => by
    simp only [chkE] at g
    split at g
    · simp only [Bool.and_eq_true] at g
      obtain ⟨⟨g1, g2⟩, g3⟩ := g
      obtain ⟨nm, apos, e1, e2, e3, e4⟩ := mth_ok h g1
      subst e1
      exact PE_ev (rd_ext e2 e3 (okE h hd a _ g3) g2 e4) fun ρ => by (first | (rw [evE]; done) | (rw [evE]; rfl))
    · cases g
  | .ins i a b, x, g => by
    simp only [chkE] at g
    split at g
    · simp only [Bool.and_eq_true] at g
      obtain ⟨⟨⟨⟨g1, g2⟩, g3⟩, g4⟩, g5⟩ := g
      obtain ⟨nm, apos, e1, e2, e3, e4⟩ := mth_ok h g1
      subst e1
      exact PE_ev (rd_ins e2 e3 (okE h hd a _ g4) (okE h hd b _ g5) g2 g3 e4) fun ρ => by (first | (rw [evE]; done) | (rw [evE]; rfl))
    · cases g
  | .pop i, x, g => by
    simp only [chkE] at g
    split at g
    · obtain ⟨nm, apos, e1, e2, e3, e4⟩ := mth_ok h g
      subst e1
      exact PE_ev (rd_pop e2 e3 e4) fun ρ => by (first | (rw [evE]; done) | (rw [evE]; rfl))
    · cases g
  | .heard f a, x, g => by
    simp only [chkE] at g
    split at g
    · simp only [Bool.and_eq_true, decide_eq_true_eq] at g
      obtain ⟨⟨⟨⟨g1, g2⟩, g3⟩, g4⟩, g5⟩ := g
      subst g2
      cases q : Γ.told f with
      | none =>
        refine PE_imp (pe_no (X := X)) fun σ H Q ⟨B, ρ, T, at_, g⟩ => ?_
        rw [evE, q] at g
        exact (show False from g).elim
      | some hs => exact PE_ev (hd g1 f hs q _ _ _ _ _ (evE { Γ with g := false, told := fun _ => none } a) g3 g4 fun Y Wy hy => okE (lm := false) hy (fun z => Bool.noConfusion z) a _ g5) fun ρ => by first | (rw [evE, q]; done) | (rw [evE, q]; rfl)
    · cases g
theorem okEs {X : Cx} {A : Ad} {Γ : Ctx} {c : Cfg} {sc : Scope} {Wx : WX} {lm : Bool} (h : CxOk X A Γ c sc Wx) (hd : lm = true → HeardOk X A Γ c sc Wx) : ∀ (es : Es) (xs : List Expr), chkEs c lm sc es xs = true → xs.all noStar = true → PA X xs (RdA X.K A Wx (evEs Γ es))
  | .nil, xs, g, _ => by
    simp only [chkEs, List.isEmpty_iff] at g
    subst g
    exact PA_ev rda_nil fun ρ => by (first | (rw [evEs]; done) | (rw [evEs]; rfl))
  | .cons e es, xs, g, hs => by
    simp only [chkEs] at g
    split at g
    · simp only [Bool.and_eq_true] at g
      rw [List.all_cons, Bool.and_eq_true] at hs
      exact PA_ev (rda_cons (okE h hd e _ g.1) (okEs h hd es _ g.2 hs.2) hs.1) fun ρ => by (first | (rw [evEs]; done) | (rw [evEs]; rfl))
    · cases g
theorem okO {X : Cx} {A : Ad} {Γ : Ctx} {c : Cfg} {sc : Scope} {Wx : WX} {lm : Bool} (h : CxOk X A Γ c sc Wx) (hd : lm = true → HeardOk X A Γ c sc Wx) : ∀ (e : Oe) (x : Option Expr), chkO c lm sc e x = true → PO X x (RdO X.K A Wx (evO Γ e))
  | .none, x, g => by
    simp only [chkO, Option.isNone_iff_eq_none] at g
    subst g
    exact PO_ev rdo_none fun ρ => by (first | (rw [evO]; done) | (rw [evO]; rfl))
  | .some e, x, g => by
    simp only [chkO] at g
    split at g
    · exact PO_ev (rdo_some (okE h hd e _ g)) fun ρ => by (first | (rw [evO]; done) | (rw [evO]; rfl))
    · cases g
theorem okOc {X : Cx} {A : Ad} {Γ : Ctx} {c : Cfg} {sc : Scope} {Wx : WX} {lm : Bool} (h : CxOk X A Γ c sc Wx) (hd : lm = true → HeardOk X A Γ c sc Wx) : ∀ (t : Oc) (xs : List Expr), chkOc c lm sc t xs = true → PTs X xs (RdT X.K A Wx (evOc Γ t))
  | .yes, xs, g => by
    simp only [chkOc, List.isEmpty_iff] at g
    subst g
    exact PTs_ev (rdts_nil) fun ρ => by (first | (rw [evOc]; done) | (rw [evOc]; rfl))
  | .some t, xs, g => by
    simp only [chkOc] at g
    split at g
    · exact PTs_ev (pts_one (okC h hd t _ g).1) fun ρ => by (first | (rw [evOc]; done) | (rw [evOc]; rfl))
    · cases g
theorem okC {X : Cx} {A : Ad} {Γ : Ctx} {c : Cfg} {sc : Scope} {Wx : WX} {lm : Bool} (h : CxOk X A Γ c sc Wx) (hd : lm = true → HeardOk X A Γ c sc Wx) : ∀ (t : C) (x : Expr), chkC c lm sc t x = true → PT X x (RdT X.K A Wx (evC Γ t)) ∧ ((∃ op vs pos, x = .BoolOp op vs pos) → PW X x (RdT X.K A Wx (evC Γ t)))
  | .cmp o a b, x, g => by
    simp only [chkC] at g
    split at g
    · simp only [Bool.and_eq_true] at g
      obtain ⟨⟨⟨g1, g2⟩, g3⟩, g4⟩ := g
      cases cpB_eq g1
      exact ⟨PT_ev (rdt_cmp h.units g2 (okE h hd a _ g3) (okE h hd b _ g4)) fun ρ => by (first | (rw [evC]; done) | (rw [evC]; rfl)), fun ⟨_, _, _, z⟩ => nomatch z⟩
    · cases g
  | .chain o o' a b d, x, g => by
    simp only [chkC] at g
    split at g
    · simp only [Bool.and_eq_true] at g
      obtain ⟨⟨⟨⟨⟨g1, g2⟩, g3⟩, g4⟩, g5⟩, g6⟩ := g
      cases cpB_eq g1
      cases cpB_eq g2
      exact ⟨PT_ev (rdt_chain h.units g3 (okE h hd a _ g4) (okE h hd b _ g5) (okE h hd d _ g6)) fun ρ => by (first | (rw [evC]; done) | (rw [evC]; rfl)), fun ⟨_, _, _, z⟩ => nomatch z⟩
    · cases g
  | .and a b, x, g => by
    simp only [chkC] at g
    split at g
    · rename_i p x y rest pos
      simp only [Bool.and_eq_true, decide_eq_true_eq] at g
      obtain ⟨⟨g1, g2⟩, g3⟩ := g
      subst g1
      have key : PW X (.BoolOp .And (x :: y :: rest) pos) (RdT X.K A Wx (evC Γ (.and a b))) := by
        split at g3
        · exact PW_ev (rdw_and (okC h hd a _ g2).1 (pw_and1 (okC h hd b _ g3).1)) fun ρ => by (first | (rw [evC]; done) | (rw [evC]; rfl))
        · exact PW_ev (rdw_and (okC h hd a _ g2).1 ((okC h hd b _ g3).2 ⟨_, _, _, rfl⟩)) fun ρ => by (first | (rw [evC]; done) | (rw [evC]; rfl))
      exact ⟨key.pt, fun _ => key⟩
    · cases g
  | .or a b, x, g => by
    simp only [chkC] at g
    split at g
    · rename_i p x y rest pos
      simp only [Bool.and_eq_true, decide_eq_true_eq] at g
      obtain ⟨⟨g1, g2⟩, g3⟩ := g
      subst g1
      have key : PW X (.BoolOp .Or (x :: y :: rest) pos) (RdT X.K A Wx (evC Γ (.or a b))) := by
        split at g3
        · exact PW_ev (rdw_or (okC h hd a _ g2).1 (pw_or1 (okC h hd b _ g3).1)) fun ρ => by (first | (rw [evC]; done) | (rw [evC]; rfl))
        · exact PW_ev (rdw_or (okC h hd a _ g2).1 ((okC h hd b _ g3).2 ⟨_, _, _, rfl⟩)) fun ρ => by (first | (rw [evC]; done) | (rw [evC]; rfl))
      exact ⟨key.pt, fun _ => key⟩
    · cases g
  | .not a, x, g => by
    simp only [chkC] at g
    split at g
    · simp only [Bool.and_eq_true, decide_eq_true_eq] at g
      obtain ⟨g1, g2⟩ := g
      subst g1
      exact ⟨PT_ev (rdt_not (okC h hd a _ g2).1) fun ρ => by (first | (rw [evC]; done) | (rw [evC]; rfl)), fun ⟨_, _, _, z⟩ => nomatch z⟩
    · cases g
  | .tru a, x, g => by
    simp only [chkC, Bool.and_eq_true] at g
    refine ⟨PT_ev (rdt_tru g.1 (okE h hd a _ g.2)) fun ρ => by (first | (rw [evC]; done) | (rw [evC]; rfl)), fun ⟨_, _, _, z⟩ => ?_⟩
    subst z
    exact nomatch g.1
  | .isN a, x, g => by
    simp only [chkC] at g
    split at g
    · simp only [Bool.and_eq_true, decide_eq_true_eq] at g
      obtain ⟨g1, g2⟩ := g
      subst g1
      exact ⟨PT_ev (rdt_isN (okE h hd a _ g2)) fun ρ => by (first | (rw [evC]; done) | (rw [evC]; rfl)), fun ⟨_, _, _, z⟩ => nomatch z⟩
    · cases g
  | .notN a, x, g => by
    simp only [chkC] at g
    split at g
    · simp only [Bool.and_eq_true, decide_eq_true_eq] at g
      obtain ⟨g1, g2⟩ := g
      subst g1
      exact ⟨PT_ev (rdt_notN (okE h hd a _ g2)) fun ρ => by (first | (rw [evC]; done) | (rw [evC]; rfl)), fun ⟨_, _, _, z⟩ => nomatch z⟩
    · cases g
theorem okI {X : Cx} {A : Ad} {Γ : Ctx} {c : Cfg} {sc : Scope} {Wx : WX} {lm : Bool} (h : CxOk X A Γ c sc Wx) (hd : lm = true → HeardOk X A Γ c sc Wx) : ∀ (it : I) (t x : Expr), chkI c lm sc it t x = true → PI X t x (RdI X.K A Wx (evI Γ it))
  | .seq a, t, x, g => by
    simp only [chkI] at g
    exact PI_ev (rdi_seq (okE h hd a _ g)) fun ρ => by (first | (rw [evI]; done) | (rw [evI]; rfl))
  | .rng1 a, t, x, g => by
    simp only [chkI] at g
    split at g
    · simp only [Bool.and_eq_true, decide_eq_true_eq] at g
      obtain ⟨⟨⟨⟨g1, g2⟩, g3⟩, g4⟩, g5⟩ := g
      subst g1
      exact PI_ev (rdi_rng1 (h.gl g2).1 (h.bl _ g3) (okE h hd a _ g5) g4) fun ρ => by (first | (rw [evI]; done) | (rw [evI]; rfl))
    · cases g
  | .rng2 a b, t, x, g => by
    simp only [chkI] at g
    split at g
    · simp only [Bool.and_eq_true, decide_eq_true_eq] at g
      obtain ⟨⟨⟨⟨⟨⟨g1, g2⟩, g3⟩, g4⟩, g5⟩, g6⟩, g7⟩ := g
      subst g1
      exact PI_ev (rdi_rng2 (h.gl g2).1 (h.bl _ g3) (okE h hd a _ g6) (okE h hd b _ g7) g4 g5) fun ρ => by (first | (rw [evI]; done) | (rw [evI]; rfl))
    · cases g
  | .zip a b, t, x, g => by
    simp only [chkI] at g
    split at g
    · simp only [Bool.and_eq_true, decide_eq_true_eq] at g
      obtain ⟨⟨⟨⟨⟨⟨g1, g2⟩, g3⟩, g4⟩, g5⟩, g6⟩, g7⟩ := g
      subst g1
      exact PI_ev (rdi_zip (h.gl g2).1 (h.bl _ g3) (okE h hd a _ g6) (okE h hd b _ g7) g4 g5) fun ρ => by (first | (rw [evI]; done) | (rw [evI]; rfl))
    · cases g
  | .enum a, t, x, g => by
    simp only [chkI] at g
    split at g
    · simp only [Bool.and_eq_true, decide_eq_true_eq] at g
      obtain ⟨⟨⟨⟨g1, g2⟩, g3⟩, g4⟩, g5⟩ := g
      subst g1
      exact PI_ev (rdi_enum (h.gl g2).1 (h.bl _ g3) (okE h hd a _ g5) g4) fun ρ => by (first | (rw [evI]; done) | (rw [evI]; rfl))
    · cases g
end
end Mn
set_option Elab.async false
set_option linter.all false
set_option maxRecDepth 100000
set_option maxHeartbeats 4000000
namespace Mn
open PySem PySem.Spec PyProof.Rows L2

def notComp : Expr → Bool
  | .ListComp .. => false
  | .SetComp .. => false
  | .DictComp .. => false
  | _ => true
/-- whether name = [..] lays the list at once -/
def swapB (sc : Scope) (x : Str) (p : Pos) : Expr → Bool
  | .ListComp _ _ s q => decide (sc.names.lookup x = some .local) && (p.line == q.line) && !(s.names.any fun (n, k) => n == x && (k == .local || k == .cell))
  | _ => false
def plainComp : Expr → Bool
  | .SetComp .. => false
  | .DictComp .. => false
  | _ => true
def notTup : Expr → Bool
  | .Tuple .. => false
  | _ => true
def isPar (sc : Scope) (x y : Str) (px py : Pos) : Bool := decide (sc.names.lookup x = some .local) && decide (sc.names.lookup y = some .local) && (py.line == px.line)
mutual
def chkS (c : Cfg) (lm : Bool) (sc : Scope) : S → Stmt → Bool
  | .set i e, st => match st with
    | .Assign [.Name x p] v _ => decide (c.N[i]? = some x) && stoB sc sc x && plainComp v && chkE c lm sc e v
    | _ => false
  | .unp is lst e, st => match st with
    | .Assign [.Tuple es k p] v _ => chkTg.go c.N sc sc is es && notTup v && chkE c lm sc e v
    | _ => false
  | .par i j a b, st => match st with
    | .Assign [.Tuple [.Name x px, .Name y py] _ _] (.Tuple [v, w] _ _) _ => decide (c.N[i]? = some x) && decide (c.N[j]? = some y) && stoB sc sc x && stoB sc sc y && noStar v && noStar w && decide (i ≠ j) && decide (x ≠ y) && chkE c lm sc a v && chkE c lm sc b w &&
        (if isPar sc x y px py then !([v, w].all (foldedForSure 8)) && !([v, w].all (constantsAlone 8)) else true)
    | _ => false
  | .aug i o e, st => match st with
    | .AugAssign (.Name x _) p v _ => decide (c.N[i]? = some x) && stoB sc sc x && opB o p && (decide (o = .add) || decide (o = .sub)) && chkE c lm sc e v
    | _ => false
  | .setX i ix e, st => match st with
    | .Assign [.Subscript (.Name x _) k _] v _ => decide (c.N[i]? = some x) && visB sc x && plainIx k && chkE c lm sc ix k && chkE c lm sc e v
    | _ => false
  | .augX i ix o e, st => match st with
    | .AugAssign (.Subscript (.Name x _) k _) p v _ => decide (c.N[i]? = some x) && visB sc x && plainIx k && opB o p && (decide (o = .add) || decide (o = .sub)) && chkE c lm sc ix k && chkE c lm sc e v
    | _ => false
  | .expr e, st => match st with
    | .Expr v _ => notComp v && chkE c lm sc e v
    | _ => false
  | .iff t a b, st => match st with
    | .If v p q _ => chkC c lm sc t v && chkSs c lm sc a p && chkSs c lm sc b q
    | _ => false
  | .for_ tg it b, st => match st with
    | .For t i p [] _ => chkTg c.N sc sc tg t && noSet i && chkI c lm sc it t i && chkSs c lm sc b p
    | _ => false
  | .whil t b, st => match st with
    | .While v p [] _ => chkC c lm sc t v && chkSs c lm sc b p
    | _ => false
  | .ret e, st => match st with
    | .Return (some v) _ => chkE c lm sc e v
    | _ => false
  | .retN, st => match st with
    | .Return none _ => true
    | _ => false
  | .raise x, st => match st with
    | .Raise (some (.Call (.Name y _) [] [] _)) none _ => decide (x = y) && glB sc x && c.exn x
    | _ => false
  | .pass, st => match st with
    | .Pass _ => true
    | _ => false
  | .brk, st => match st with
    | .Break _ => true
    | _ => false
  | .cnt, st => match st with
    | .Continue _ => true
    | _ => false
def chkSs (c : Cfg) (lm : Bool) (sc : Scope) : Ss → List Stmt → Bool
  | .nil, sts => sts.isEmpty
  | .cons s ss, sts => match sts with
    | st :: sts => chkS c lm sc s st && chkSs c lm sc ss sts
    | [] => false
end
section
variable {X : Cx} {A : Ad} {Γ : Ctx} {c : Cfg} {sc : Scope} {Wx : WX}
theorem pmk0 {X : Cx} {C : Addr} {bmB : List Value} {B newId initId : String} {x : Str} {p pos : Pos} (F : ExcBaseFacts B newId initId bmB) (q : PySem.W.excIn X.K C bmB newId = true) (gC : X.mg x = some (.ref C)) (kC : PySem.W.keepIn X.K (.ref C) = true) (r : Raises X (.ref C)) (hg : Gl X x)
    (hdb : (x == ("__debug__" : Str)) = false) : PMk X (.Call (.Name x p) [] [] pos) (fun _ H Q => Q (.ref C) none H) := by
  intro pins s σ H Q I h
  refine wpAny_Call_Name_kw (ld_glob I hg gC (PySem.W.callWith_K0 I.kIn kC ?_) hdb)
  obtain ⟨bm, N, nm, qn, bs, hdct, sn, sub, ab, col, dd, k0, k1, k2, k3, k5, mN, hC, hN, hni, T⟩ := exc_obj I.kIn q
  exact wpAny_call_exc_subT F T hC hN hni (fun h' e hm => mk_of I hm r h (I.hok.gone hm.new)) (Nat.zero_le _)
theorem sw_eq (h : CxOk X A Γ c sc Wx) {x : Str} {p : Pos} {v : Expr} {l : Nat} (hv : plainComp v = true) : swapsWith v (some (.Name x p)) l X.env = pure (swapB sc x p v) := by
  have kf : X.env.scope.kind = .function := by rw [h.scp]; exact h.kind
  have bk : X.env.blockKind = .function := by unfold Env.blockKind; rw [kf]; rfl
  cases v with
  | ListComp e g s q =>
    unfold swapsWith swapB
    have e1 : X.env.kindOf x = sc.names.lookup x := by rw [← h.scp]; rfl
    simp only [bk, e1, Expr.pos]
    congr 1
    cases sc.names.lookup x with
    | none => rfl
    | some k => cases k <;> rfl
  | SetComp => cases hv
  | DictComp => cases hv
  | _ => rfl
theorem sw_none {v : Expr} {l : Nat} {env : PySem.Env} (hv : notComp v = true) : swapsWith v none l env = pure false := by
  cases v <;> first | rfl | cases hv
theorem sw_tup {v t : Expr} {l : Nat} {env : PySem.Env} (ht : ∀ x p, t ≠ .Name x p) : swapsWith v (some t) l env = pure false := by
  cases v <;> first | rfl | (cases t <;> first | rfl | exact absurd rfl (ht _ _))
theorem st_none {v t : Expr} {env : PySem.Env} (hv : notTup v = true) : swappedStores [t] v env = pure none := by
  cases v <;> first | (cases t <;> rfl) | cases hv
theorem st_sub {v a b : Expr} {p : Pos} {env : PySem.Env} : swappedStores [.Subscript a b p] v env = pure none := by
  cases v <;> rfl
theorem no_star {v : Expr} : noStar v = true → ¬ ((match v with | .Starred .. => true | _ => false) = true) := by
  cases v <;> first | (intro _ z; cases z; done) | (intro hv; cases hv)
theorem st_par (h : CxOk X A Γ c sc Wx) {x y : Str} {px py pt pv : Pos} {k k2 : Nat} {v w : Expr} (s1 : noStar v = true) (s2 : noStar w = true) (hxy : x ≠ y) (hp : isPar sc x y px py = true) (f1 : [v, w].all (foldedForSure 8) = false) (f2 : [v, w].all (constantsAlone 8) = false) :
    swappedStores [.Tuple [.Name x px, .Name y py] k pt] (.Tuple [v, w] k2 pv) X.env = pure (some [x, y]) := by
  have kf : X.env.scope.kind = .function := by rw [h.scp]; exact h.kind
  have bk : X.env.blockKind = .function := by unfold Env.blockKind; rw [kf]; rfl
  unfold isPar at hp
  simp only [Bool.and_eq_true, decide_eq_true_eq, beq_iff_eq] at hp
  obtain ⟨⟨h1, h2⟩, h3⟩ := hp
  have e1 : X.env.kindOf x = some .local := by rw [← h1, ← h.scp]; rfl
  have e2 : X.env.kindOf y = some .local := by rw [← h2, ← h.scp]; rfl
  have hyx : (y == x) = false := beq_eq_false_iff_ne.mpr (Ne.symm hxy)
  have ee : ([x, y].eraseDups).length = 2 := by simp [List.eraseDups_cons, hyx]
  unfold swappedStores
  simp [List.any, List.all, bk, e1, e2, h3, Expr.pos, List.filterMap_cons, ee] at f1 f2 ⊢
  refine Eq.trans (if_neg (not_or.mpr ⟨no_star s1, no_star s2⟩)) ?_
  rw [if_neg (fun z => by rw [f1 z.1] at z; exact Bool.noConfusion z.2), if_neg (fun z => by rw [f2 z.1] at z; exact Bool.noConfusion z.2)]
theorem st_parT (h : CxOk X A Γ c sc Wx) {x y : Str} {px py pt pv : Pos} {k k2 : Nat} {v w : Expr} (s1 : noStar v = true) (s2 : noStar w = true) (hp : isPar sc x y px py = false) :
    swappedStores [.Tuple [.Name x px, .Name y py] k pt] (.Tuple [v, w] k2 pv) X.env = pure none := by
  have kf : X.env.scope.kind = .function := by rw [h.scp]; exact h.kind
  have bk : X.env.blockKind = .function := by unfold Env.blockKind; rw [kf]; rfl
  have e1 : X.env.kindOf x = sc.names.lookup x := by rw [← h.scp]; rfl
  have e2 : X.env.kindOf y = sc.names.lookup y := by rw [← h.scp]; rfl
  unfold swappedStores
  simp [List.any, List.all, bk, e1, e2, Expr.pos, List.filterMap_cons]
  intro _ _ hl
  exfalso
  unfold isPar at hp
  by_cases h1 : sc.names.lookup x = some .local
  · by_cases h2 : sc.names.lookup y = some .local
    · have h3 : ¬ (py.line = px.line) := fun z => by simp [h1, h2, z] at hp
      simp [h1, h2, h3] at hl
    · simp [h1, h2] at hl
  · by_cases h2 : sc.names.lookup y = some .local
    · by_cases h3 : py.line = px.line <;> simp [h1, h2, h3] at hl
    · simp [h1, h2] at hl
theorem rs_setI (h : CxOk X A Γ c sc Wx) {i : Nat} {x : Str} {p pos : Pos} {v : Expr} {e : E} {lm : Bool} (hd : lm = true → HeardOk X A Γ c sc Wx) (hf : ∀ x, sc.names.lookup x = some .cell → X.fn x = true) (g1 : c.N[i]? = some x) (g2 : stoB sc sc x = true) (g3 : plainComp v = true) (g4 : chkE c lm sc e v = true) :
    PS X (.Assign [.Name x p] v pos) (RdS X.K A Wx (setEv i (evE Γ e))) := by
  have hi : X.N[i]? = some x := by rw [h.N]; exact g1
  have g2' := g2
  unfold stoB at g2'
  simp only [Bool.and_eq_true, Bool.or_eq_true, decide_eq_true_eq] at g2'
  have hl : L2.Loc X.env.scope x := by unfold L2.Loc; rw [h.scp]; exact g2'.imp id And.left
  have hfn : X.fn x = true ∨ X.env.scope.names.lookup x = some .local := by
    rcases g2' with z | z
    · exact .inr (by rw [h.scp]; exact z)
    · exact .inl (hf x z.2)
  have sw := sw_eq h (x := x) (p := p) (l := pos.line) g3
  cases q : swapB sc x p v with
  | false =>
    rw [q] at sw
    exact rs_set_of (ps_set h.nd hi hl (okE h hd e v g4) sw hfn) fun _ _ _ z => z
  | true =>
    rw [q] at sw
    cases v with
    | ListComp xe gens scope vpos =>
      have hyl : X.env.scope.names.lookup x = some .local := by
        unfold swapB at q
        simp only [Bool.and_eq_true, decide_eq_true_eq] at q
        rw [h.scp]; exact q.1.1
      cases e with
      | lc elt tg it t own =>
        simp only [chkE] at g4
        split at g4
        · rename_i xe' tgx ix ifs scope' pos' eqq
          cases eqq
          simp only [Bool.and_eq_true, decide_eq_true_eq] at g4
          obtain ⟨⟨⟨⟨⟨⟨⟨g1, g2⟩, g3⟩, g4⟩, g5⟩, g6⟩, g7⟩, g8⟩ := g4
          have ok : BlkOk X.N X.env.scope scope (ownP c.N scope) := by rw [h.N, h.scp]; exact blkOk_by g1
          have nd : X.N.Nodup := h.nd
          refine rs_set_of (ps_setLc (g := RdG X.K tg) (tt := RdT X.K A (fun _ _ _ _ => False) (evOc Γ t)) (te := RdE X.K A (fun _ _ _ _ => False) (evE Γ elt)) h.calm nd hi hyl sw (okI h hd it tgx ix g6) ok (fun s H C cl fp => tg_ok (h.blk ok.kind) (sf := scope) (fun x hx => by show (scope.names.lookup x == some .cell) = true; rw [hx]; rfl) g3)
            (fun s H C cl fp => okOc (lm := false) (h.blk ok.kind) (fun z => Bool.noConfusion z) t ifs g7) (fun s H C cl fp => okE (lm := false) (h.blk ok.kind) (fun z => Bool.noConfusion z) elt xe g8) (noSet_folded g5 _)) fun σ H Q q => ?_
          rw [g2]
          refine lc_sound (tsl g4) ?_
          rwa [show evE Γ (.lc elt tg it t own) = _ from funext fun ρ => evE.eq_def _ _ _] at q
        · cases g4
      | lc2 elt t1 i1 c1 t2 i2 c2 own own2 =>
        simp only [chkE] at g4
        split at g4
        · rename_i xe' tgx ix ifs tgx2 ix2 ifs2 scope' pos' eqq
          cases eqq
          simp only [Bool.and_eq_true, decide_eq_true_eq] at g4
          obtain ⟨⟨⟨⟨⟨⟨⟨⟨⟨⟨⟨⟨⟨g1, g2⟩, g3⟩, g4⟩, g5⟩, g6⟩, g7⟩, g8⟩, g9⟩, g10⟩, g11⟩, g12⟩, g13⟩, g14⟩ := g4
          have ok : BlkOk X.N X.env.scope scope (ownP c.N scope) := by rw [h.N, h.scp]; exact blkOk_by g1
          have nd : X.N.Nodup := h.nd
          have hfs : ∀ x, scope.names.lookup x = some .cell → (scope.names.lookup x == some .cell) = true := fun x hx => by rw [hx]; rfl
          have i21 : ∀ j ∈ own2, j ∈ own := fun j hj => List.contains_iff_mem.mp (List.all_eq_true.mp g5 j hj)
          refine rs_set_of (ps_setLc2 (vs1 := own2) (wi1 := RdI X.K A (fun _ _ _ _ => False) (evI Γ i2)) (g := RdG X.K t1) (g1 := RdG X.K t2) (tt := RdT X.K A (fun _ _ _ _ => False) (evOc Γ c1)) (tt1 := RdT X.K A (fun _ _ _ _ => False) (evOc Γ c2)) (te := RdE X.K A (fun _ _ _ _ => False) (evE Γ elt)) h.calm nd hi hyl sw (okI h hd i1 tgx ix g9) ok (by rw [g2]; exact i21) (fun s H C cl fp => tg_ok (h.blk ok.kind) (sf := scope) hfs g3)
            (fun s H C cl fp => okOc (lm := false) (h.blk ok.kind) (fun z => Bool.noConfusion z) c1 ifs g10) (fun s H C cl fp => okI (lm := false) (h.blk ok.kind) (fun z => Bool.noConfusion z) i2 tgx2 ix2 g12) (fun s H C cl fp => tg_ok (h.blk ok.kind) (sf := scope) hfs g11)
            (fun s H C cl fp => okOc (lm := false) (h.blk ok.kind) (fun z => Bool.noConfusion z) c2 ifs2 g13) (fun s H C cl fp => okE (lm := false) (h.blk ok.kind) (fun z => Bool.noConfusion z) elt xe g14) (noSet_folded g7 _) (noSet_folded g8)) fun σ H Q q => ?_
          rw [g2]
          refine lc2_sound (tsl g4) (tsl g6) i21 ?_
          rwa [show evE Γ (.lc2 elt t1 i1 c1 t2 i2 c2 own own2) = _ from funext fun ρ => evE.eq_def _ _ _] at q
        · cases g4
      | ofC t => cases t <;> first | (simp [chkE] at g4; done) | (rename_i t; cases t <;> simp [chkE] at g4)
      | _ => simp [chkE] at g4
    | _ => cases q
end
end Mn
set_option Elab.async false
set_option linter.all false
set_option maxRecDepth 100000
set_option maxHeartbeats 4000000
namespace Mn
open PySem PySem.Spec PyProof.Rows L2
theorem PS_ev {X : Cx} {A : Ad} {Wx : WX} {x : Stmt} {ev ev' : Env → Fl} (h : PS X x (RdS X.K A Wx ev)) (e : ∀ ρ, ev' ρ = ev ρ) : PS X x (RdS X.K A Wx ev') := (funext e : ev' = ev) ▸ h
theorem PSs_ev {X : Cx} {A : Ad} {Wx : WX} {x : List Stmt} {ev ev' : Env → Fl} (h : PSs X x (RdS X.K A Wx ev)) (e : ∀ ρ, ev' ρ = ev ρ) : PSs X x (RdS X.K A Wx ev') := (funext e : ev' = ev) ▸ h
theorem sole {v t : Expr} {l : Nat} {env : PySem.Env} (ht : ∀ x p, t ≠ .Name x p) : swapsWithSole [t] v l env = pure false := by
  unfold swapsWithSole
  exact sw_tup ht
theorem ip_of (X : Cx) {o : Op2} (h : (decide (o = .add) || decide (o = .sub)) = true) : ∃ f, PIp X o.py (ipI f) ∧ ∀ i j, opD o (.int i) (.int j) = some (.d (.int (f i j))) := by
  cases o with
  | add => exact ⟨_, ip_add, fun i j => rfl⟩
  | sub => exact ⟨_, ip_sub, fun i j => rfl⟩
  | _ => simp at h
theorem sto_loc {X : Cx} {A : Ad} {Γ : Ctx} {c : Cfg} {sc : Scope} {Wx : WX} (h : CxOk X A Γ c sc Wx) (hf : ∀ x, sc.names.lookup x = some .cell → X.fn x = true) {x : Str} (g : stoB sc sc x = true) : L2.Loc X.env.scope x ∧ (X.fn x = true ∨ X.env.scope.names.lookup x = some .local) := by
  unfold stoB at g
  simp only [Bool.and_eq_true, Bool.or_eq_true, decide_eq_true_eq] at g
  refine ⟨by unfold L2.Loc; rw [h.scp]; exact g.imp id And.left, ?_⟩
  rcases g with z | z
  · exact .inr (by rw [h.scp]; exact z)
  · exact .inl (hf x z.2)
mutual
theorem okS {X : Cx} {A : Ad} {Γ : Ctx} {c : Cfg} {sc : Scope} {Wx : WX} {lm : Bool} (h : CxOk X A Γ c sc Wx) (hd : lm = true → HeardOk X A Γ c sc Wx) (hf : ∀ x, sc.names.lookup x = some .cell → X.fn x = true) (hp : PassesOwn (model X.prog X.w) X.A X.env X.xe) :
    ∀ (s : S) (st : Stmt), chkS c lm sc s st = true → PS X st (RdS X.K A Wx (evS Γ s))
  | .set i e, st, g => by
    simp only [chkS] at g
    split at g
    · simp only [Bool.and_eq_true, decide_eq_true_eq] at g
      obtain ⟨⟨⟨g1, g2⟩, g3⟩, g4⟩ := g
      exact PS_ev (rs_setI h hd hf g1 g2 g3 g4) fun ρ => by (first | (rw [evS]; done) | (rw [evS]; rfl))
    · cases g
  | .unp is lst e, st, g => by
    simp only [chkS] at g
    split at g
    · rename_i es k p v pos
      simp only [Bool.and_eq_true] at g
      obtain ⟨⟨g1, g2⟩, g3⟩ := g
      obtain ⟨q1, q2, q3⟩ := go_ok h hf g1
      have he := okE h hd e v g3
      have hs : swapsWithSole [.Tuple es k p] v pos.line X.env = pure false := sole (fun _ _ z => nomatch z)
      have base : PS X (.Assign [.Tuple es k p] v pos) (tAsg (RdE X.K A Wx (evE Γ e)) (if lst then gLst X.K is.length (gRow is) else gTup X.K is.length (gRow is))) := by
        cases lst with
        | true => exact ps_asg he (pg_lst h.calm q1 q2 q3) hs (st_none g2) rfl
        | false => exact ps_asg he (pg_tup h.calm q1 q2 q3) hs (st_none g2) rfl
      exact PS_ev (rs_unp base fun _ _ _ z => z) fun ρ => by (first | (rw [evS]; done) | (rw [evS]; rfl))
    · cases g
  | .par i j a b, st, g => by
    simp only [chkS] at g
    split at g
    · rename_i x px y py k pt v w k2 pv pos
      simp only [Bool.and_eq_true, decide_eq_true_eq] at g
      obtain ⟨⟨⟨⟨⟨⟨⟨⟨⟨⟨g1, g2⟩, g3⟩, g4⟩, g5⟩, g6⟩, g7⟩, g8⟩, g9⟩, g10⟩, g11⟩ := g
      have ha := pa_cons (okE h hd a v g9) (pa_cons (okE h hd b w g10) pa_nil (star_head (noStar_ne g6))) (star_head (noStar_ne g5))
      have hi : X.N[i]? = some x := by rw [h.N]; exact g1
      have hj : X.N[j]? = some y := by rw [h.N]; exact g2
      cases q : isPar sc x y px py with
      | true =>
        rw [q] at g11
        simp only [if_true, Bool.and_eq_true, Bool.not_eq_true'] at g11
        have q' := q
        unfold isPar at q'
        simp only [Bool.and_eq_true, decide_eq_true_eq] at q'
        exact PS_ev (rs_par (ps_par h.calm h.nd hi hj g7 (by rw [h.scp]; exact q'.1.1) (by rw [h.scp]; exact q'.1.2) ha (st_par h g5 g6 g8 q g11.1 g11.2) (sole (fun _ _ z => nomatch z))) fun _ _ _ z => z) fun ρ => by (first | (rw [evS]; done) | (rw [evS]; rfl))
      | false =>
        have pg : PG X (.Tuple [.Name x px, .Name y py] k pt) (gTup X.K 2 (gRow [i, j])) := pg_tup h.calm (pgs_cons (h.pg hf g1 g3) (pgs_cons (h.pg hf g2 g4) pgs_nil rfl) rfl) rfl rfl
        exact PS_ev (rs_parT (ps_asg (pe_tup ha) pg (sole (fun _ _ z => nomatch z)) (st_parT h g5 g6 q) rfl) fun _ _ _ z => z) fun ρ => by (first | (rw [evS]; done) | (rw [evS]; rfl))
    · cases g
  | .aug i o e, st, g => by
    simp only [chkS] at g
    split at g
    · rename_i x p p' v pos
      simp only [Bool.and_eq_true, decide_eq_true_eq] at g
      obtain ⟨⟨⟨⟨g1, g2⟩, g3⟩, g4⟩, g5⟩ := g
      cases opB_eq g3
      obtain ⟨l1, l2⟩ := sto_loc h hf g2
      obtain ⟨f, f1, f2⟩ := ip_of X g4
      exact PS_ev (rs_aug (ps_aug h.nd (by rw [h.N]; exact g1) l1 (okE h hd e v g5) f1 l2) f2) fun ρ => by (first | (rw [evS]; done) | (rw [evS]; rfl))
    · cases g
  | .setX i ix e, st, g => by
    simp only [chkS] at g
    split at g
    · rename_i x p k p2 v pos
      simp only [Bool.and_eq_true, decide_eq_true_eq] at g
      obtain ⟨⟨⟨⟨g1, g2⟩, g3⟩, g4⟩, g5⟩ := g
      exact PS_ev (rs_setX (ps_asg (okE h hd e v g5) (pg_sub (h.var g1 g2) (okE h hd ix k g4) set_list (fun v => by cases k <;> first | rfl | cases g3)) (sole (fun _ _ z => nomatch z)) st_sub rfl)) fun ρ => by (first | (rw [evS]; done) | (rw [evS]; rfl))
    · cases g
  | .augX i ix o e, st, g => by
    simp only [chkS] at g
    split at g
    · rename_i x p k p2 p' v pos
      simp only [Bool.and_eq_true, decide_eq_true_eq] at g
      obtain ⟨⟨⟨⟨⟨⟨g1, g2⟩, g3⟩, g4⟩, g5⟩, g6⟩, g7⟩ := g
      cases opB_eq g4
      obtain ⟨f, f1, f2⟩ := ip_of X g5
      exact PS_ev (rs_augX (ps_augS (h.var g1 g2) (okE h hd ix k g6) get_list (okE h hd e v g7) f1 set_list (fun ov iv new => by cases k <;> first | rfl | cases g3)) f2) fun ρ => by (first | (rw [evS]; done) | (rw [evS]; rfl))
    · cases g
  | .expr e, st, g => by
    simp only [chkS] at g
    split at g
    · simp only [Bool.and_eq_true] at g
      exact PS_ev (rs_expr (okE h hd e _ g.2) (sw_none g.1)) fun ρ => by (first | (rw [evS]; done) | (rw [evS]; rfl))
    · cases g
  | .iff t a b, st, g => by
    simp only [chkS] at g
    split at g
    · simp only [Bool.and_eq_true] at g
      obtain ⟨⟨g1, g2⟩, g3⟩ := g
      exact PS_ev (rs_if (okC h hd t _ g1).1 (okSs h hd hf hp a _ g2) (okSs h hd hf hp b _ g3)) fun ρ => by (first | (rw [evS]; done) | (rw [evS]; rfl))
    · cases g
  | .for_ tg it b, st, g => by
    simp only [chkS] at g
    split at g
    · simp only [Bool.and_eq_true] at g
      obtain ⟨⟨⟨g1, g2⟩, g3⟩, g4⟩ := g
      exact PS_ev (rs_for hp h.calm (okI h hd it _ _ g3) (tg_ok h hf g1) (okSs h hd hf hp b _ g4) (noSet_folded g2 _)) fun ρ => by (first | (rw [evS]; done) | (rw [evS]; rfl))
    · cases g
  | .whil t b, st, g => by
    simp only [chkS] at g
    split at g
    · simp only [Bool.and_eq_true] at g
      exact PS_ev (rs_while hp (okC h hd t _ g.1).1 (okSs h hd hf hp b _ g.2)) fun ρ => by (first | (rw [evS]; done) | (rw [evS]; rfl))
    · cases g
  | .ret e, st, g => by
    simp only [chkS] at g
    split at g
    · exact PS_ev (rs_ret (okE h hd e _ g)) fun ρ => by (first | (rw [evS]; done) | (rw [evS]; rfl))
    · cases g
  | .retN, st, g => by
    simp only [chkS] at g
    split at g
    · exact PS_ev rs_retN fun ρ => by (first | (rw [evS]; done) | (rw [evS]; rfl))
    · cases g
  | .raise x, st, g => by
    simp only [chkS] at g
    split at g
    · simp only [Bool.and_eq_true, decide_eq_true_eq] at g
      obtain ⟨⟨g1, g2⟩, g3⟩ := g
      subst g1
      obtain ⟨gl, db⟩ := h.gl g2
      obtain ⟨bmB, B, n1, n2, F, q, gC, kC, r⟩ := h.exn _ g3
      exact PS_ev (rs_raise h.calm h.tk (pmk0 F q gC kC r gl db)) fun ρ => by (first | (rw [evS]; done) | (rw [evS]; rfl))
    · cases g
  | .pass, st, g => by
    simp only [chkS] at g
    split at g
    · exact PS_ev rs_pass fun ρ => by (first | (rw [evS]; done) | (rw [evS]; rfl))
    · cases g
  | .brk, st, g => by
    simp only [chkS] at g
    split at g
    · exact PS_ev rs_brk fun ρ => by (first | (rw [evS]; done) | (rw [evS]; rfl))
    · cases g
  | .cnt, st, g => by
    simp only [chkS] at g
    split at g
    · exact PS_ev rs_cnt fun ρ => by (first | (rw [evS]; done) | (rw [evS]; rfl))
    · cases g
theorem okSs {X : Cx} {A : Ad} {Γ : Ctx} {c : Cfg} {sc : Scope} {Wx : WX} {lm : Bool} (h : CxOk X A Γ c sc Wx) (hd : lm = true → HeardOk X A Γ c sc Wx) (hf : ∀ x, sc.names.lookup x = some .cell → X.fn x = true) (hp : PassesOwn (model X.prog X.w) X.A X.env X.xe) :
    ∀ (ss : Ss) (sts : List Stmt), chkSs c lm sc ss sts = true → PSs X sts (RdS X.K A Wx (evSs Γ ss))
  | .nil, sts, g => by
    simp only [chkSs, List.isEmpty_iff] at g
    subst g
    exact PSs_ev rs_nil fun ρ => by (first | (rw [evSs]; done) | (rw [evSs]; rfl))
  | .cons s ss, sts, g => by
    simp only [chkSs] at g
    split at g
    · simp only [Bool.and_eq_true] at g
      refine PSs_ev (rs_cons (okS h hd hf hp s _ g.1) (okSs h hd hf hp ss _ g.2)) fun ρ => ?_
      first | (rw [evSs]; done) | (rw [evSs]; cases evS Γ s ρ <;> rfl)
    · cases g
end
end Mn
set_option Elab.async false
set_option linter.all false
set_option maxRecDepth 100000
set_option maxHeartbeats 2000000
namespace Mn
open PySem PySem.Spec PyProof.Rows L2 LamX
/-! ## a law's end: its promise may lean on the caller's guards -/
abbrev emptyT : Obj := { cls := .none, data := .fields #[] }
abbrev scriptO (us : List Value) : Obj := { cls := .type "list", data := .seq us.toArray }
/-- what is tracked at the law's entry: the script at most, and the tables -/
structure TopH (H : Hp) (a : Addr) (ts : List Addr) (K : PySem.W.Frag) : Prop where
  only : ∀ b, H b ≠ none → b = a ∨ b ∈ ts
  frag : H a ≠ none → K.lookup a = none
  tabs : ∀ t, t ∈ ts → H t = some (.tbl #[])
  kind : ∀ b, H b = none ∨ b ∈ ts ∨ ∃ u xs, H b = some (.frz u (.lst xs))
/-- what the head knows -/
structure TopS (P : Program) (w : World) (K : PySem.W.Frag) (mg mb : Str → Option Value) (s : Shared) (cs : List (Addr × Addr)) : Prop where
  kin : K.In s.heap
  glob : s.heap.Ns mainGlobals mg
  blt : s.heap.Ns builtinsNs mb
  boot : ∀ x : Str, x ≠ "__name__" → mb x = bootBuiltins x
  lim : s.heap.NoLimit
  gens : s.gens = #[]
  emp : ∀ q, q ∈ cs → s.heap.get? q.2 = some emptyT
  out : ∀ q, q ∈ cs → K.lookup q.2 = none
  hd : ∀ q, q ∈ cs → PySem.W.CodeHd s.heap q.1 q.2
  bmod : ∃ (m : Addr) (o : Obj), mg "__builtins__" = some (.ref m) ∧ m ≠ builtinsNs ∧ s.heap.get? m = some o ∧ o.cls = .type "module" ∧ o.dict = some builtinsNs ∧ o.data = .plain
section
variable {P : Program} {w : World} {K : PySem.W.Frag} {mg mb : Str → Option Value} {s : Shared} {cs : List (Addr × Addr)} {a : Addr} {us : List Value} {H : Hp}
theorem TopS.tabAt (S : TopS P w K mg mb s cs) {t : Addr} (ht : t ∈ cs.map (·.2)) : s.heap.get? t = some emptyT := by
  obtain ⟨q, hq, rfl⟩ := List.mem_map.mp ht
  exact S.emp q hq
theorem TopS.untracked (S : TopS P w K mg mb s cs) (T : TopH H a (cs.map (·.2)) K) (ha : s.heap.get? a = some (scriptO us)) {b : Addr} {o : Obj} (ho : s.heap.get? b = some o) (n1 : ∀ vs n, o.data ≠ .seq vs n) (n2 : o.data ≠ .fields #[]) : H b = none := by
  cases q : H b with
  | none => rfl
  | some u =>
    exfalso
    rcases T.only b (by rw [q]; exact Option.some_ne_none _) with z | z
    · subst z
      rw [ha] at ho
      cases ho
      exact n1 _ _ rfl
    · rw [S.tabAt z] at ho
      cases ho
      exact n2 rfl
theorem TopS.ns (S : TopS P w K mg mb s cs) (T : TopH H a (cs.map (·.2)) K) (ha : s.heap.get? a = some (scriptO us)) {b : Addr} {m : Str → Option Value} (h : s.heap.Ns b m) : (hidT s.heap H).Ns b m := by
  obtain ⟨o, es, ep, h1, h2, h3⟩ := h
  exact ⟨o, es, ep, hidT_get h1 (S.untracked T ha h1 (fun vs n z => by rw [h2] at z; cases z) (fun z => by rw [h2] at z; cases z)), h2, h3⟩
theorem TopS.kinH (S : TopS P w K mg mb s cs) (T : TopH H a (cs.map (·.2)) K) : K.In (hidT s.heap H) := fun b o h => by
  refine hidT_get (S.kin b o h) ?_
  cases q : H b with
  | none => rfl
  | some u =>
    exfalso
    have hn : H b ≠ none := by rw [q]; exact Option.some_ne_none _
    rcases T.only b hn with z | z
    · subst z
      rw [T.frag hn] at h
      cases h
    · obtain ⟨p, hp, rfl⟩ := List.mem_map.mp z
      rw [S.out p hp] at h
      cases h
theorem TopS.tabB (S : TopS P w K mg mb s cs) (T : TopH H a (cs.map (·.2)) K) (ha : s.heap.get? a = some (scriptO us)) : ∀ q, q ∈ cs → TabB (hidT s.heap H) mg q.1 q.2 := fun q hq => by
  have e0 := S.emp q hq
  refine ⟨?_, ?_, fun z => ?_⟩
  · obtain ⟨o, vs, fl, tf, fg, tg, inF, tx, tt, h1, h2, h3, hr⟩ := S.hd q hq
    refine ⟨o, vs, fl, tf, fg, tg, inF, tx, tt, hidT_get h1 (S.untracked T ha h1 (fun us n z => ?_) fun z => ?_), h2, h3, hr⟩
    · rw [h3] at z; cases z
    · rw [h3] at z
      cases z
      have := hr.1
      simp at this
  · obtain ⟨m, o, b1, b2, b3, b4, b5, b6⟩ := S.bmod
    have nd : ∀ {c : Addr} {d : Data}, (∃ u, s.heap.get? c = some u ∧ u.data = d) → d ≠ .plain → m ≠ c := fun {c d} ⟨u, hu, hd⟩ hp z => by
      subst z
      rw [hu] at b3
      cases b3
      rw [b6] at hd
      exact hp hd.symm
    obtain ⟨og, es, ep, g1, g2, _⟩ := S.glob
    exact ⟨m, o, b1, b2, nd ⟨og, g1, g2⟩ (fun z => nomatch z), nd ⟨_, e0, rfl⟩ (fun z => nomatch z), hidT_get b3 (S.untracked T ha b3 (fun us n z => by rw [b6] at z; cases z) (fun z => by rw [b6] at z; cases z)), b4, b5, b6⟩
  · obtain ⟨og, es, ep, g1, g2, _⟩ := S.glob
    rw [z, e0] at g1
    cases g1
    cases g2
/-- what is left behind the law -/
theorem TopS.left (S : TopS P w K mg mb s cs) {ex : List Addr} {H' : Hp} {s' : Shared} (T : TopH H a (cs.map (·.2)) K) (hok : HOk P w H s.heap) (hok' : HOk P w H' s'.heap) (un : Un (frs []) [] H H' s.heap s'.heap) : OldK s.heap s'.heap := by
  have stay : ∀ b o, b ∉ cs.map (·.2) → s.heap.get? b = some o → s'.heap.get? b = some o := fun b o nb h => by
    rcases T.kind b with z | z | ⟨u, xs, z⟩
    · exact un.keep b o h z (List.not_mem_nil) (List.not_mem_nil)
    · exact absurd z nb
    · have z2 := un.frzs b u _ z
      have h1 := (hok b _ z).1
      rw [h] at h1
      cases h1
      exact (hok' b _ z2).1
  have grow : ∀ q, q ∈ cs → ∃ more : Array Value, s'.heap.get? q.2 = some { cls := .none, data := .fields more } := fun q hq => by
    obtain ⟨more, z⟩ := un.tbls q.2 #[] (T.tabs _ (List.mem_map_of_mem hq))
    exact ⟨_, hok' q.2 _ z⟩
  refine ⟨fun b o h => ?_, fun b o h => ?_⟩
  · by_cases nb : b ∈ cs.map (·.2)
    · obtain ⟨q, hq, rfl⟩ := List.mem_map.mp nb
      obtain ⟨more, hm⟩ := grow q hq
      rw [S.emp q hq] at h
      cases h
      exact .inr (.inl ⟨((S.hd q hq).tab (S.emp q hq)).isCodeTable, rfl, #[], more, rfl, by rw [Array.empty_append]; exact hm⟩)
    · exact .inl (stay b o nb h)
  · by_cases nb : b ∈ cs.map (·.2)
    · obtain ⟨q, hq, rfl⟩ := List.mem_map.mp nb
      obtain ⟨more, hm⟩ := grow q hq
      exact ⟨_, hm⟩
    · exact ⟨o, stay b o nb h⟩
/-- from what is tracked -/
theorem TopS.run {k : Nat} {fa : Addr} {fd : FuncData} {x : Str} {sp : Sp} (S : TopS P w K mg mb s cs) (T : TopH H a (cs.map (·.2)) K) (ha : s.heap.get? a = some (scriptO us)) (hok : HOk P w H s.heap) (hr : Room k callerA)
    (F : ∀ base : Heap, K.In base → base.Ns mainGlobals mg → (∀ q, q ∈ cs → TabB base mg q.1 q.2) → FnG true P w K mg base k fa fd [x] sp) (hbind : BindsTo s fd ⟨[.ref a], []⟩ [(x, .ref a)]) (hsp : sp [.ref a] H (fun v _ => v = .bl true) fun _ _ _ => False) :
    codeAny (model P w) callerA (.call (.ref fa) ⟨[.ref a], []⟩) (fun r s' => r = .ok (.ret (.bool true)) ∧ OldK s.heap s'.heap ∧ s'.os = s.os ∧ AllBare s'.gens) s := by
  have hmod : L2.Mod K mg (hidT s.heap H) := ⟨S.kinH T, S.ns T ha S.glob, ⟨mb, S.ns T ha S.blt, S.boot⟩, by obtain ⟨mc, h1, h2⟩ := S.lim; exact ⟨mc, S.ns T ha h1, h2⟩⟩
  have env : Env0 P w K mg (hidT s.heap H) callerA [] s H := ⟨rfl, hmod, fun b o h => of_hidT h, Nat.le_of_eq (hidT_size _ _), trivial, fun b hb => absurd hb (List.not_mem_nil), hok, .of_eq S.gens⟩
  have go := (F _ (S.kinH T) (S.ns T ha S.glob) (S.tabB T ha)).run callerA [] s H ⟨[.ref a], []⟩ [.ref a] [.ref a] _ _ (fun _ => rfl) hr env hbind (.cons rfl .nil) hsp
  refine codeAny_mono go fun r s' h => ?_
  match r, h with
  | .error e, h =>
    obtain ⟨_, _, _, _, _, _, _, _, _, _, _, _, z⟩ := h
    exact (show False from z).elim
  | .ok (.ret u), ⟨v, H', os, bare, un, hok', r', q⟩ =>
    have q : v = .bl true := q
    subst q
    cases (show u = Value.bool true from r')
    exact ⟨rfl, S.left (ex := []) T hok hok' un, os, bare⟩
  | .ok .next, h => exact (show False from h).elim
  | .ok .brk, h => exact (show False from h).elim
  | .ok .cont, h => exact (show False from h).elim
/-- the script is written, or new: either way it reads as the numbers -/
theorem TopS.law {k : Nat} {fa : Addr} {fd : FuncData} {x : Str} {sp : Sp} {ns : List Int} (S : TopS P w K mg mb s cs) (ha : s.heap.get? a = some (scriptO us)) (hi : IntsAre us ns) (hl : ns.length ≤ sizeLine) (hr : Room k callerA)
    (F : ∀ base : Heap, K.In base → base.Ns mainGlobals mg → (∀ q, q ∈ cs → TabB base mg q.1 q.2) → FnG true P w K mg base k fa fd [x] sp) (hbind : BindsTo s fd ⟨[.ref a], []⟩ [(x, .ref a)])
    (hsp : ∀ H : Hp, (∀ q, q ∈ cs → H q.2 = some (.tbl #[])) → (∀ b o, H b = some o → nonT o → ∃ u xs, o = .frz u (.lst xs)) → SqL K H a (ns.map V.int) → sp [.ref a] H (fun v _ => v = .bl true) fun _ _ _ => False) :
    codeAny (model P w) callerA (.call (.ref fa) ⟨[.ref a], []⟩) (fun r s' => r = .ok (.ret (.bool true)) ∧ OldK s.heap s'.heap ∧ s'.os = s.os ∧ AllBare s'.gens) s := by
  have rel := vals_ints hi
  have lenu : us.length = ns.length := hi.length
  have na : a ∉ cs.map (·.2) := fun z => by
    have q := S.tabAt z
    rw [ha] at q
    have := congrArg Obj.data (Option.some.inj q)
    cases this
  cases hk : K.lookup a with
  | some o =>
    have same := S.kin a o hk
    rw [ha] at same
    cases same
    let H : Hp := fun b => if b ∈ cs.map (·.2) then some (.tbl #[]) else none
    have yes : ∀ b, b ∈ cs.map (·.2) → H b = some (.tbl #[]) := fun b h => if_pos h
    have no : ∀ b, b ∉ cs.map (·.2) → H b = none := fun b h => if_neg h
    have T : TopH H a (cs.map (·.2)) K := ⟨fun b h => .inr (Classical.byContradiction fun z => h (no b z)), fun h => absurd (no a na) h, yes, fun b => (Classical.em (b ∈ cs.map (·.2))).elim (fun z => .inr (.inl z)) fun z => .inl (no b z)⟩
    have hok : HOk P w H s.heap := fun b o h => by
      by_cases hb : b ∈ cs.map (·.2)
      · rw [yes b hb] at h
        cases h
        exact S.tabAt hb
      · rw [no b hb] at h
        cases h
    refine S.run T ha hok hr F hbind (hsp H (fun q hq => yes _ (List.mem_map_of_mem hq)) (fun b o h n => ?_) (.inr ⟨_, us.toArray, _, hk, rfl, rfl, rfl, by rw [List.size_toArray, lenu]; exact hl, by simpa using rel⟩))
    by_cases hb : b ∈ cs.map (·.2)
    · rw [yes b hb] at h
      cases h
      exact absurd rfl (n _)
    · rw [no b hb] at h
      cases h
  | none =>
    let H : Hp := fun b => if b = a then some (.frz (scriptO us) (.lst (ns.map V.int))) else if b ∈ cs.map (·.2) then some (.tbl #[]) else none
    have at_a : H a = some (.frz (scriptO us) (.lst (ns.map V.int))) := if_pos rfl
    have yes : ∀ b, b ∈ cs.map (·.2) → H b = some (.tbl #[]) := fun b h => (if_neg (fun z => na (by rw [← z]; exact h))).trans (if_pos h)
    have no : ∀ b, b ≠ a → b ∉ cs.map (·.2) → H b = none := fun b h1 h2 => (if_neg h1).trans (if_neg h2)
    have T : TopH H a (cs.map (·.2)) K := ⟨fun b h => Classical.byContradiction fun z => h (no b (fun e => z (.inl e)) fun e => z (.inr e)), fun _ => hk, yes, fun b => (Classical.em (b = a)).elim (fun z => .inr (.inr ⟨scriptO us, ns.map V.int, by rw [z]; exact at_a⟩)) fun z => (Classical.em (b ∈ cs.map (·.2))).elim (fun z => .inr (.inl z)) fun z' => .inl (no b z z')⟩
    have hok : HOk P w H s.heap := fun b o h => by
      by_cases hb : b = a
      · subst hb
        rw [at_a] at h
        cases h
        exact ⟨ha, by rw [List.length_map]; exact hl, us, _, rel, ha⟩
      · by_cases hb2 : b ∈ cs.map (·.2)
        · rw [yes b hb2] at h
          cases h
          exact S.tabAt hb2
        · rw [no b hb hb2] at h
          cases h
    refine S.run T ha hok hr F hbind (hsp H (fun q hq => yes _ (List.mem_map_of_mem hq)) (fun b o h n => ?_) (.inl (.inr ⟨_, at_a⟩)))
    by_cases hb : b = a
    · subst hb
      rw [at_a] at h
      cases h
      exact ⟨_, _, rfl⟩
    · by_cases hb2 : b ∈ cs.map (·.2)
      · rw [yes b hb2] at h
        cases h
        exact absurd rfl (n _)
      · rw [no b hb hb2] at h
        cases h
end
theorem walkG {l : PySem.W.OpenLaw} {n k : Nat} {q : Program} {loose : List Str} {XP : (Str → Option Value) → Heap → Prop} {YP : World → Heap → Prop} {d : DefRec} {x : Str} (hn : l.most = some n) (hn2 : n ≤ sizeLine) (hdf : d.params.defaults = []) (hr : Room k callerA)
    (F : ∀ (w : World) (mg : Str → Option Value) (fa : Addr) (h : Heap), YP w h → h.Ns mainGlobals mg → mg d.name = some (.ref fa) → ∃ (K : PySem.W.Frag) (fd : FuncData) (cs : List (Addr × Addr)) (sp : Sp), K.In h ∧
      (∀ q, q ∈ cs → h.get? q.2 = some emptyT) ∧ (∀ q, q ∈ cs → K.lookup q.2 = none) ∧ (∀ q, q ∈ cs → PySem.W.CodeHd h q.1 q.2) ∧ (∀ (s : Shared) (u : Value), BindsTo s fd ⟨[u], []⟩ [(x, u)]) ∧
      (∀ (H : Hp) (a : Addr) (ns : List Int), ns.length ≤ n → (∀ z, z ∈ ns → Builtin.Int.intBits z ≤ 1048576) → (∀ q, q ∈ cs → H q.2 = some (.tbl #[])) → (∀ b o, H b = some o → nonT o → ∃ u xs, o = .frz u (.lst xs)) → SqL K H a (ns.map V.int) → sp [.ref a] H (fun v _ => v = .bl true) fun _ _ _ => False) ∧
      ∀ base : Heap, K.In base → base.Ns mainGlobals mg → (∀ q, q ∈ cs → TabB base mg q.1 q.2) → FnG true l.prog w K mg base k fa fd [x] sp) :
    PySem.W.WalkO q loose XP YP l.row.toRowW d [] (fun f vs => PySem.call f vs) := by
  refine Att.attach_callB hn hdf fun w s₀ s₁ mg mb fa o pm cd doc a us ns G Y ho hd hcd hmg hobj hints hlen hbits hg => ?_
  obtain ⟨K, fd, cs, sp, c1, c2, c3, c4, c5, c6, c7⟩ := F w mg fa _ Y G.T.g hmg
  exact TopS.law (mb := mb) ⟨c1, G.T.g, G.T.b, G.T.builtins, G.T.nolimit, hg, c2, c3, c4, G.T.bmain⟩ hobj hints (Nat.le_trans hlen hn2) hr c7 (c5 _ _) fun H hT hO hS => c6 H a ns hlen hbits hT hO hS
end Mn
set_option Elab.async false
set_option linter.all false
set_option maxRecDepth 100000
set_option maxHeartbeats 4000000
namespace Mn
open PySem PySem.Spec PyProof.Rows L2 LamX
/-! ## a program of the small language -/
structure Fd where
  name : Str
  N : List Str
  ps : List Str
  lend : Bool
  lm : Bool
  body : Ss
structure Prg where
  fns : List Fd
  glo : List (Str × D)
  told : List (Str × List (Str × D))
  wf : Nat
  bl : List Str
  exn : List Str
def Prg.fn (P : Prg) (f : Str) : Option Fd := P.fns.find? fun d => d.name == f
def Prg.cfg (P : Prg) (d : Fd) : Cfg := ⟨d.N, fun f => (P.fn f).map fun e => e.ps.length, fun x => (P.glo.lookup x).isSome, fun x => P.bl.contains x, fun x => P.exn.contains x⟩
def Prg.ctx (P : Prg) (call : Bool → Str → List W → CRes) (g : Bool) : Ctx := ⟨fun x => P.glo.lookup x, fun f => (P.fn f).isSome, fun f => ((P.fn f).map (·.lend)).getD false, fun f => (P.fn f).map fun e => e.ps.length, call, fun f => P.told.lookup f, P.wf, g⟩
def endD (ws : List W) (ρ : Env) (r : R) : CRes := match finR ρ r with
  | some r' => (match ws with
    | .own true _ :: _ => (match ρ[(0 : Nat)]? with
      | some (some (W.own true ys)) => .ret r' (some ys)
      | _ => .stuck)
    | _ => .ret r' none)
  | none => .stuck
def runD (Γ : Ctx) (d : Fd) (ws : List W) : CRes := if ws.length = d.ps.length then (match evSs Γ d.body (ws.map some ++ List.replicate (d.N.length - ws.length) none) with
  | .nx ρ => endD ws ρ (.d .none)
  | .rt r ρ => endD ws ρ r
  | .ex c _ => .ex c
  | _ => .stuck) else .stuck
def Prg.call (P : Prg) : Nat → Bool → Str → List W → CRes
  | 0, _, _, _ => .stuck
  | n + 1, g, f, ws => match P.fn f with
    | some d => runD (P.ctx (P.call n) g) d ws
    | none => .stuck
/-- what the head must tell of it -/
structure PrgOk (P : Prg) (prog : Program) (w : World) (K : PySem.W.Frag) (mg : Str → Option Value) (base : Heap) (A : Ad) (st : Str → Stmt) : Prop where
  defs : ∀ f d, P.fn f = some d → ∃ fdt, FunD K f f (defArgs (st f)) (defBody (st f)) (defScope (st f)) [] [] (A f) fdt ∧ mg f = some (.ref (A f)) ∧ Binds K fdt d.ps []
  scp : ∀ f d, P.fn f = some d → FnScope d.N d.ps (defScope (st f))
  chk : ∀ f d, P.fn f = some d → chkSs (P.cfg d) d.lm (defScope (st f)) d.body (defBody (st f)) = true
  glo : ∀ x d, P.glo.lookup x = some d → ∃ v u, mg x = some u ∧ RelV v u ∧ ∀ F, Dq K F v d
  bl : ∀ x, P.bl.contains x = true → mg x = none
  exn : ∀ x, P.exn.contains x = true → ∃ bmB B newId initId, ExcBaseFacts B newId initId bmB ∧ PySem.W.excIn K (A x) bmB newId = true ∧ mg x = some (.ref (A x)) ∧ PySem.W.keepIn K (.ref (A x)) = true ∧
    PySem.W.subIn K (.ref (A x)) (.type "BaseException") = some true ∧ PySem.W.typeIn K (.ref (A x)) = some (.type "type")
  told : ∀ g hs, P.told.lookup g = some hs → ∃ (a e no : Str) (CS : Addr) (j j2 k k2 : Nat) (p1 p2 p3 p4 p5 p6 p7 p8 p9 p10 p11 : Pos) (Ng : List Str) (fdt : FuncData),
    FunD K g g (defArgs (st g)) (defBody (st g)) (defScope (st g)) [] [] (A g) fdt ∧ mg g = some (.ref (A g)) ∧ Binds K fdt [a] [] ∧ FnScope Ng [a] (defScope (st g)) ∧ Ng[0]? = some a ∧ Vis (defScope (st g)) a ∧
    defBody (st g) = [.Try [.Return (some (.Tuple [.Constant (.str "told") j2 p9, .Call (.Name a p1) [] [] p2] k p10)) p3] [.ExceptHandler (some (.Name e p4)) none [.Return (some (.Tuple [.Constant (.str no) j p5] k2 p11)) p6] p7] [] [] p8] ∧
    (defScope (st g)).names.lookup e = some .globalImplicit ∧ mg e = some (.ref CS) ∧ (e == ("__debug__" : Str)) = false ∧ (a == ("__debug__" : Str)) = false ∧ (a == ("__classdict__" : Str)) = false ∧ HsOk K A CS no hs
  lam : ∀ f d fdt, P.fn f = some d → d.lm = true → FunD K f f (defArgs (st f)) (defBody (st f)) (defScope (st f)) [] [] (A f) fdt → ∃ c Pt, fdt.code = .ref c ∧ TabB base mg c Pt ∧ (Pt, f ++ ".<locals>." ++ "<lambda>") ∈ A.T ∧ ∀ p, p ∈ A.T → p.1 = Pt → p.2 = f ++ ".<locals>." ++ "<lambda>"
section
variable {P : Prg} {prog : Program} {w : World} {K : PySem.W.Frag} {mg : Str → Option Value} {base : Heap} {A : Ad} {st : Str → Stmt} {B : Bs} {σ σ2 : L2.St} {ρ : Env} {T : Tmps} {H F : Hp} {O : Addr → Option Owner}
theorem Sep.bare (S : Sep K A B σ ρ T H F O) {n : Nat} (h : σ2.length = n) : Sep K A B σ2 (List.replicate n none) [] H F O := by
  have no : ∀ (i : Nat) (w : W), (List.replicate n (none : Option W))[i]? ≠ some (some w) := fun i w e => by
    rw [List.getElem?_replicate] at e
    split at e <;> cases e
  exact ⟨S.fh, S.f0, S.fn, S.h0, S.h1, S.ho, by rw [h, List.length_replicate], fun i w e => absurd e (no i w), fun k r v e => by simp at e, fun i xs e => absurd e (no i _), fun k xs p e => by simp at e, fun i xs p e => absurd e (no i _), S.nn, S.tb⟩
theorem none_map {ws : List W} : (ws.map fun _ => (none : Option W)) = List.replicate ws.length none := by
  induction ws with
  | nil => rfl
  | cons w ws ih => rw [List.map_cons, ih, List.length_cons, List.replicate_succ]
/-- the end of a def's run, as its promise has it -/
theorem run_sound {Γ : Ctx} {d : Fd} {vs : List V} {ws : List W} {Q : VK} {Ex : XK} {F0 : Hp} {O0 : Addr → Option Owner} (hl : vs.length = ws.length) (hN : d.ps.length ≤ d.N.length)
    (h : match runD Γ d ws with
    | .ret r o => (∀ i, r ≠ .slot i) ∧ ∀ v H', At K A (callB H F0 O0 vs) (vs.map some) (outs ws o) [(r, v)] H' → Q v H'
    | .ex c => ∀ H', At K A (callB H F0 O0 vs) (vs.map some) (ws.map fun _ => none) [] H' → Ex (.ref (A c)) none H'
    | .stuck => False) :
    FlP K A (fun cls d _ H => Ex cls d H) (callB H F0 O0 vs) { nx := fun _ H' => Q .non H', rt := Q } (evSs Γ d.body (ws.map some ++ List.replicate (d.N.length - ws.length) none)) := by
  have fin : ∀ {ρ : Env} {r : R}, (match endD ws ρ r with
    | .ret r o => (∀ i, r ≠ .slot i) ∧ ∀ v H', At K A (callB H F0 O0 vs) (vs.map some) (outs ws o) [(r, v)] H' → Q v H'
    | .ex c => ∀ H', At K A (callB H F0 O0 vs) (vs.map some) (ws.map fun _ => none) [] H' → Ex (.ref (A c)) none H'
    | .stuck => False) → ∀ σ v H', At K A (callB H F0 O0 vs) σ ρ [(r, v)] H' → Q v H' := fun {ρ r} h σ v H' a => by
    unfold endD at h
    cases q : finR ρ r with
    | none => rw [q] at h; exact h.elim
    | some r' =>
      rw [q] at h
      split at h
      · rename_i e
        split at e
        · rename_i e0
          cases e0
          split at e
          · split at e
            · rename_i ys q2
              cases e
              exact h.2 _ _ (exit_sound a q hl ⟨_, q2, rfl⟩)
            · cases e
          · rename_i nx
            cases e
            refine h.2 _ _ (exit_sound a q hl ?_)
            split
            · exact absurd rfl (nx _ _)
            · rfl
        · cases e
      · rename_i e
        split at e
        · split at e
          · split at e <;> cases e
          · cases e
        · cases e
      · exact h.elim
  by_cases hlen : ws.length = d.ps.length
  · have h1 : runD Γ d ws = (match evSs Γ d.body (ws.map some ++ List.replicate (d.N.length - ws.length) none) with
      | .nx ρ => endD ws ρ (.d .none)
      | .rt r ρ => endD ws ρ r
      | .ex c _ => .ex c
      | _ => .stuck) := if_pos hlen
    cases q : evSs Γ d.body (ws.map some ++ List.replicate (d.N.length - ws.length) none) with
    | nx ρ =>
      have h2 : runD Γ d ws = endD ws ρ (.d .none) := by rw [h1, q]
      rw [h2] at h
      exact fun σ H' ⟨F, O, S⟩ => fin h σ .non H' ⟨F, O, Sep.push (T := []) S .non⟩
    | rt r ρ =>
      have h2 : runD Γ d ws = endD ws ρ r := by rw [h1, q]
      rw [h2] at h
      exact fun σ v H' a => fin h σ v H' a
    | ex c ρ =>
      have h2 : runD Γ d ws = .ex c := by rw [h1, q]
      rw [h2] at h
      exact fun σ H' ⟨F, O, S⟩ => h H' ⟨F, O, by rw [none_map]; exact S.bare (by rw [List.length_map, hl])⟩
    | bk ρ =>
      have h2 : runD Γ d ws = .stuck := by rw [h1, q]
      rw [h2] at h
      exact h.elim
    | ct ρ =>
      have h2 : runD Γ d ws = .stuck := by rw [h1, q]
      rw [h2] at h
      exact h.elim
    | stuck =>
      have h2 : runD Γ d ws = .stuck := by rw [h1, q]
      rw [h2] at h
      exact h.elim
  · have h2 : runD Γ d ws = .stuck := if_neg hlen
    rw [h2] at h
    exact h.elim
end
end Mn
set_option Elab.async false
set_option linter.all false
set_option maxRecDepth 100000
set_option maxHeartbeats 4000000
namespace Mn
open PySem PySem.Spec PyProof.Rows L2 LamX
section
variable {P : Prg} {prog : Program} {w : World} {K : PySem.W.Frag} {mg : Str → Option Value} {base : Heap} {A : Ad} {st : Str → Stmt}
/-- the defs of n calls' depth keep their promises -/
def Keeps (P : Prg) (prog : Program) (w : World) (K : PySem.W.Frag) (mg : Str → Option Value) (base : Heap) (A : Ad) (st : Str → Stmt) (n : Nat) : Prop :=
  ∀ g f d, P.fn f = some d → ∃ fdt, FnG g prog w K mg base (5 * n) (A f) fdt d.ps (spC K A d.ps.length (P.call n g f)) ∧ FunD K f f (defArgs (st f)) (defBody (st f)) (defScope (st f)) [] [] (A f) fdt ∧ Binds K fdt d.ps []
theorem cfg_ar {d : Fd} {f : Str} {n : Nat} (h : (P.cfg d).ar f = some n) : ∃ e, P.fn f = some e ∧ e.ps.length = n := by
  have h' : (P.fn f).map (fun e => e.ps.length) = some n := h
  cases q : P.fn f with
  | none => rw [q] at h'; cases h'
  | some e => rw [q] at h'; exact ⟨e, rfl, Option.some.inj h'⟩
/-- where a body runs -/
theorem PrgOk.cx (S : PrgOk P prog w K mg base A st) {n : Nat} (I : Keeps P prog w K mg base A st n) {g : Bool} {d : Fd} {X : Cx} {sc : Scope} {Wx : WX} {told : Str → Option (List (Str × D))} (e1 : X.prog = prog) (e2 : X.w = w) (e3 : X.K = K) (e4 : X.mg = mg) (e5 : X.base = base) (e6 : X.env.scope = sc) (e7 : X.N = d.N) (nd : d.N.Nodup)
    (e8 : X.calm = true) (tk : Takes X Wx) (kd : sc.kind = .function) (hr : Room (5 * n + 2) X.A) (hg : g = true → X.A.guards = some []) : CxOk X A { P.ctx (P.call n) g with told := told } (P.cfg d) sc Wx := by
  subst e1 e2 e3 e4 e5
  refine ⟨e6, e7, by rw [e7]; exact nd, e8, tk, kd, by have := hr.un; omega, hg, fun f m h => ?_, fun f => rfl, fun x y _ h => S.glo x y h, fun x h => S.bl x h, fun x h => ?_⟩
  · obtain ⟨b, b1, b2⟩ := cfg_ar h
    obtain ⟨fdt, G, FD, bn⟩ := I g f b b1
    obtain ⟨_, _, m1, _⟩ := S.defs f b b1
    subst b2
    exact ⟨m1, FD.kp, _, fdt, b.ps, G, hr, bn⟩
  · obtain ⟨bmB, B, n1, n2, F, q1, q2, q3, q4, q5⟩ := S.exn x h
    exact ⟨bmB, B, n1, n2, F, q1, q2, q3, raises_own q4 q5⟩
theorem start0 {a : Str} {N : List Str} (h : N[0]? = some a) (f : Addr) : (L2.start N [V.ref f])[0]? = some (some (V.ref f)) := rfl
theorem lam_bind {body : Expr} {scope : Scope} (q : Str) (cl : List (Str × Addr)) (pm cv ctv : Value) : bindArgs (PySem.W.kla_fn "<lambda>" q ⟨[], [], none, [], [], none, []⟩ body scope cl pm cv ctv) ⟨[], []⟩ = pure [] := rfl
/-- g(lambda: ..), told of any context -/
theorem heard_rule {X : Cx} {A : Ad} {Wx : WX} {gn a e no f : Str} {CS c Pt : Addr} {hs : List (Str × D)} {j j2 k k2 kk : Nat} {p1 p2 p3 p4 p5 p6 p7 p8 p9 p10 p11 p lpos pos : Pos} {Ng : List Str} {pg : Arguments} {sg : Scope} {dV kV doc pm cdv ct oc : Value} {an od : Option Addr} {osl : Array (Option Value)} {body : Expr} {scope : Scope} {ev : Env → Res (R × Env)}
    (hgl : Gl X gn) (mG : X.mg gn = some (.ref (A gn))) (kp : PySem.W.keepIn X.K (.ref (A gn)) = true)
    (lk : X.K.lookup (A gn) = some ⟨oc, od, .func (PySem.W.fnOf gn gn pg [.Try [.Return (some (.Tuple [.Constant (.str "told") j2 p9, .Call (.Name a p1) [] [] p2] k p10)) p3] [.ExceptHandler (some (.Name e p4)) none [.Return (some (.Tuple [.Constant (.str no) j p5] k2 p11)) p6] p7] [] [] p8] sg dV kV doc pm an cdv ct), osl⟩)
    (hcd : PySem.W.codeIn X.K cdv gn = true)
    (bG : Binds X.K (PySem.W.fnOf gn gn pg [.Try [.Return (some (.Tuple [.Constant (.str "told") j2 p9, .Call (.Name a p1) [] [] p2] k p10)) p3] [.ExceptHandler (some (.Name e p4)) none [.Return (some (.Tuple [.Constant (.str no) j p5] k2 p11)) p6] p7] [] [] p8] sg dV kV doc pm an cdv ct) [a] [])
    (Sg : FnScope Ng [a] sg) (hN0 : Ng[0]? = some a) (hva : Vis sg a) (hle : sg.names.lookup e = some .globalImplicit) (hme : X.mg e = some (.ref CS)) (he : (e == ("__debug__" : Str)) = false) (hg1 : (gn == ("__debug__" : Str)) = false) (ha1 : (a == ("__debug__" : Str)) = false) (ha2 : (a == ("__classdict__" : Str)) = false)
    (hso : HsOk X.K A CS no hs) (TB : TabB X.base X.mg c Pt) (ec : X.env.code = .ref c) (hq : X.env.qual = f) (hmT : (Pt, f ++ "<lambda>") ∈ A.T) (hu : ∀ p, p ∈ A.T → p.1 = Pt → p.2 = f ++ "<lambda>") (hr : Room (kk + 2) X.A) (L : LamS X.env.scope scope)
    (hB : ∀ (A2 : Around) (outer2 : List PySem.Env) (s2 : Shared) (H2 : Hp) (E : XK) (f2 c2 : Addr), Room kk (A2.deeper (lamEnv X scope s2.heap.objs.size f2 c2)) → PE (lamCx X A2 outer2 s2 H2 E scope f2 c2) body (RdE X.K A (fun cls d _ H => E cls d H) ev)) :
    PE X (.Call (.Name gn p) [.Lambda ⟨[], [], none, [], [], none, []⟩ body scope lpos] [] pos) (RdE X.K A Wx (heardEv hs ev)) := by
  subst hq
  have hG := tup_gives (X := X) (Ng := Ng) (x := gn) (a := a) (q := X.env.qual ++ "<lambda>") (yes := "told") (no := no) (g := A gn) (cdg := cdv) (j := j) (j2 := j2) (k := k) (k2 := k2) (p1 := p1) (p2 := p2) (p3 := p3) (p4 := p4) (p5 := p5) (p6 := p6) (p7 := p7) (p8 := p8) (p9 := p9) (p10 := p10) (p11 := p11) hle hme he (start0 hN0)
  have key := pe_lamcall (X := X) (T := A.T) (TT := TTup X.K CS "told" no) (x := gn) (g := A gn) (c := c) (P := Pt) (t := fun E => RdE X.K A (fun cls d _ H => E cls d H) ev) (k := kk) (params := ⟨[], [], none, [], [], none, []⟩) (body := body) (scope := scope) (p := p) (lpos := lpos) (pos := pos) hgl mG kp lk hcd bG Sg hN0 hva hG TB ec hmT hu hr L rfl lam_bind hB hg1 ha1 ha2
  exact PE_imp key fun σ H Q h => heard_sound hso h
theorem PrgOk.heard (S : PrgOk P prog w K mg base A st) {n : Nat} (I : Keeps P prog w K mg base A st n) {g : Bool} {d : Fd} {f : Str} (hfn : P.fn f = some d) (hlm : d.lm = true) {fdt : FuncData} (FD : FunD K f f (defArgs (st f)) (defBody (st f)) (defScope (st f)) [] [] (A f) fdt) {A' : Around} {outer : List PySem.Env} {s : Shared} {H : Hp} {Ex : XK}
    (hr : Room (5 * n + 4) (A'.deeper (envOfC f (defScope (st f)) s.heap.objs.size (A f) fdt.code))) (kd : (defScope (st f)).kind = .function) (nd : d.N.Nodup) :
    HeardOk (cxOf (L2.CX prog w) prog w K mg base d.N f (defScope (st f)) (A f) fdt.code A' outer s H Ex) A (P.ctx (P.call n) g) (P.cfg d) (defScope (st f)) (fun cls d _ H => Ex cls d H) := by
  intro gn hs ht body scope p lpos pos ev hgl hlam hbody
  obtain ⟨a, e, no, CS, j, j2, k, k2, p1, p2, p3, p4, p5, p6, p7, p8, p9, p10, p11, Ng, fdg, Fg, mG, bG, Sg, hN0, hva, hbd, hle, hme, he, ha1, ha2, hso⟩ := S.told gn hs ht
  obtain ⟨c, Pt, ec, TB, hmT, hu⟩ := S.lam f d fdt hfn hlm FD
  obtain ⟨oc, od, dV, kV, doc, pm, an, cdv, ct, osl, efd, lk, hcd, _, _⟩ := Fg.ex
  rw [efd] at lk bG
  rw [hbd] at lk bG
  have L := LamX.lamS_by hlam
  have gl : (defScope (st f)).names.lookup gn = some .globalImplicit ∧ (gn == ("__debug__" : Str)) = false := by
    unfold glB at hgl
    simp only [Bool.and_eq_true, decide_eq_true_eq, Bool.not_eq_true'] at hgl
    exact hgl
  have hB : ∀ (A2 : Around) (outer2 : List PySem.Env) (s2 : Shared) (H2 : Hp) (E : XK) (f2 c2 : Addr), Room (5 * n + 2) (A2.deeper (lamEnv (cxOf (L2.CX prog w) prog w K mg base d.N f (defScope (st f)) (A f) fdt.code A' outer s H Ex) scope s2.heap.objs.size f2 c2)) →
      PE (lamCx (cxOf (L2.CX prog w) prog w K mg base d.N f (defScope (st f)) (A f) fdt.code A' outer s H Ex) A2 outer2 s2 H2 E scope f2 c2) body (RdE K A (fun cls d _ H => E cls d H) ev) := fun A2 outer2 s2 H2 E f2 c2 hr2 => by
    refine hbody (lamCx (cxOf (L2.CX prog w) prog w K mg base d.N f (defScope (st f)) (A f) fdt.code A' outer s H Ex) A2 outer2 s2 H2 E scope f2 c2) (fun cls d _ H => E cls d H) ?_
    exact S.cx I (g := false) rfl rfl rfl rfl rfl rfl rfl nd rfl (takes_of rfl rfl rfl rfl) L.kind hr2 (fun z => Bool.noConfusion z)
  exact heard_rule (X := cxOf (L2.CX prog w) prog w K mg base d.N f (defScope (st f)) (A f) fdt.code A' outer s H Ex) (f := f ++ ".<locals>.") gl.1 mG Fg.kp lk hcd bG Sg hN0 hva hle hme he gl.2 ha1 ha2 hso TB ec rfl hmT hu hr L hB
theorem PrgOk.keeps (S : PrgOk P prog w K mg base A st) : ∀ n, Keeps P prog w K mg base A st n
  | 0 => fun g f d hfn => by
    obtain ⟨fdt, FD, mG, bn⟩ := S.defs f d hfn
    exact ⟨fdt, ⟨fun vs H Q Ex h => h.1, fun A' outer s H args us vs Q Ex _ _ _ _ _ h => by
      obtain ⟨_, F, O, ws, _, z⟩ := h
      exact (show False from z).elim⟩, FD, bn⟩
  | n + 1 => fun g f d hfn => by
    have I := S.keeps n
    obtain ⟨fdt, FD, mG, bn⟩ := S.defs f d hfn
    refine ⟨fdt, ?_, FD, bn⟩
    have FD0 := FD
    obtain ⟨oc, od, dV, kV, doc, pm, an, cdv, ct, osl, efd, lk, hcd, _, _⟩ := FD.ex
    have sc := S.scp f d hfn
    rw [efd] at lk ⊢
    refine fnG_of (k := 5 * n + 4) lk hcd sc (fun vs H Q Ex h => h.1) fun A' outer s H vs Q Ex hg hr hsp => ?_
    obtain ⟨hl, F, O, ws, Sp, h⟩ := hsp
    have hwl : vs.length = ws.length := by
      have := Sp.len
      simpa using this
    have ecall : P.call (n + 1) g f ws = runD (P.ctx (P.call n) g) d ws := by
      show (match P.fn f with | some d => runD (P.ctx (P.call n) g) d ws | none => .stuck) = _
      rw [hfn]
    rw [ecall] at h
    have hNl : d.ps.length ≤ d.N.length := by
      have := congrArg List.length sc.pre
      rw [List.length_take] at this
      omega
    have ecd : cdv = fdt.code := by rw [efd]
    subst ecd
    have cx := S.cx I (g := g) (d := d) (told := fun f => P.told.lookup f) (X := cxOf (L2.CX prog w) prog w K mg base d.N f (defScope (st f)) (A f) fdt.code A' outer s H Ex) (sc := defScope (st f)) (Wx := fun cls d _ H => Ex cls d H) rfl rfl rfl rfl rfl rfl rfl sc.nd rfl (takes_of rfl rfl rfl rfl) sc.kind (hr.mono (by omega)) hg
    refine ⟨_, okSs cx (fun z => S.heard I hfn z FD0 hr sc.kind sc.nd) (fun _ _ => rfl) (passes_of rfl) d.body (defBody (st f)) (S.chk f d hfn), callB H F O vs, ws.map some ++ List.replicate (d.N.length - ws.length) none, ⟨F, O, ?_⟩, run_sound hwl hNl h⟩
    have := Sp.pad (d.N.length - vs.length)
    rw [hwl] at this
    show Sep K A (callB H F O vs) (vs.map some ++ List.replicate (d.N.length - vs.length) none) _ [] H F O
    rw [hwl]
    exact this
end
end Mn
set_option Elab.async false
set_option linter.all false
set_option maxRecDepth 100000
set_option maxHeartbeats 4000000
namespace Mn
open PySem PySem.Spec PyProof.Rows L2 LamX He
/-! ## from what a head tells -/
/-- the shape of a def that hears: its parameter, the class, the word -/
def toldShape : List Stmt → Option (Str × Str × Str)
  | [.Try [.Return (some (.Tuple [.Constant (.str y) _ _, .Call (.Name a _) [] [] _] _ _)) _] [.ExceptHandler (some (.Name e _)) none [.Return (some (.Tuple [.Constant (.str no) _ _] _ _)) _] _] [] [] _] => if y = "told" then some (a, e, no) else none
  | _ => none
theorem toldShape_ok {b : List Stmt} {a e no : Str} (h : toldShape b = some (a, e, no)) : ∃ (j j2 k k2 : Nat) (p1 p2 p3 p4 p5 p6 p7 p8 p9 p10 p11 : Pos),
    b = [.Try [.Return (some (.Tuple [.Constant (.str "told") j2 p9, .Call (.Name a p1) [] [] p2] k p10)) p3] [.ExceptHandler (some (.Name e p4)) none [.Return (some (.Tuple [.Constant (.str no) j p5] k2 p11)) p6] p7] [] [] p8] := by
  unfold toldShape at h
  split at h
  · split at h
    · rename_i q
      cases h
      subst q
      exact ⟨_, _, _, _, _, _, _, _, _, _, _, _, _, _, _, rfl⟩
    · cases h
  · cases h
def scB (N ps : List Str) (sc : Scope) : Bool := decide (sc.kind = .function) && !sc.isCoroutine && !sc.isGenerator && decide N.Nodup && decide (N.take ps.length = ps) && (ps.all fun x => decide (sc.names.lookup x = some .local) || decide (sc.names.lookup x = some .cell)) && sc.names.all fun y => !decide (y.2 = .free)
theorem scB_ok {N ps : List Str} {sc : Scope} (h : scB N ps sc = true) : FnScope N ps sc := by
  unfold scB at h
  simp only [Bool.and_eq_true, decide_eq_true_eq, Bool.not_eq_true', List.all_eq_true, Bool.or_eq_true, decide_eq_false_iff_not] at h
  obtain ⟨⟨⟨⟨⟨⟨h1, h2⟩, h3⟩, h4⟩, h5⟩, h6⟩, h7⟩ := h
  exact ⟨h1, h2, h3, h4, h5, h6, h7⟩
/-- simple data as the head has it -/
def dvOf : D → Dv
  | .int i => .int i
  | .str s => .str s
  | .bool b => .bl b
  | _ => .non
def isSimple : D → Bool
  | .int _ => true
  | .str _ => true
  | .bool _ => true
  | .none => true
  | _ => false
theorem simple_dq {K : PySem.W.Frag} {F : Hp} {d : D} (h : isSimple d = true) : Dq K F (Dv.v K (dvOf d)) d := by
  cases d with
  | none => exact .non
  | bool b => exact .bl b
  | int i => exact .int i
  | str s => exact .str s
  | _ => cases h
theorem simples_dq {K : PySem.W.Frag} {F : Hp} : ∀ {ds : List D}, ds.all isSimple = true → DqAll K F ((ds.map dvOf).map (Dv.v K)) ds
  | [], _ => .nil
  | d :: ds, h => by
    rw [List.all_cons, Bool.and_eq_true] at h
    exact .cons (simple_dq h.1) (simples_dq h.2)
def gloFa : Str × D → Fa
  | (x, .str s) => .str x s
  | (x, .int i) => .int x i
  | (x, _) => .glo x
def gloEx (K : PySem.W.Frag) : Str × D → Bool
  | (_, .str _) => true
  | (_, .int _) => true
  | (x, .tuple ds) => ds.all isSimple && tupB K x (ds.map dvOf)
  | _ => false
def noLists (K : PySem.W.Frag) : Bool := K.all fun q => match q.2.cls with
  | .type c => !decide (c = "list")
  | _ => true
theorem noLists_ok {K : PySem.W.Frag} (h : noLists K = true) {a : Addr} {o : Obj} (e : K.lookup a = some o) : o.cls ≠ .type "list" := by
  intro z
  have m : (a, o) ∈ K := He.lookup_mem e
  have q := List.all_eq_true.mp h _ m
  simp only [z] at q
  simp at q
def toldE (st : Str → Stmt) (g : Str) : Str := match toldShape (defBody (st g)) with
  | some (_, e, _) => e
  | none => ""
def Prg.fa (P : Prg) (st : Str → Stmt) : List Fa := P.fns.map (fun d => .glo d.name) ++ P.bl.map .free ++ P.exn.map .exc ++ P.exn.map .glo ++ P.glo.map gloFa ++ P.told.map (fun t => .glo t.1) ++ P.told.map (fun t => .glo (toldE st t.1)) ++ P.told.flatMap fun t => t.2.map fun h => .exm h.1 (toldE st t.1) true
def defD (st : Str → Stmt) (f : Str) : DefD := ⟨(f, none), f, f, defArgs (st f), defBody (st f), defScope (st f), [], []⟩
def Prg.fd (P : Prg) (st : Str → Stmt) : List DefD := P.fns.map (fun d => defD st d.name) ++ P.told.map fun t => defD st t.1
def Prg.tf (P : Prg) : List Defn := (P.fns.filter (·.lm)).map fun d => (d.name, none)
def Prg.ex (P : Prg) (K : PySem.W.Frag) : Bool := noLists K && P.glo.all (gloEx K)
/-- what is checked of the text -/
def Prg.txtB (P : Prg) (st : Str → Stmt) : Bool := P.fns.all fun d => scB d.N d.ps (defScope (st d.name)) && chkSs (P.cfg d) d.lm (defScope (st d.name)) d.body (defBody (st d.name))
def Prg.toldB (P : Prg) (st : Str → Stmt) : Bool := P.told.all fun t => match toldShape (defBody (st t.1)) with
  | some (a, e, no) => scB [a] [a] (defScope (st t.1)) && (decide ((defScope (st t.1)).names.lookup a = some .local) || decide ((defScope (st t.1)).names.lookup a = some .cell)) && decide ((defScope (st t.1)).names.lookup e = some .globalImplicit) && !(e == ("__debug__" : Str)) && !(a == ("__debug__" : Str)) && !(a == ("__classdict__" : Str)) && t.2.all fun h => (match h.2 with
    | .tuple [.str s] => decide (s = no)
    | _ => false)
  | none => false
def Bnd (st : Str → Stmt) (f : Str) (ps : List Str) : Prop := ∀ (kV doc pm : Value) (an : Option Addr) (cdv ct : Value) (us : List Value), us.length = ps.length → bindArgs (PySem.W.fnOf f f (defArgs (st f)) (defBody (st f)) (defScope (st f)) .none kV doc pm an cdv ct) ⟨us, []⟩ = pure (ps.zip us)
theorem fn_mem {P : Prg} {f : Str} {d : Fd} (h : P.fn f = some d) : d ∈ P.fns ∧ d.name = f := by
  unfold Prg.fn at h
  exact ⟨List.mem_of_find?_eq_some h, by simpa using List.find?_some h⟩
theorem look_mem {β : Type} {x : Str} {y : β} : ∀ {l : List (Str × β)}, l.lookup x = some y → (x, y) ∈ l
  | [], h => by cases h
  | (a, b) :: l, h => by
    rw [List.lookup_cons] at h
    split at h
    · rename_i q
      cases h
      rw [beq_iff_eq] at q
      subst q
      exact List.mem_cons_self
    · exact List.mem_cons_of_mem _ (look_mem h)
theorem lookEx_mem {c : Str} {d : D} : ∀ {hs : List (Str × D)}, lookupEx c hs = some d → (c, d) ∈ hs
  | [], h => by cases h
  | (a, b) :: l, h => by
    unfold lookupEx at h
    split at h
    · rename_i q
      cases h
      subst q
      exact List.mem_cons_self
    · exact List.mem_cons_of_mem _ (lookEx_mem h)
section
variable {P : Prg} {prog : Program} {st : Str → Stmt} {w : World} {h base : Heap} {K : PySem.W.Frag} {mg : Str → Option Value}
def adOf (P : Prg) (K : PySem.W.Frag) : Ad := ⟨fun x => ga K x, (P.fns.filter (·.lm)).map fun d => ((cT K (d.name, none)).2, d.name ++ ".<locals>." ++ "<lambda>")⟩
theorem prgOk_of (c : SaysX (P.fa st) (P.fd st) [] P.tf P.ex w h K) (X : K.In h) (G : h.Ns mainGlobals mg) (tx : P.txtB st = true) (to : P.toldB st = true) (bn : ∀ d, d ∈ P.fns → Bnd st d.name d.ps) (bt : ∀ t, t ∈ P.told → ∀ a e no, toldShape (defBody (st t.1)) = some (a, e, no) → Bnd st t.1 [a])
    (one : ∀ d e, d ∈ P.fns → d.lm = true → e ∈ P.fns → e.lm = true → d.name = e.name) (TB : ∀ p, p ∈ P.tf → TabB base mg (cT K p).1 (cT K p).2) : PrgOk P prog w K mg base (adOf P K) st := by
  have fact : ∀ {f : Fa}, f ∈ P.fa st → f.ok K = true := fun hf => c.t.d.facts hf
  have def_ : ∀ {d : DefD}, d ∈ P.fd st → ∃ fd, FunD K d.name d.qual d.params d.body d.scope (d.dvs K) (d.kws K) (fAd K d.at_) fd := fun hd => c.t.d.defs hd
  have ex := c.more
  unfold Prg.ex at ex
  rw [Bool.and_eq_true] at ex
  have tx' : ∀ d, d ∈ P.fns → scB d.N d.ps (defScope (st d.name)) = true ∧ chkSs (P.cfg d) d.lm (defScope (st d.name)) d.body (defBody (st d.name)) = true := fun d hd => by
    have := List.all_eq_true.mp tx d hd
    rwa [Bool.and_eq_true] at this
  refine ⟨fun f d hf => ?_, fun f d hf => ?_, fun f d hf => ?_, fun x d hx => ?_, fun x hx => ?_, fun x hx => ?_, fun g hs hg => ?_, fun f d fdt hf hl FD => ?_⟩
  · obtain ⟨hd, rfl⟩ := fn_mem hf
    obtain ⟨fdt, F⟩ := def_ (d := defD st d.name) (List.mem_append_left _ (List.mem_map_of_mem hd))
    have g : mg d.name = some (.ref (ga K d.name)) := glo_ok X G (fact (f := .glo d.name) (by simp only [Prg.fa, List.mem_append, List.mem_map]; exact .inl (.inl (.inl (.inl (.inl (.inl (.inl ⟨d, hd, rfl⟩))))))))
    exact ⟨fdt, F, g, FunD.bindsN F (bn d hd)⟩
  · obtain ⟨hd, rfl⟩ := fn_mem hf
    exact scB_ok (tx' d hd).1
  · obtain ⟨hd, rfl⟩ := fn_mem hf
    exact (tx' d hd).2
  · have hm := look_mem hx
    have hfa : gloFa (x, d) ∈ P.fa st := by simp only [Prg.fa, List.mem_append, List.mem_map]; exact .inl (.inl (.inl (.inr ⟨_, hm, rfl⟩)))
    have hex := List.all_eq_true.mp ex.2 _ hm
    cases d with
    | str s =>
      obtain ⟨t, e⟩ := str_ok X G (fact hfa)
      exact ⟨.str s, _, e, ⟨t, rfl⟩, fun F => .str s⟩
    | int i =>
      obtain ⟨t, e⟩ := int_ok X G (fact hfa)
      exact ⟨.int i, _, e, ⟨t, rfl⟩, fun F => .int i⟩
    | tuple ds =>
      simp only [gloEx, Bool.and_eq_true] at hex
      exact ⟨.ref (ga K x), _, glo_ok X G (fact hfa), rfl, fun F => .tup (tupB_ok hex.2 F) (simples_dq hex.1)⟩
    | _ => simp [gloEx] at hex
  · exact free_ok X G (fact (f := .free x) (by simp only [Prg.fa, List.mem_append, List.mem_map]; exact .inl (.inl (.inl (.inl (.inl (.inl (.inr ⟨x, by simpa using hx, rfl⟩))))))))
  · have hx' : x ∈ P.exn := by simpa using hx
    obtain ⟨e1, e2, e3, e4⟩ := exc_ok (fact (f := .exc x) (by simp only [Prg.fa, List.mem_append, List.mem_map]; exact .inl (.inl (.inl (.inl (.inl (.inr ⟨x, hx', rfl⟩)))))))
    have g := glo_ok X G (fact (f := .glo x) (by simp only [Prg.fa, List.mem_append, List.mem_map]; exact .inl (.inl (.inl (.inl (.inr ⟨x, hx', rfl⟩))))))
    exact ⟨veBase, "ValueError", "ValueError.__new__", "ValueError.__init__", PySem.F.excBase_ValueError, e1, g, e2, e3, e4⟩
  · have hm := look_mem hg
    have q := List.all_eq_true.mp to _ hm
    simp only at q
    split at q
    · rename_i a e no hsh
      simp only [Bool.and_eq_true, Bool.or_eq_true, decide_eq_true_eq, Bool.not_eq_true', List.all_eq_true] at q
      obtain ⟨⟨⟨⟨⟨⟨q1, q2⟩, q3⟩, q4⟩, q5⟩, q6⟩, q7⟩ := q
      obtain ⟨j, j2, k, k2, p1, p2, p3, p4, p5, p6, p7, p8, p9, p10, p11, hb⟩ := toldShape_ok hsh
      obtain ⟨fdt, F⟩ := def_ (d := defD st g) (List.mem_append_right _ (List.mem_map.mpr ⟨_, hm, rfl⟩))
      have ete : toldE st g = e := by unfold toldE; rw [hsh]
      have g1 : mg g = some (.ref (ga K g)) := glo_ok X G (fact (f := .glo g) (by simp only [Prg.fa, List.mem_append, List.mem_map]; exact .inl (.inl (.inr ⟨_, hm, rfl⟩))))
      have g2 : mg e = some (.ref (ga K e)) := glo_ok X G (fact (f := .glo e) (by simp only [Prg.fa, List.mem_append, List.mem_map]; exact .inl (.inr ⟨_, hm, by rw [ete]⟩)))
      refine ⟨a, e, no, ga K e, j, j2, k, k2, p1, p2, p3, p4, p5, p6, p7, p8, p9, p10, p11, [a], fdt, F, g1, FunD.bindsN F (bt _ hm a e no hsh), scB_ok q1, rfl, q2.imp id .inl, hb, q3, g2, q4, q5, q6, fun cx d hcx => ?_⟩
      have hc := lookEx_mem hcx
      have q8 := q7 _ hc
      refine ⟨exm_ok (fact (f := .exm cx e true) (by simp only [Prg.fa, List.mem_append, List.mem_flatMap, List.mem_map]; exact .inr ⟨_, hm, _, hc, by rw [ete]⟩)), ?_⟩
      simp only at q8
      split at q8
      · rename_i s
        rw [of_decide_eq_true q8]
      · cases q8
    · cases q
  · obtain ⟨hd, rfl⟩ := fn_mem hf
    obtain ⟨oc, od, dV, kV, doc, pm, an, cdv, ct, osl, efd, lk, hcd, _, _⟩ := FD.ex
    obtain ⟨cc, ecd⟩ := codeIn_ref hcd
    have ecode : fdt.code = .ref cc := by rw [efd]; exact ecd
    have hcof : codeOf K (d.name, none) = cc := codeOf_eq lk ecode
    have hp : (d.name, none) ∈ P.tf := List.mem_map.mpr ⟨d, List.mem_filter.mpr ⟨hd, hl⟩, rfl⟩
    have tb := TB _ hp
    refine ⟨cc, (cT K (d.name, none)).2, ecode, ?_, List.mem_map.mpr ⟨d, List.mem_filter.mpr ⟨hd, hl⟩, rfl⟩, fun p hpp _ => ?_⟩
    · have e1 : (cT K (d.name, none)).1 = cc := hcof
      rw [← e1]
      exact tb
    · obtain ⟨d2, hd2, rfl⟩ := List.mem_map.mp hpp
      obtain ⟨m2, l2⟩ := List.mem_filter.mp hd2
      show d2.name ++ ".<locals>." ++ "<lambda>" = _
      rw [one d2 d m2 l2 hd hl]
end
end Mn
set_option Elab.async false
set_option linter.all false
set_option maxRecDepth 100000
set_option maxHeartbeats 4000000
namespace Mn
open PySem PySem.Spec PyProof.Rows L2 LamX He
theorem ints_dq {K : PySem.W.Frag} {F : Hp} : ∀ ns : List Int, DqAll K F (ns.map V.int) (ns.map PyData.int)
  | [] => .nil
  | n :: ns => .cons (.int n) (ints_dq ns)
/-- what the head is asked for -/
abbrev Prg.hook (P : Prg) (st : Str → Stmt) (m : Nat) : PySem.W.Hook := hookX m (P.fa st) (P.fd st) [] P.tf P.ex
/-- the law's end, its answers given -/
theorem law_walk {l : PySem.W.OpenLaw} {P : Prg} {st : Str → Stmt} {m n : Nat} {q : Program} {loose : List Str} {XP : (Str → Option Value) → Heap → Prop} {dr : DefRec} {d : Fd} (hn : l.most = some 63) (hdf : dr.params.defaults = []) (hdn : dr.name = "law") (hr : Room (5 * n) callerA)
    (tx : P.txtB st = true) (to : P.toldB st = true) (bn : ∀ d, d ∈ P.fns → Bnd st d.name d.ps) (bt : ∀ t, t ∈ P.told → ∀ a e no, toldShape (defBody (st t.1)) = some (a, e, no) → Bnd st t.1 [a])
    (one : ∀ d e, d ∈ P.fns → d.lm = true → e ∈ P.fns → e.lm = true → d.name = e.name) (hd : P.fn "law" = some d) (hps : d.ps = [("script" : Str)])
    (pure_ : ∀ ns : List Int, ns.length ≤ 63 → (∀ z, z ∈ ns → Builtin.Int.intBits z ≤ 1048576) → P.call n true "law" [.d (.list (ns.map PyData.int))] = .ret (.d (.bool true)) none) :
    PySem.W.WalkO q loose XP (P.hook st m).says l.row.toRowW dr [] (fun f vs => PySem.call f vs) := by
  refine walkG (n := 63) (k := 5 * n) (x := "script") hn (by decide) hdf hr fun w mg fa h Y G hmg => ?_
  obtain ⟨K, KX, c⟩ := Y
  rw [hdn] at hmg
  obtain ⟨hdm, hdnm⟩ := fn_mem hd
  have glaw : mg "law" = some (.ref (ga K "law")) := glo_ok KX G (c.t.d.facts (f := .glo "law") (by simp only [Prg.fa, List.mem_append, List.mem_map]; exact .inl (.inl (.inl (.inl (.inl (.inl (.inl ⟨d, hdm, by rw [hdnm]⟩))))))))
  rw [glaw] at hmg
  cases hmg
  obtain ⟨fdt, F0⟩ := c.t.d.defs (d := defD st d.name) (List.mem_append_left _ (List.mem_map_of_mem hdm))
  have F1 : FunD K d.name d.name (defArgs (st d.name)) (defBody (st d.name)) (defScope (st d.name)) [] [] (ga K d.name) fdt := F0
  rw [hdnm] at F1
  have ex := c.more
  unfold Prg.ex at ex
  rw [Bool.and_eq_true] at ex
  refine ⟨K, fdt, P.tf.map (cT K), spC K (adOf P K) 1 (P.call n true "law"), KX, fun q hq => ?_, fun q hq => ?_, fun q hq => ?_, fun s u => ?_, fun H a ns hl hb hT hO hS => ?_, fun base hKb hG hTB => ?_⟩
  · obtain ⟨p, hp, rfl⟩ := List.mem_map.mp hq
    exact c.empty p hp
  · obtain ⟨p, hp, rfl⟩ := List.mem_map.mp hq
    exact c.out p hp
  · obtain ⟨p, hp, rfl⟩ := List.mem_map.mp hq
    exact PySem.W.codeHd_of_K KX (c.hd p hp)
  · have b := FunD.bindsA (ps := d.ps) F0 (bn d hdm) s [u] (by rw [hps]; rfl)
    rw [hps] at b
    exact b
  · have rdH : ∃ o, H a = some o ∧ nonT o ∧ Rd (mask H) a (.lst (ns.map V.int)) := by
      rcases hS with (z | ⟨u, z⟩) | ⟨o, its, k, e1, e2, _⟩
      · exact ⟨_, z, nonT_lst, .inl (mask_of z nonT_lst)⟩
      · exact ⟨_, z, (fun _ z => nomatch z), .inr ⟨u, mask_of z (fun _ z => nomatch z)⟩⟩
      · exact absurd e2 (noLists_ok ex.1 e1)
    obtain ⟨o, _, _, rd⟩ := rdH
    refine ⟨rfl, mask H, fun _ => none, [.d (.list (ns.map PyData.int))], ?_, ?_⟩
    · refine ⟨fun b o h => (mask_some h).1, fun _ _ h => h, fun _ h => .inl h, fun _ _ h _ => (mask_some h).1, fun _ h => h, fun b h => absurd rfl h, rfl, fun i w h => ?_, fun k r v h => by simp at h, fun i xs h => ?_, fun k xs p h => by simp at h, fun i xs p h _ => ?_, fun _ h => h, ⟨fun b o h => (mask_some h).2, fun p hp => ?_⟩⟩
      · cases i with
        | zero => cases h; exact ⟨_, rfl, .lst rd (ints_dq ns)⟩
        | succ i => simp at h
      · cases i with
        | zero => cases h
        | succ i => simp at h
      · cases i with
        | zero => cases h
        | succ i => simp at h
      · obtain ⟨e, he, rfl⟩ := List.mem_map.mp hp
        exact TabS.nil (hT _ (List.mem_map.mpr ⟨(e.name, none), List.mem_map.mpr ⟨e, he, rfl⟩, rfl⟩))
    · rw [pure_ ns hl hb]
      refine ⟨(fun i z => nomatch z), fun v H' ⟨F, O, S⟩ => ?_⟩
      have t : Dq K F v (.bool true) := S.temps 0 _ _ rfl
      cases t
      rfl
  · have S := prgOk_of (prog := l.prog) (w := w) (base := base) c KX G tx to bn bt one fun p hp => hTB _ (List.mem_map_of_mem hp)
    obtain ⟨fdt2, FG, F2, _⟩ := S.keeps n true "law" d hd
    have e : fdt2 = fdt := by
      obtain ⟨_, _, _, _, _, _, _, _, _, _, _, lk1, _⟩ := F1.ex
      obtain ⟨_, _, _, _, _, _, _, _, _, _, _, lk2, _⟩ := F2.ex
      have lk2' : K.lookup (ga K "law") = _ := lk2
      rw [lk1] at lk2'
      cases lk2'
      rfl
    subst e
    rw [hps] at FG
    exact FG
end Mn
set_option Elab.async false
set_option linter.all false
set_option maxRecDepth 100000
set_option maxHeartbeats 4000000
namespace Mn
open PySem
/-! ## reckoning in the small language -/
theorem bind_left {α β : Type} {m m' : Res α} {f : α → Res β} (h : m = m') : (m >>= f) = (m' >>= f) := by rw [h]
theorem fl_left {α : Type} {m m' : Res α} {f : α → Fl} (h : m = m') : m.fl f = m'.fl f := by rw [h]
theorem bind_ok {α β : Type} (a : α) (f : α → Res β) : ((.ok a : Res α) >>= f) = f a := rfl
theorem bind_ex {α β : Type} (c : Str) (ρ : Env) (f : α → Res β) : ((.ex c ρ : Res α) >>= f) = .ex c ρ := rfl
theorem fl_ok {α : Type} (a : α) (f : α → Fl) : (Res.ok a).fl f = f a := rfl
theorem fl_ex {α : Type} (c : Str) (ρ : Env) (f : α → Fl) : (Res.ex c ρ : Res α).fl f = .ex c ρ := rfl
theorem of_some {α : Type} (a : α) : Res.of (some a) = .ok a := rfl
def andThen (f : Fl) (k : Env → Fl) : Fl := match f with
  | .nx ρ => k ρ
  | f => f
theorem then_left {f f' : Fl} {k : Env → Fl} (h : f = f') : andThen f k = andThen f' k := by rw [h]
theorem evSs_cons (Γ : Ctx) (s : S) (ss : Ss) (ρ : Env) : evSs Γ (.cons s ss) ρ = andThen (evS Γ s ρ) fun ρ => evSs Γ ss ρ := by
  rw [evSs]
  rfl
theorem evSs_nil (Γ : Ctx) (ρ : Env) : evSs Γ .nil ρ = .nx ρ := by rw [evSs]
theorem then_nx (ρ : Env) (k : Env → Fl) : andThen (.nx ρ) k = k ρ := rfl
theorem then_rt (r : R) (ρ : Env) (k : Env → Fl) : andThen (.rt r ρ) k = .rt r ρ := rfl
theorem then_ex (c : Str) (ρ : Env) (k : Env → Fl) : andThen (.ex c ρ) k = .ex c ρ := rfl
/-! comprehensions whose turns leave the slots as they are -/
theorem lc_pure {f : D → Env → Res (Option D × Env)} {ρ : Env} (g : D → Option D) : ∀ {xs acc : List D}, (∀ x, x ∈ xs → f x ρ = .ok (g x, ρ)) → acc.length + xs.length ≤ LIM → lcLoop f xs acc ρ = .ok (acc ++ xs.filterMap g, ρ)
  | [], acc, _, _ => by simp [lcLoop]
  | x :: xs, acc, h, hl => by
    rw [List.length_cons] at hl
    have hx := h x List.mem_cons_self
    have hr := fun y hy => h y (List.mem_cons_of_mem _ hy)
    cases q : g x with
    | none =>
      rw [q] at hx
      simp only [lcLoop, hx]
      rw [lc_pure g hr (by omega), List.filterMap_cons_none q]
    | some y =>
      rw [q] at hx
      simp only [lcLoop, hx]
      rw [if_pos (by omega), lc_pure g hr (by rw [List.length_append, List.length_singleton]; omega), List.filterMap_cons_some q, List.append_assoc]
      rfl
theorem lc_map {f : D → Env → Res (Option D × Env)} {ρ : Env} (g : D → D) {xs : List D} (h : ∀ x, x ∈ xs → f x ρ = .ok (some (g x), ρ)) (hl : xs.length ≤ LIM) : lcLoop f xs [] ρ = .ok (xs.map g, ρ) := by
  rw [lc_pure (fun x => some (g x)) h (by simpa using hl)]
  simp
theorem lc_filter {f : D → Env → Res (Option D × Env)} {ρ : Env} (p : D → Bool) {xs : List D} (h : ∀ x, x ∈ xs → f x ρ = .ok (if p x then some x else none, ρ)) (hl : xs.length ≤ LIM) : lcLoop f xs [] ρ = .ok (xs.filter p, ρ) := by
  rw [lc_pure (fun x => if p x then some x else none) h (by simpa using hl), List.nil_append]
  congr 2
  induction xs with
  | nil => rfl
  | cons x xs ih =>
    have := ih (fun y hy => h y (List.mem_cons_of_mem _ hy)) (by rw [List.length_cons] at hl; omega)
    cases q : p x <;> simp [List.filterMap_cons, List.filter_cons, q, this]
end Mn
set_option Elab.async false
set_option linter.all false
set_option maxRecDepth 100000
set_option maxHeartbeats 4000000
namespace Mn
open PySem
def runB (Γ : Ctx) (np nN : Nat) (body : Ss) (ws : List W) : CRes := if ws.length = np then (match evSs Γ body (ws.map some ++ List.replicate (nN - ws.length) none) with
  | .nx ρ => endD ws ρ (.d .none)
  | .rt r ρ => endD ws ρ r
  | .ex c _ => .ex c
  | _ => .stuck) else .stuck
theorem runB_rt {Γ : Ctx} {np nN : Nat} {body : Ss} {ws : List W} {r : R} {ρ ρ0 : Env} {c : CRes} (hl : ws.length = np) (h0 : ws.map some ++ List.replicate (nN - ws.length) none = ρ0) (h : evSs Γ body ρ0 = .rt r ρ) (e : endD ws ρ r = c) : runB Γ np nN body ws = c := by
  subst h0
  rw [runB, if_pos hl, h]
  exact e
theorem runB_nx {Γ : Ctx} {np nN : Nat} {body : Ss} {ws : List W} {ρ ρ0 : Env} {c : CRes} (hl : ws.length = np) (h0 : ws.map some ++ List.replicate (nN - ws.length) none = ρ0) (h : evSs Γ body ρ0 = .nx ρ) (e : endD ws ρ (.d .none) = c) : runB Γ np nN body ws = c := by
  subst h0
  rw [runB, if_pos hl, h]
  exact e
theorem runB_ex {Γ : Ctx} {np nN : Nat} {body : Ss} {ws : List W} {ρ ρ0 : Env} {c : Str} (hl : ws.length = np) (h0 : ws.map some ++ List.replicate (nN - ws.length) none = ρ0) (h : evSs Γ body ρ0 = .ex c ρ) : runB Γ np nN body ws = .ex c := by
  subst h0
  rw [runB, if_pos hl, h]
/-! ### statements, one by one -/
theorem ss_nx {Γ : Ctx} {s : S} {ss : Ss} {ρ ρ1 : Env} {f : Fl} (h : evS Γ s ρ = .nx ρ1) (h2 : evSs Γ ss ρ1 = f) : evSs Γ (.cons s ss) ρ = f := by rw [evSs_cons, h]; exact h2
theorem ss_rt {Γ : Ctx} {s : S} {ss : Ss} {ρ ρ1 : Env} {r : R} (h : evS Γ s ρ = .rt r ρ1) : evSs Γ (.cons s ss) ρ = .rt r ρ1 := by rw [evSs_cons, h]; rfl
theorem ss_ex {Γ : Ctx} {s : S} {ss : Ss} {ρ ρ1 : Env} {c : Str} (h : evS Γ s ρ = .ex c ρ1) : evSs Γ (.cons s ss) ρ = .ex c ρ1 := by rw [evSs_cons, h]; rfl
theorem s_set {Γ : Ctx} {i : Nat} {e : E} {ρ ρ1 ρ2 : Env} {r : R} (h : evE Γ e ρ = .ok (r, ρ1)) (h2 : r.into i ρ1 = some ρ2) : evS Γ (.set i e) ρ = .nx ρ2 := by
  rw [evS, h]
  show (match r.into i ρ1 with | some ρ1 => Fl.nx ρ1 | none => .stuck) = _
  rw [h2]
theorem s_expr {Γ : Ctx} {e : E} {ρ ρ1 : Env} {r : R} (h : evE Γ e ρ = .ok (r, ρ1)) : evS Γ (.expr e) ρ = .nx ρ1 := by rw [evS, h]; rfl
theorem s_exprx {Γ : Ctx} {e : E} {ρ ρ1 : Env} {c : Str} (h : evE Γ e ρ = .ex c ρ1) : evS Γ (.expr e) ρ = .ex c ρ1 := by rw [evS, h]; rfl
theorem s_ret {Γ : Ctx} {e : E} {ρ ρ1 : Env} {r : R} (h : evE Γ e ρ = .ok (r, ρ1)) : evS Γ (.ret e) ρ = .rt r ρ1 := by rw [evS, h]; rfl
theorem s_retx {Γ : Ctx} {e : E} {ρ ρ1 : Env} {c : Str} (h : evE Γ e ρ = .ex c ρ1) : evS Γ (.ret e) ρ = .ex c ρ1 := by rw [evS, h]; rfl
theorem s_if {Γ : Ctx} {c : C} {a b : Ss} {ρ ρ1 : Env} {t : Bool} {f : Fl} (h : evC Γ c ρ = .ok (t, ρ1)) (h2 : (if t then evSs Γ a ρ1 else evSs Γ b ρ1) = f) : evS Γ (.iff c a b) ρ = f := by rw [evS, h]; exact h2
theorem s_ifx {Γ : Ctx} {c : C} {a b : Ss} {ρ ρ1 : Env} {x : Str} (h : evC Γ c ρ = .ex x ρ1) : evS Γ (.iff c a b) ρ = .ex x ρ1 := by rw [evS, h]; rfl
theorem s_for {Γ : Ctx} {tg : Tg} {it : I} {b : Ss} {ρ ρ1 : Env} {xs : List D} {f : Fl} (h : evI Γ it ρ = .ok (xs, ρ1)) (h2 : forLoop (fun x ρ => match tg.set ρ x with
    | some ρ => evSs Γ b ρ
    | none => .stuck) xs ρ1 = f) : evS Γ (.for_ tg it b) ρ = f := by rw [evS, h]; exact h2
/-! ### expressions -/
theorem e_call {Γ : Ctx} {f : Str} {es : Es} {ρ ρ1 ρ2 : Env} {rs : List R} {ds : List D} {r : R} {o : Option (List D)} (h : evEs Γ es ρ = .ok (rs, ρ1)) (hl : Γ.lend f = false) (hk : keepAll rs ρ1 = some (ds, ρ2)) (hc : Γ.call Γ.g f (ds.map .d) = .ret r o) (hr : ∀ i, r ≠ .slot i) : evE Γ (.call f es) ρ = .ok (r, ρ2) := by
  rw [evE, h]
  show callF Γ f rs ρ1 = _
  unfold callF
  simp only [hl, Bool.false_eq_true, if_false, pass_of_keep hk, hc]
theorem e_callx {Γ : Ctx} {f : Str} {es : Es} {ρ ρ1 ρ2 : Env} {rs : List R} {ds : List D} {c : Str} (h : evEs Γ es ρ = .ok (rs, ρ1)) (hl : Γ.lend f = false) (hk : keepAll rs ρ1 = some (ds, ρ2)) (hc : Γ.call Γ.g f (ds.map .d) = .ex c) : evE Γ (.call f es) ρ = .ex c ρ2 := by
  rw [evE, h]
  show callF Γ f rs ρ1 = _
  unfold callF
  simp only [hl, Bool.false_eq_true, if_false, pass_of_keep hk, hc]
theorem e_lend {Γ : Ctx} {f : Str} {es : Es} {ρ ρ1 ρ2 : Env} {i : Nat} {l l2 : Bool} {xs xs2 ys : List D} {rest : List R} {ds : List D} {r : R} (h : evEs Γ es ρ = .ok (.slot i :: rest, ρ1)) (hl : Γ.lend f = true) (ho : ρ1[i]? = some (some (W.own l xs))) (hk : keepAll rest ρ1 = some (ds, ρ2)) (ho2 : ρ2[i]? = some (some (W.own l2 xs2)))
    (hc : Γ.call Γ.g f (.own true xs :: ds.map .d) = .ret r (some ys)) (hr : ∀ i, r ≠ .slot i) : evE Γ (.call f es) ρ = .ok (r, ρ2.set i (some (.own l ys))) := by
  rw [evE, h]
  show callF Γ f (.slot i :: rest) ρ1 = _
  unfold callF
  simp only [hl, if_true, ho, hk, ho2, hc]
theorem es_nil {Γ : Ctx} {ρ : Env} : evEs Γ .nil ρ = .ok ([], ρ) := by rw [evEs]
theorem es_cons {Γ : Ctx} {e : E} {es : Es} {ρ ρ1 ρ2 : Env} {r : R} {rs : List R} (h : evE Γ e ρ = .ok (r, ρ1)) (h2 : evEs Γ es ρ1 = .ok (rs, ρ2)) : evEs Γ (.cons e es) ρ = .ok (r :: rs, ρ2) := by
  rw [evEs, h]
  show (evEs Γ es ρ1 >>= fun z => (.ok (r :: z.1, z.2) : Res (List R × Env))) = _
  rw [h2]
  rfl
theorem e_blt {Γ : Ctx} {b : Blt} {es : Es} {ρ ρ1 : Env} {rs : List R} {xs : List D} {r : R} (h : evEs Γ es ρ = .ok (rs, ρ1)) (hp : peekAll ρ1 rs = some xs) (hb : bltD Γ.g b xs = some r) : evE Γ (.blt b es) ρ = .ok (r, ρ1) := by
  rw [evE, h]
  show (Res.of (peekAll ρ1 rs) >>= fun xs => Res.of (bltD Γ.g b xs) >>= fun r => (.ok (r, ρ1) : Res (R × Env))) = _
  rw [hp]
  show (Res.of (bltD Γ.g b xs) >>= fun r => (.ok (r, ρ1) : Res (R × Env))) = _
  rw [hb]
  rfl
theorem e_lc {Γ : Ctx} {elt : E} {tg : Tg} {it : I} {c : Oc} {own : List Nat} {ρ ρ1 ρn : Env} {xs ys : List D} (h : evI Γ it ρ = .ok (xs, ρ1)) (hl : lcLoop (lcTurn tg (evOc Γ c) (evE Γ elt) own) xs [] (wipeE ρ1 own) = .ok (ys, ρn)) {ρ5 : Env} (hb : backE own 0 ρ1 ρn = ρ5 := by rfl) : evE Γ (.lc elt tg it c own) ρ = .ok (.fresh ys, ρ5) := by
  subst hb
  rw [evE, h]
  show (lcLoop (lcTurn tg (evOc Γ c) (evE Γ elt) own) xs [] (wipeE ρ1 own) >>= fun z => (.ok (.fresh z.1, backE own 0 ρ1 z.2) : Res (R × Env))) = _
  rw [hl]
  rfl
/-- a turn that keeps -/
theorem turn_yes {Γ : Ctx} {tg : Tg} {c : Oc} {elt : E} {own : List Nat} {ρ ρ1 ρ2 ρ3 ρ4 : Env} {x y : D} {r : R} (h1 : tg.set ρ x = some ρ1) (h2 : evOc Γ c ρ1 = .ok (true, ρ2)) (h3 : evE Γ elt ρ2 = .ok (r, ρ3)) (h4 : r.keep ρ3 = some (y, ρ4)) {ρ5 : Env} (hw : wipeE ρ4 own = ρ5 := by rfl) : lcTurn tg (evOc Γ c) (evE Γ elt) own x ρ = .ok (some y, ρ5) := by
  subst hw
  show (Res.of (tg.set ρ x) >>= fun ρ => evOc Γ c ρ >>= fun z => _) = _
  rw [h1]
  show (evOc Γ c ρ1 >>= fun z => _) = _
  rw [h2]
  show (evE Γ elt ρ2 >>= fun p => keepR p >>= fun z => (.ok (some z.1, wipeE z.2 own) : Res (Option D × Env))) = _
  rw [h3]
  show (Res.of (r.keep ρ3) >>= fun z => (.ok (some z.1, wipeE z.2 own) : Res (Option D × Env))) = _
  rw [h4]
  rfl
theorem turn_no {Γ : Ctx} {tg : Tg} {c : Oc} {elt : E} {own : List Nat} {ρ ρ1 ρ2 : Env} {x : D} (h1 : tg.set ρ x = some ρ1) (h2 : evOc Γ c ρ1 = .ok (false, ρ2)) {ρ5 : Env} (hw : wipeE ρ2 own = ρ5 := by rfl) : lcTurn tg (evOc Γ c) (evE Γ elt) own x ρ = .ok (none, ρ5) := by
  subst hw
  show (Res.of (tg.set ρ x) >>= fun ρ => evOc Γ c ρ >>= fun z => _) = _
  rw [h1]
  show (evOc Γ c ρ1 >>= fun z => _) = _
  rw [h2]
  rfl
theorem oc_yes {Γ : Ctx} {ρ : Env} : evOc Γ .yes ρ = .ok (true, ρ) := by rw [evOc]
theorem oc_some {Γ : Ctx} {c : C} {ρ ρ1 : Env} {t : Bool} (h : evC Γ c ρ = .ok (t, ρ1)) : evOc Γ (.some c) ρ = .ok (t, ρ1) := by rw [evOc]; exact h
theorem c_tru {Γ : Ctx} {e : E} {ρ ρ1 : Env} {r : R} {u : D} {t : Bool} (h : evE Γ e ρ = .ok (r, ρ1)) (h2 : r.peek ρ1 = some u) (h3 : truD u = some t) : evC Γ (.tru e) ρ = .ok (t, ρ1) := by
  rw [evC, h]
  show (Res.of (r.peek ρ1) >>= fun u => Res.of (truD u) >>= fun t => (.ok (t, ρ1) : Res (Bool × Env))) = _
  rw [h2]
  show (Res.of (truD u) >>= fun t => (.ok (t, ρ1) : Res (Bool × Env))) = _
  rw [h3]
  rfl
theorem c_cmp {Γ : Ctx} {o : Cp} {a b : E} {ρ ρ1 ρ2 : Env} {x y : R} {u v : D} {t : Bool} (ha : evE Γ a ρ = .ok (x, ρ1)) (hb : evE Γ b ρ1 = .ok (y, ρ2)) (hu : x.peek ρ2 = some u) (hv : y.peek ρ2 = some v) (ht : cmpD o u v = some t) : evC Γ (.cmp o a b) ρ = .ok (t, ρ2) := by
  rw [evC, ha]
  show (evE Γ b ρ1 >>= fun z => _) = _
  rw [hb]
  show (Res.of (x.peek ρ2) >>= fun u => Res.of (y.peek ρ2) >>= fun v => Res.of (cmpD o u v) >>= fun t => (.ok (t, ρ2) : Res (Bool × Env))) = _
  rw [hu]
  show (Res.of (y.peek ρ2) >>= fun v => Res.of (cmpD o u v) >>= fun t => (.ok (t, ρ2) : Res (Bool × Env))) = _
  rw [hv]
  show (Res.of (cmpD o u v) >>= fun t => (.ok (t, ρ2) : Res (Bool × Env))) = _
  rw [ht]
  rfl
theorem c_not {Γ : Ctx} {a : C} {ρ ρ1 : Env} {t : Bool} (h : evC Γ a ρ = .ok (t, ρ1)) : evC Γ (.not a) ρ = .ok (!t, ρ1) := by rw [evC, h]; rfl
theorem c_or {Γ : Ctx} {a b : C} {ρ ρ1 : Env} {t : Bool} {z : Res (Bool × Env)} (h : evC Γ a ρ = .ok (t, ρ1)) (h2 : (if t then .ok (true, ρ1) else evC Γ b ρ1) = z) : evC Γ (.or a b) ρ = z := by rw [evC, h]; exact h2
theorem c_and {Γ : Ctx} {a b : C} {ρ ρ1 : Env} {t : Bool} {z : Res (Bool × Env)} (h : evC Γ a ρ = .ok (t, ρ1)) (h2 : (if t then evC Γ b ρ1 else .ok (false, ρ1)) = z) : evC Γ (.and a b) ρ = z := by rw [evC, h]; exact h2
theorem e_ofC {Γ : Ctx} {c : C} {ρ ρ1 : Env} {t : Bool} (h : evC Γ c ρ = .ok (t, ρ1)) : evE Γ (.ofC c) ρ = .ok (.d (.bool t), ρ1) := by rw [evE, h]; rfl
theorem e_ofCx {Γ : Ctx} {c : C} {ρ ρ1 : Env} {x : Str} (h : evC Γ c ρ = .ex x ρ1) : evE Γ (.ofC c) ρ = .ex x ρ1 := by rw [evE, h]; rfl
theorem i_seq {Γ : Ctx} {e : E} {ρ ρ1 ρ2 : Env} {r : R} {y : D} {xs : List D} (h : evE Γ e ρ = .ok (r, ρ1)) (hk : r.keep ρ1 = some (y, ρ2)) (hi : itemsD y = some xs) : evI Γ (.seq e) ρ = .ok (xs, ρ2) := by
  rw [evI, h]
  show (Res.of (r.keep ρ1) >>= fun z => Res.of (itemsD z.1) >>= fun xs => (.ok (xs, z.2) : Res (List D × Env))) = _
  rw [hk]
  show (Res.of (itemsD y) >>= fun xs => (.ok (xs, ρ2) : Res (List D × Env))) = _
  rw [hi]
  rfl
theorem e_vd {Γ : Ctx} {i : Nat} {ρ : Env} {x : D} (h : ρ[i]? = some (some (W.d x))) : evE Γ (.var i) ρ = .ok (.d x, ρ) := by rw [evE, h]
theorem e_vo {Γ : Ctx} {i : Nat} {ρ : Env} {l : Bool} {xs : List D} (h : ρ[i]? = some (some (W.own l xs))) : evE Γ (.var i) ρ = .ok (.slot i, ρ) := by rw [evE, h]
theorem e_tup {Γ : Ctx} {es : Es} {ρ ρ1 ρ2 : Env} {rs : List R} {xs : List D} (h : evEs Γ es ρ = .ok (rs, ρ1)) (hk : keepAll rs ρ1 = some (xs, ρ2)) (hl : xs.length ≤ LIM) : evE Γ (.tup es) ρ = .ok (.d (.tuple xs), ρ2) := by
  rw [evE, h]
  show (Res.of (keepAll rs ρ1) >>= fun z => if z.1.length ≤ LIM then (.ok (.d (.tuple z.1), z.2) : Res (R × Env)) else .stuck) = _
  rw [hk]
  exact if_pos hl
theorem e_lst {Γ : Ctx} {es : Es} {ρ ρ1 ρ2 : Env} {rs : List R} {xs : List D} (h : evEs Γ es ρ = .ok (rs, ρ1)) (hk : keepAll rs ρ1 = some (xs, ρ2)) (hl : xs.length ≤ LIM) : evE Γ (.lst es) ρ = .ok (.fresh xs, ρ2) := by
  rw [evE, h]
  show (Res.of (keepAll rs ρ1) >>= fun z => if z.1.length ≤ LIM then (.ok (.fresh z.1, z.2) : Res (R × Env)) else .stuck) = _
  rw [hk]
  exact if_pos hl
theorem e_op {Γ : Ctx} {o : Op2} {a b : E} {ρ ρ1 ρ2 : Env} {x y r : R} {u v : D} (ha : evE Γ a ρ = .ok (x, ρ1)) (hb : evE Γ b ρ1 = .ok (y, ρ2)) (hu : x.peek ρ2 = some u) (hv : y.peek ρ2 = some v) (ho : opD o u v = some r) : evE Γ (.op o a b) ρ = .ok (r, ρ2) := by
  rw [evE, ha]
  show (evE Γ b ρ1 >>= fun z => _) = _
  rw [hb]
  show (Res.of (x.peek ρ2) >>= fun u => Res.of (y.peek ρ2) >>= fun v => Res.of (opD o u v) >>= fun r => (.ok (r, ρ2) : Res (R × Env))) = _
  rw [hu]
  show (Res.of (y.peek ρ2) >>= fun v => Res.of (opD o u v) >>= fun r => (.ok (r, ρ2) : Res (R × Env))) = _
  rw [hv]
  show (Res.of (opD o u v) >>= fun r => (.ok (r, ρ2) : Res (R × Env))) = _
  rw [ho]
  rfl
theorem e_idx {Γ : Ctx} {a i : E} {ρ ρ1 ρ2 : Env} {x y : R} {u v d : D} (ha : evE Γ a ρ = .ok (x, ρ1)) (hb : evE Γ i ρ1 = .ok (y, ρ2)) (hu : x.peek ρ2 = some u) (hv : y.peek ρ2 = some v) (ho : idxD u v = some d) : evE Γ (.idx a i) ρ = .ok (.d d, ρ2) := by
  rw [evE, ha]
  show (evE Γ i ρ1 >>= fun z => _) = _
  rw [hb]
  show (Res.of (x.peek ρ2) >>= fun u => Res.of (y.peek ρ2) >>= fun v => Res.of (idxD u v) >>= fun r => (.ok (.d r, ρ2) : Res (R × Env))) = _
  rw [hu]
  show (Res.of (y.peek ρ2) >>= fun v => Res.of (idxD u v) >>= fun r => (.ok (.d r, ρ2) : Res (R × Env))) = _
  rw [hv]
  show (Res.of (idxD u v) >>= fun r => (.ok (.d r, ρ2) : Res (R × Env))) = _
  rw [ho]
  rfl
theorem e_slc {Γ : Ctx} {a : E} {lo hi : Oe} {ρ ρ1 ρ2 ρ3 : Env} {x r : R} {l h : Option Int} {u : D} (ha : evE Γ a ρ = .ok (x, ρ1)) (hl : evO Γ lo ρ1 = .ok (l, ρ2)) (hh : evO Γ hi ρ2 = .ok (h, ρ3)) (hu : x.peek ρ3 = some u) (ho : slcD u l h = some r) : evE Γ (.slc a lo hi) ρ = .ok (r, ρ3) := by
  rw [evE, ha]
  show (evO Γ lo ρ1 >>= fun z => _) = _
  rw [hl]
  show (evO Γ hi ρ2 >>= fun z => _) = _
  rw [hh]
  show (Res.of (x.peek ρ3) >>= fun u => Res.of (slcD u l h) >>= fun r => (.ok (r, ρ3) : Res (R × Env))) = _
  rw [hu]
  show (Res.of (slcD u l h) >>= fun r => (.ok (r, ρ3) : Res (R × Env))) = _
  rw [ho]
  rfl
theorem o_none {Γ : Ctx} {ρ : Env} : evO Γ .none ρ = .ok (none, ρ) := by rw [evO]
theorem o_some {Γ : Ctx} {e : E} {ρ ρ1 : Env} {i : Int} (h : evE Γ e ρ = .ok (.d (.int i), ρ1)) : evO Γ (.some e) ρ = .ok (some i, ρ1) := by rw [evO, h]; rfl
end Mn
set_option Elab.async false
set_option linter.all false
set_option maxRecDepth 100000
set_option maxHeartbeats 1000000
namespace Mn
open PySem
/-! ## partitions of a lot, and what edges put together -/
/-- texts in order -/
def sortS (l : List Str) : List Str := l.mergeSort (PySem.W.dataLe false PyData.str)
theorem str_anti {a b : Str} (h1 : PySem.W.dataLe false PyData.str a b = true) (h2 : PySem.W.dataLe false PyData.str b a = true) : a = b := by
  have := leD_anti (x := .str a) (y := .str b) (by simp [PySem.W.alike]) h1 h2
  simpa [PyData.eqv] using this
theorem sortS_pw (l : List Str) : (sortS l).Pairwise fun a b => PySem.W.dataLe false PyData.str a b = true := List.pairwise_mergeSort (leD_total PyData.str).trans (fun a b => by simpa using (leD_total PyData.str).total a b) l
theorem sortS_eq {l m : List Str} (h : l.Perm m) : sortS l = sortS m :=
  List.Perm.eq_of_pairwise (le := fun a b => PySem.W.dataLe false PyData.str a b = true) (fun a b _ _ h1 h2 => str_anti h1 h2) (sortS_pw l) (sortS_pw m) ((List.mergeSort_perm l _).trans (h.trans (List.mergeSort_perm m _).symm))
theorem sortS_perm (l : List Str) : (sortS l).Perm l := List.mergeSort_perm l _
theorem sortS_idem (l : List Str) : sortS (sortS l) = sortS l := sortS_eq (sortS_perm l)
theorem sortS_mem {l : List Str} {x : Str} : x ∈ sortS l ↔ x ∈ l := (sortS_perm l).mem_iff
structure Part (lot : List Str) (G : List (List Str)) : Prop where
  perm : G.flatten.Perm lot
  nod : lot.Nodup
  ne : ∀ g, g ∈ G → g ≠ []
def same (G : List (List Str)) (x y : Str) : Prop := ∃ g, g ∈ G ∧ x ∈ g ∧ y ∈ g
section
variable {lot : List Str} {G : List (List Str)}
theorem Part.fnod (p : Part lot G) : G.flatten.Nodup := p.perm.nodup_iff.mpr p.nod
/-- two groups that share one are one -/
theorem flat_uniq : ∀ {G : List (List Str)}, G.flatten.Nodup → ∀ {g g' : List Str} {x : Str}, g ∈ G → g' ∈ G → x ∈ g → x ∈ g' → g = g'
  | [], _, _, _, _, h, _, _, _ => by cases h
  | k :: G, nd, g, g', x, h, h', hx, hx' => by
    rw [List.flatten_cons, List.nodup_append] at nd
    obtain ⟨n1, n2, n3⟩ := nd
    rcases List.mem_cons.mp h with e | m <;> rcases List.mem_cons.mp h' with e' | m'
    · rw [e, e']
    · subst e
      exact absurd rfl (n3 x hx x (List.mem_flatten.mpr ⟨g', m', hx'⟩))
    · subst e'
      exact absurd rfl (n3 x hx' x (List.mem_flatten.mpr ⟨g, m, hx⟩))
    · exact flat_uniq n2 m m' hx hx'
theorem Part.uniq (p : Part lot G) {g g' : List Str} {x : Str} (h : g ∈ G) (h' : g' ∈ G) (hx : x ∈ g) (hx' : x ∈ g') : g = g' := flat_uniq p.fnod h h' hx hx'
theorem Part.mem (p : Part lot G) {x : Str} : x ∈ lot ↔ ∃ g, g ∈ G ∧ x ∈ g := by
  rw [← p.perm.mem_iff, List.mem_flatten]
theorem Part.same_lot (p : Part lot G) {x y : Str} (h : same G x y) : x ∈ lot ∧ y ∈ lot := by
  obtain ⟨g, hg, hx, hy⟩ := h
  exact ⟨p.mem.mpr ⟨g, hg, hx⟩, p.mem.mpr ⟨g, hg, hy⟩⟩
theorem same_symm {x y : Str} (h : same G x y) : same G y x := let ⟨g, a, b, c⟩ := h; ⟨g, a, c, b⟩
theorem Part.trans (p : Part lot G) {x y z : Str} (h : same G x y) (h' : same G y z) : same G x z := by
  obtain ⟨g, hg, hx, hy⟩ := h
  obtain ⟨g', hg', hy', hz⟩ := h'
  have := p.uniq hg hg' hy hy'
  subst this
  exact ⟨g, hg, hx, hz⟩
theorem Part.refl (p : Part lot G) {x : Str} (h : x ∈ lot) : same G x x := by
  obtain ⟨g, hg, hx⟩ := p.mem.mp h
  exact ⟨g, hg, hx, hx⟩
theorem Part.gnod (p : Part lot G) {g : List Str} (h : g ∈ G) : g.Nodup := by
  have : ∀ {G : List (List Str)}, G.flatten.Nodup → g ∈ G → g.Nodup := by
    intro G
    induction G with
    | nil => intro _ h; cases h
    | cons k G ih =>
      intro nd h
      rw [List.flatten_cons, List.nodup_append] at nd
      rcases List.mem_cons.mp h with rfl | h
      · exact nd.1
      · exact ih nd.2.1 h
  exact this p.fnod h
/-- a group is all that stand with one of it -/
theorem Part.group (p : Part lot G) {g : List Str} {x : Str} (h : g ∈ G) (hx : x ∈ g) [DecidablePred (same G x)] : g.Perm (lot.filter fun y => decide (same G x y)) := by
  refine (List.perm_ext_iff_of_nodup (p.gnod h) (p.nod.filter _)).mpr fun y => ?_
  rw [List.mem_filter, decide_eq_true_eq]
  constructor
  · exact fun hy => ⟨p.mem.mpr ⟨g, h, hy⟩, g, h, hx, hy⟩
  · rintro ⟨_, g', hg', hx', hy'⟩
    have := p.uniq h hg' hx hx'
    subst this
    exact hy'
open Classical in
theorem Part.sorted_mem (p : Part lot G) {t : List Str} : t ∈ G.map sortS ↔ ∃ x, x ∈ lot ∧ t = sortS (lot.filter fun y => decide (same G x y)) := by
  rw [List.mem_map]
  constructor
  · rintro ⟨g, hg, rfl⟩
    obtain ⟨x, hx⟩ := List.exists_mem_of_ne_nil g (p.ne g hg)
    exact ⟨x, p.mem.mpr ⟨g, hg, hx⟩, sortS_eq (p.group hg hx)⟩
  · rintro ⟨x, hx, rfl⟩
    obtain ⟨g, hg, hx⟩ := p.mem.mp hx
    exact ⟨g, hg, sortS_eq (p.group hg hx)⟩
theorem Part.sorted_nod (p : Part lot G) : (G.map sortS).Nodup := by
  have go : ∀ {G : List (List Str)}, G.flatten.Nodup → (∀ g, g ∈ G → g ≠ []) → (G.map sortS).Nodup := by
    intro G
    induction G with
    | nil => exact fun _ _ => List.nodup_nil
    | cons g G ih =>
      intro nd ne
      have nd0 := nd
      rw [List.flatten_cons, List.nodup_append] at nd
      rw [List.map_cons, List.nodup_cons]
      refine ⟨fun h => ?_, ih nd.2.1 fun k hk => ne k (List.mem_cons_of_mem _ hk)⟩
      obtain ⟨k, hk, e⟩ := List.mem_map.mp h
      obtain ⟨x, hx⟩ := List.exists_mem_of_ne_nil g (ne g List.mem_cons_self)
      have hxk : x ∈ k := by rw [← sortS_mem, e, sortS_mem]; exact hx
      exact nd.2.2 x hx x (List.mem_flatten.mpr ⟨k, hk, hxk⟩) rfl
  exact go p.fnod p.ne
/-- one relation, one sorted partition -/
theorem Part.sorted_eq {G' : List (List Str)} (p : Part lot G) (p' : Part lot G') (h : ∀ x y, same G x y ↔ same G' x y) : (G.map sortS).Perm (G'.map sortS) := by
  classical
  refine (List.perm_ext_iff_of_nodup p.sorted_nod p'.sorted_nod).mpr fun t => ?_
  rw [p.sorted_mem, p'.sorted_mem]
  have e : ∀ x, (lot.filter fun y => decide (same G x y)) = lot.filter fun y => decide (same G' x y) := fun x => by
    congr 1
    funext y
    exact decide_eq_decide.mpr (h x y)
  simp only [e]
end
/-! ### edges -/
inductive Conn (E : List (Str × Str)) : Str → Str → Prop where
  | refl (x : Str) : Conn E x x
  | edge {a b : Str} : (a, b) ∈ E → Conn E a b
  | symm {x y : Str} : Conn E x y → Conn E y x
  | trans {x y z : Str} : Conn E x y → Conn E y z → Conn E x z
theorem Conn.mono {E E' : List (Str × Str)} (h : ∀ e, e ∈ E → e ∈ E') {x y : Str} (c : Conn E x y) : Conn E' x y := by
  induction c with
  | refl x => exact .refl x
  | edge m => exact .edge (h _ m)
  | symm _ ih => exact ih.symm
  | trans _ _ i1 i2 => exact i1.trans i2
theorem conn_cons {E : List (Str × Str)} {a b x y : Str} : Conn ((a, b) :: E) x y ↔ Conn E x y ∨ ((Conn E x a ∨ Conn E x b) ∧ (Conn E y a ∨ Conn E y b)) := by
  have up : ∀ {x y}, Conn E x y → Conn ((a, b) :: E) x y := fun c => c.mono fun e h => List.mem_cons_of_mem _ h
  have ab : Conn ((a, b) :: E) a b := .edge List.mem_cons_self
  constructor
  · intro c
    induction c with
    | refl x => exact .inl (.refl x)
    | edge m =>
      rcases List.mem_cons.mp m with e | m
      · cases e
        exact .inr ⟨.inl (.refl _), .inr (.refl _)⟩
      · exact .inl (.edge m)
    | symm _ ih => exact ih.imp Conn.symm And.symm
    | @trans x y z _ _ i1 i2 =>
      rcases i1 with i1 | ⟨i1, i1'⟩ <;> rcases i2 with i2 | ⟨i2, i2'⟩
      · exact .inl (i1.trans i2)
      · exact .inr ⟨i2.imp i1.trans i1.trans, i2'⟩
      · exact .inr ⟨i1, i1'.imp i2.symm.trans i2.symm.trans⟩
      · exact .inr ⟨i1, i2'⟩
  · rintro (c | ⟨h1, h2⟩)
    · exact up c
    · have xa : Conn ((a, b) :: E) x a := h1.elim up fun c => (up c).trans ab.symm
      have ya : Conn ((a, b) :: E) y a := h2.elim up fun c => (up c).trans ab.symm
      exact xa.trans ya.symm
/-- the partition by some edges -/
structure By (lot : List Str) (E : List (Str × Str)) (G : List (List Str)) : Prop where
  part : Part lot G
  rel : ∀ x y, x ∈ lot → y ∈ lot → (same G x y ↔ Conn E x y)
theorem By.same_eq {lot : List Str} {E E' : List (Str × Str)} {G G' : List (List Str)} (h : By lot E G) (h' : By lot E' G') (e : ∀ p, p ∈ E ↔ p ∈ E') (x y : Str) : same G x y ↔ same G' x y := by
  constructor
  · intro s
    obtain ⟨a, b⟩ := h.part.same_lot s
    exact (h'.rel x y a b).mpr (((h.rel x y a b).mp s).mono fun p => (e p).mp)
  · intro s
    obtain ⟨a, b⟩ := h'.part.same_lot s
    exact (h.rel x y a b).mpr (((h'.rel x y a b).mp s).mono fun p => (e p).mpr)
theorem by_singles {lot : List Str} (nd : lot.Nodup) : By lot [] (lot.map fun x => [x]) := by
  have fl : (lot.map fun x => [x]).flatten = lot := by
    induction lot with
    | nil => rfl
    | cons a l ih => rw [List.map_cons, List.flatten_cons, ih (List.nodup_cons.mp nd).2]; rfl
  refine ⟨⟨by rw [fl], nd, fun g h => ?_⟩, fun x y hx hy => ?_⟩
  · obtain ⟨a, _, rfl⟩ := List.mem_map.mp h
    exact List.cons_ne_nil _ _
  · constructor
    · rintro ⟨g, hg, h1, h2⟩
      obtain ⟨a, _, rfl⟩ := List.mem_map.mp hg
      rw [List.mem_singleton] at h1 h2
      rw [h1, h2]
      exact .refl a
    · intro c
      have : ∀ {x y}, Conn [] x y → x = y := by
        intro x y c
        induction c with
        | refl _ => rfl
        | edge m => cases m
        | symm _ ih => exact ih.symm
        | trans _ _ a b => exact a.trans b
      rw [← this c]
      exact ⟨[x], List.mem_map_of_mem hx, List.mem_singleton_self x, List.mem_singleton_self x⟩
/-- a step that joins just the groups of a and of b -/
theorem By.step {lot : List Str} {E : List (Str × Str)} {G G' : List (List Str)} {a b : Str} (h : By lot E G) (ha : a ∈ lot) (hb : b ∈ lot) (p' : Part lot G') (hs : ∀ x y, same G' x y ↔ same G x y ∨ ((same G x a ∨ same G x b) ∧ (same G y a ∨ same G y b))) : By lot ((a, b) :: E) G' := by
  refine ⟨p', fun x y hx hy => ?_⟩
  rw [hs, conn_cons, h.rel x y hx hy, h.rel x a hx ha, h.rel x b hx hb, h.rel y a hy ha, h.rel y b hy hb]
/-! ### the two ways to put together -/
def putG (G : List (List Str)) (a b : Str) : List (List Str) := G.filter (fun g => !g.contains a && !g.contains b) ++ [sortS ((G.filter fun g => g.contains a || g.contains b).flatten)]
theorem same_app {G : List (List Str)} {m : List Str} {x y : Str} : same (G ++ [m]) x y ↔ same G x y ∨ (x ∈ m ∧ y ∈ m) := by
  constructor
  · rintro ⟨g, hg, hx, hy⟩
    rcases List.mem_append.mp hg with h | h
    · exact .inl ⟨g, h, hx, hy⟩
    · rw [List.mem_singleton] at h
      subst h
      exact .inr ⟨hx, hy⟩
  · rintro (⟨g, hg, hx, hy⟩ | ⟨hx, hy⟩)
    · exact ⟨g, List.mem_append_left _ hg, hx, hy⟩
    · exact ⟨m, List.mem_append_right _ (List.mem_singleton_self m), hx, hy⟩
section
variable {lot : List Str} {E : List (Str × Str)} {G : List (List Str)} {a b : Str}
theorem By.put (h : By lot E G) (ha : a ∈ lot) (hb : b ∈ lot) : By lot ((a, b) :: E) (putG G a b) := by
  have mem : ∀ x, x ∈ sortS ((G.filter fun g => g.contains a || g.contains b).flatten) ↔ same G x a ∨ same G x b := fun x => by
    rw [sortS_mem, List.mem_flatten]
    constructor
    · rintro ⟨g, hg, hx⟩
      rw [List.mem_filter, Bool.or_eq_true, List.contains_iff_mem, List.contains_iff_mem] at hg
      rcases hg.2 with z | z
      · exact .inl ⟨g, hg.1, hx, z⟩
      · exact .inr ⟨g, hg.1, hx, z⟩
    · rintro (⟨g, hg, hx, hz⟩ | ⟨g, hg, hx, hz⟩)
      · exact ⟨g, List.mem_filter.mpr ⟨hg, by rw [Bool.or_eq_true, List.contains_iff_mem]; exact .inl hz⟩, hx⟩
      · exact ⟨g, List.mem_filter.mpr ⟨hg, by rw [Bool.or_eq_true, List.contains_iff_mem, List.contains_iff_mem]; exact .inr hz⟩, hx⟩
  have flip : (fun g : List Str => !g.contains a && !g.contains b) = fun g => !(g.contains a || g.contains b) := by
    funext g
    rw [Bool.not_or]
  refine h.step ha hb ⟨?_, h.part.nod, fun g hg => ?_⟩ fun x y => ?_
  · unfold putG
    rw [flip, List.flatten_append, List.flatten_singleton]
    refine ((sortS_perm _).append_left _).trans ?_
    rw [← List.flatten_append]
    exact ((List.perm_append_comm.trans (List.filter_append_perm _ G)).flatten).trans h.part.perm
  · unfold putG at hg
    rcases List.mem_append.mp hg with z | z
    · exact h.part.ne g (List.mem_filter.mp z).1
    · rw [List.mem_singleton] at z
      subst z
      exact List.ne_nil_of_mem ((mem a).mpr (.inl (h.part.refl ha)))
  · unfold putG
    rw [same_app, mem x, mem y]
    constructor
    · rintro (⟨g, hg, hx, hy⟩ | z)
      · exact .inl ⟨g, (List.mem_filter.mp hg).1, hx, hy⟩
      · exact .inr z
    · rintro (⟨g, hg, hx, hy⟩ | z)
      · by_cases q : (g.contains a || g.contains b) = true
        · rw [Bool.or_eq_true, List.contains_iff_mem, List.contains_iff_mem] at q
          rcases q with q | q
          · exact .inr ⟨.inl ⟨g, hg, hx, q⟩, .inl ⟨g, hg, hy, q⟩⟩
          · exact .inr ⟨.inr ⟨g, hg, hx, q⟩, .inr ⟨g, hg, hy, q⟩⟩
        · refine .inl ⟨g, List.mem_filter.mpr ⟨hg, ?_⟩, hx, hy⟩
          rw [← Bool.not_or]
          simpa using q
      · exact .inr z
/-- as the law does it -/
def joinG (G : List (List Str)) (one other : List Str) : List (List Str) := if one = other then G else G.filter (fun g => !decide (g = one) && !decide (g = other)) ++ [one ++ other]
theorem Part.gs_nodup (p : Part lot G) : G.Nodup := by
  have := p.sorted_nod
  exact List.Pairwise.of_map sortS (fun _ _ hne e => hne (congrArg sortS e)) this
theorem Part.mem_iff (p : Part lot G) {one : List Str} (h1 : one ∈ G) (ha : a ∈ one) (x : Str) : x ∈ one ↔ same G x a := by
  constructor
  · exact fun hx => ⟨one, h1, hx, ha⟩
  · rintro ⟨g, hg, hx, hz⟩
    have := p.uniq h1 hg ha hz
    subst this
    exact hx
theorem By.join (h : By lot E G) {one other : List Str} (h1 : one ∈ G) (h2 : other ∈ G) (ha : a ∈ one) (hb : b ∈ other) : By lot ((a, b) :: E) (joinG G one other) := by
  have la : a ∈ lot := h.part.mem.mpr ⟨one, h1, ha⟩
  have lb : b ∈ lot := h.part.mem.mpr ⟨other, h2, hb⟩
  have m1 := h.part.mem_iff h1 ha
  have m2 := h.part.mem_iff h2 hb
  unfold joinG
  by_cases e : one = other
  · rw [if_pos e]
    subst e
    refine h.step la lb h.part fun x y => ⟨.inl, ?_⟩
    rintro (z | ⟨z1, z2⟩)
    · exact z
    · have hx : x ∈ one := z1.elim (m1 x).mpr (m2 x).mpr
      have hy : y ∈ one := z2.elim (m1 y).mpr (m2 y).mpr
      exact ⟨one, h1, hx, hy⟩
  · rw [if_neg e]
    have flip : (fun g : List Str => !decide (g = one) && !decide (g = other)) = fun g => !(decide (g = one) || decide (g = other)) := by
      funext g
      rw [Bool.not_or]
    have two : (G.filter fun g => decide (g = one) || decide (g = other)).Perm [one, other] := by
      refine (List.perm_ext_iff_of_nodup (h.part.gs_nodup.filter _) (by simp [e])).mpr fun g => ?_
      rw [List.mem_filter, Bool.or_eq_true, decide_eq_true_eq, decide_eq_true_eq]
      simp only [List.mem_cons, List.not_mem_nil, or_false]
      exact ⟨And.right, fun z => ⟨z.elim (fun z => by rw [z]; exact h1) fun z => by rw [z]; exact h2, z⟩⟩
    refine h.step la lb ⟨?_, h.part.nod, fun g hg => ?_⟩ fun x y => ?_
    · rw [flip, List.flatten_append, List.flatten_singleton]
      have e2 : one ++ other = [one, other].flatten := by simp
      rw [e2]
      refine (two.symm.flatten.append_left _).trans ?_
      rw [← List.flatten_append]
      exact ((List.perm_append_comm.trans (List.filter_append_perm _ G)).flatten).trans h.part.perm
    · rcases List.mem_append.mp hg with z | z
      · exact h.part.ne g (List.mem_filter.mp z).1
      · rw [List.mem_singleton] at z
        subst z
        exact List.ne_nil_of_mem (List.mem_append_left _ ha)
    · rw [same_app, List.mem_append, List.mem_append, m1 x, m2 x, m1 y, m2 y]
      constructor
      · rintro (⟨g, hg, hx, hy⟩ | z)
        · exact .inl ⟨g, (List.mem_filter.mp hg).1, hx, hy⟩
        · exact .inr z
      · rintro (⟨g, hg, hx, hy⟩ | z)
        · by_cases q1 : g = one
          · subst q1
            exact .inr ⟨.inl ((m1 x).mp hx), .inl ((m1 y).mp hy)⟩
          · by_cases q2 : g = other
            · subst q2
              exact .inr ⟨.inr ((m2 x).mp hx), .inr ((m2 y).mp hy)⟩
            · exact .inl ⟨g, List.mem_filter.mpr ⟨hg, by simp [q1, q2]⟩, hx, hy⟩
        · exact .inr z
theorem join_len (h : By lot E G) {one other : List Str} (h1 : one ∈ G) (h2 : other ∈ G) (e : one ≠ other) : (joinG G one other).length + 1 = G.length := by
  unfold joinG
  rw [if_neg e]
  have two : (G.filter fun g => decide (g = one) || decide (g = other)).Perm [one, other] := by
    refine (List.perm_ext_iff_of_nodup (h.part.gs_nodup.filter _) (by simp [e])).mpr fun g => ?_
    rw [List.mem_filter, Bool.or_eq_true, decide_eq_true_eq, decide_eq_true_eq]
    simp only [List.mem_cons, List.not_mem_nil, or_false]
    exact ⟨And.right, fun z => ⟨z.elim (fun z => by rw [z]; exact h1) fun z => by rw [z]; exact h2, z⟩⟩
  have flip : (fun g : List Str => !decide (g = one) && !decide (g = other)) = fun g => !(decide (g = one) || decide (g = other)) := by
    funext g
    rw [Bool.not_or]
  have := (List.filter_append_perm (fun g => decide (g = one) || decide (g = other)) G).length_eq
  rw [List.length_append, two.length_eq] at this
  rw [List.length_append, flip]
  simp at this ⊢
  omega
end
end Mn
set_option Elab.async false
set_option linter.all false
set_option maxRecDepth 100000
set_option maxHeartbeats 4000000
namespace Mn
open PySem
theorem lc2_flat {f : D → List D → Env → Res (List D × Env)} {ρ : Env} (h : D → List D) : ∀ {xs acc : List D}, (∀ x, x ∈ xs → ∀ acc, acc.length + (h x).length ≤ LIM → f x acc ρ = .ok (acc ++ h x, ρ)) → acc.length + (xs.flatMap h).length ≤ LIM → lc2Loop f xs acc ρ = .ok (acc ++ xs.flatMap h, ρ)
  | [], acc, _, _ => by simp [lc2Loop]
  | x :: xs, acc, hf, hl => by
    rw [List.flatMap_cons, List.length_append] at hl
    simp only [lc2Loop, hf x List.mem_cons_self acc (by omega)]
    rw [lc2_flat h (fun y hy => hf y (List.mem_cons_of_mem _ hy)) (by rw [List.length_append]; omega), List.flatMap_cons, List.append_assoc]
theorem e_lc2 {Γ : Ctx} {elt : E} {t1 t2 : Tg} {i1 i2 : I} {c1 c2 : Oc} {own own2 : List Nat} {ρ ρ1 ρn : Env} {xs ys : List D} (h : evI Γ i1 ρ = .ok (xs, ρ1)) (hl : lc2Loop (lc2Turn t1 (evOc Γ c1) (evI Γ i2) t2 (evOc Γ c2) (evE Γ elt) own own2) xs [] (wipeE ρ1 own) = .ok (ys, ρn)) {ρ5 : Env} (hb : backE own 0 ρ1 ρn = ρ5 := by rfl) :
    evE Γ (.lc2 elt t1 i1 c1 t2 i2 c2 own own2) ρ = .ok (.fresh ys, ρ5) := by
  subst hb
  rw [evE, h]
  show (lc2Loop (lc2Turn t1 (evOc Γ c1) (evI Γ i2) t2 (evOc Γ c2) (evE Γ elt) own own2) xs [] (wipeE ρ1 own) >>= fun z => (.ok (.fresh z.1, backE own 0 ρ1 z.2) : Res (R × Env))) = _
  rw [hl]
  rfl
theorem turn2 {Γ : Ctx} {elt : E} {t1 t2 : Tg} {i2 : I} {c1 c2 : Oc} {own own2 : List Nat} {ρ ρ1 ρ2 ρ3 ρ4 : Env} {x : D} {acc zs ys : List D} (h1 : t1.set ρ x = some ρ1) (h2 : evOc Γ c1 ρ1 = .ok (true, ρ2)) (h3 : evI Γ i2 ρ2 = .ok (zs, ρ3)) (h4 : lcLoop (lcTurn t2 (evOc Γ c2) (evE Γ elt) own2) zs acc (wipeE ρ3 own2) = .ok (ys, ρ4)) {ρ5 : Env} (hw : wipeE ρ4 own = ρ5 := by rfl) :
    lc2Turn t1 (evOc Γ c1) (evI Γ i2) t2 (evOc Γ c2) (evE Γ elt) own own2 x acc ρ = .ok (ys, ρ5) := by
  subst hw
  show (Res.of (t1.set ρ x) >>= fun ρ => evOc Γ c1 ρ >>= fun z => _) = _
  rw [h1]
  show (evOc Γ c1 ρ1 >>= fun z => _) = _
  rw [h2]
  show (evI Γ i2 ρ2 >>= fun z => lcLoop (lcTurn t2 (evOc Γ c2) (evE Γ elt) own2) z.1 acc (wipeE z.2 own2) >>= fun z => (.ok (z.1, wipeE z.2 own) : Res (List D × Env))) = _
  rw [h3]
  show (lcLoop (lcTurn t2 (evOc Γ c2) (evE Γ elt) own2) zs acc (wipeE ρ3 own2) >>= fun z => (.ok (z.1, wipeE z.2 own) : Res (List D × Env))) = _
  rw [h4]
  rfl
theorem lc_mapA {f : D → Env → Res (Option D × Env)} {ρ : Env} (g : D → D) {xs acc : List D} (h : ∀ x, x ∈ xs → f x ρ = .ok (some (g x), ρ)) (hl : acc.length + xs.length ≤ LIM) : lcLoop f xs acc ρ = .ok (acc ++ xs.map g, ρ) := by
  rw [lc_pure (fun x => some (g x)) h hl]
  simp
/-- sorted texts, as data -/
theorem sortD_strs (l : List Str) : sortD (l.map .str) = (sortS l).map .str := (sortD_eq _).trans (List.map_mergeSort (f := PyData.str) (r := PySem.W.dataLe false PyData.str) (s := PySem.W.dataLe false fun d => d) fun _ _ _ _ => rfl).symm
theorem sortOk_strs {l : List Str} (h : l.length ≤ LIM) : sortOk (l.map .str) = true := by
  unfold sortOk
  simp only [Bool.and_eq_true, decide_eq_true_eq, List.all_eq_true, Bool.or_eq_true, List.length_map]
  refine ⟨⟨⟨fun a ha b hb => ?_, .inr fun a ha => ?_⟩, h⟩, fun a ha => ?_⟩
  · obtain ⟨x, _, rfl⟩ := List.mem_map.mp ha
    obtain ⟨y, _, rfl⟩ := List.mem_map.mp hb
    simp [PySem.W.alike]
  · obtain ⟨x, _, rfl⟩ := List.mem_map.mp ha
    rfl
  · obtain ⟨x, _, rfl⟩ := List.mem_map.mp ha
    simp [PyData.depth]
end Mn
set_option Elab.async false
set_option linter.all false
set_option maxRecDepth 100000
set_option maxHeartbeats 4000000
namespace Mn
open PySem
def noSlotR : R → Bool
  | .slot _ => false
  | _ => true
/-- a call of a def of a program -/
theorem e_p {P : Prg} {n : Nat} {g : Bool} {f : Str} {es : Es} {ρ ρ1 ρ2 : Env} {rs : List R} {ds : List D} {r : R} {o : Option (List D)} (h : evEs (P.ctx (P.call n) g) es ρ = .ok (rs, ρ1)) (hl : (P.ctx (P.call n) g).lend f = false) (hk : keepAll rs ρ1 = some (ds, ρ2)) (hc : P.call n g f (ds.map .d) = .ret r o) (hr : noSlotR r = true := by rfl) : evE (P.ctx (P.call n) g) (.call f es) ρ = .ok (r, ρ2) :=
  e_call h hl hk hc fun i z => by subst z; cases hr
theorem e_px {P : Prg} {n : Nat} {g : Bool} {f : Str} {es : Es} {ρ ρ1 ρ2 : Env} {rs : List R} {ds : List D} {c : Str} (h : evEs (P.ctx (P.call n) g) es ρ = .ok (rs, ρ1)) (hl : (P.ctx (P.call n) g).lend f = false) (hk : keepAll rs ρ1 = some (ds, ρ2)) (hc : P.call n g f (ds.map .d) = .ex c) : evE (P.ctx (P.call n) g) (.call f es) ρ = .ex c ρ2 :=
  e_callx h hl hk hc
theorem e_pl {P : Prg} {n : Nat} {g : Bool} {f : Str} {es : Es} {ρ ρ1 ρ2 : Env} {i : Nat} {l l2 : Bool} {xs xs2 ys : List D} {rest : List R} {ds : List D} {r : R} (h : evEs (P.ctx (P.call n) g) es ρ = .ok (.slot i :: rest, ρ1)) (hl : (P.ctx (P.call n) g).lend f = true) (ho : ρ1[i]? = some (some (W.own l xs))) (hk : keepAll rest ρ1 = some (ds, ρ2)) (ho2 : ρ2[i]? = some (some (W.own l2 xs2)))
    (hc : P.call n g f (.own true xs :: ds.map .d) = .ret r (some ys)) (hr : noSlotR r = true := by rfl) {ρ3 : Env} (h3 : ρ2.set i (some (.own l ys)) = ρ3 := by rfl) : evE (P.ctx (P.call n) g) (.call f es) ρ = .ok (r, ρ3) := by
  subst h3
  exact e_lend h hl ho hk ho2 hc fun i z => by subst z; cases hr
theorem e_andV {Γ : Ctx} {a b : E} {ρ ρ1 : Env} {t : Bool} {z : Res (R × Env)} (h : evE Γ a ρ = .ok (.d (.bool t), ρ1)) (h2 : (if t then evE Γ b ρ1 else .ok (.d (.bool false), ρ1)) = z) : evE Γ (.andV a b) ρ = z := by
  rw [evE, h]
  cases t <;> exact h2
theorem e_int {Γ : Ctx} {i : Int} {ρ : Env} : evE Γ (.int i) ρ = .ok (.d (.int i), ρ) := by rw [evE]
theorem e_str {Γ : Ctx} {s : Str} {ρ : Env} : evE Γ (.str s) ρ = .ok (.d (.str s), ρ) := by rw [evE]
theorem e_bl {Γ : Ctx} {b : Bool} {ρ : Env} : evE Γ (.bl b) ρ = .ok (.d (.bool b), ρ) := by rw [evE]
theorem e_non {Γ : Ctx} {ρ : Env} : evE Γ .non ρ = .ok (.d .none, ρ) := by rw [evE]
theorem e_ite {Γ : Ctx} {c : C} {a b : E} {ρ ρ1 : Env} {t : Bool} {z : Res (R × Env)} (h : evC Γ c ρ = .ok (t, ρ1)) (h2 : (if t then evE Γ a ρ1 else evE Γ b ρ1) = z) : evE Γ (.ite c a b) ρ = z := by rw [evE, h]; exact h2
/-- xs.append(e) -/
theorem e_app {Γ : Ctx} {i : Nat} {e : E} {ρ ρ1 ρ2 : Env} {r : R} {y : D} {l l0 : Bool} {xs xs0 : List D} (h0 : ρ[i]? = some (some (W.own l0 xs0))) (h : evE Γ e ρ = .ok (r, ρ1)) (hk : r.keep ρ1 = some (y, ρ2)) (ho : ρ2[i]? = some (some (W.own l xs))) (hl : xs.length < LIM) {ρ3 : Env} (h3 : ρ2.set i (some (.own l (xs ++ [y]))) = ρ3 := by rfl) : evE Γ (.app i e) ρ = .ok (.d .none, ρ3) := by
  subst h3
  rw [evE, h0]
  show (evE Γ e ρ >>= fun p => keepR p >>= fun z => _) = _
  rw [h]
  show (Res.of (r.keep ρ1) >>= fun z => _) = _
  rw [hk]
  show (match ρ2[i]? with | some (some (.own l xs)) => if xs.length < LIM then (.ok (.d .none, ρ2.set i (some (.own l (xs ++ [y])))) : Res (R × Env)) else .stuck | _ => .stuck) = _
  rw [ho]
  exact if_pos hl
/-- xs.extend(e) -/
theorem e_ext {Γ : Ctx} {i : Nat} {e : E} {ρ ρ1 : Env} {x : R} {ys : List D} {l l0 : Bool} {xs xs0 : List D} (h0 : ρ[i]? = some (some (W.own l0 xs0))) (h : evE Γ e ρ = .ok (x, ρ1)) (hk : x.peek ρ1 = some (.list ys)) (hs : x.isSlot i = false) (ho : ρ1[i]? = some (some (W.own l xs))) (hl : xs.length + ys.length ≤ LIM) {ρ3 : Env} (h3 : ρ1.set i (some (.own l (xs ++ ys))) = ρ3 := by rfl) : evE Γ (.ext i e) ρ = .ok (.d .none, ρ3) := by
  subst h3
  rw [evE, h0]
  show (evE Γ e ρ >>= fun p => Res.of (p.1.peek p.2) >>= fun z => _) = _
  rw [h]
  show (Res.of (x.peek ρ1) >>= fun z => _) = _
  rw [hk]
  show (match ρ1[i]?, PyData.list ys with | some (some (.own l xs)), .list ys => if x.isSlot i = false ∧ xs.length + ys.length ≤ LIM then (.ok (.d .none, ρ1.set i (some (.own l (xs ++ ys)))) : Res (R × Env)) else .stuck | some (some (.own l xs)), .tuple ys => if xs.length + ys.length ≤ LIM then (.ok (.d .none, ρ1.set i (some (.own l (xs ++ ys)))) : Res (R × Env)) else .stuck | _, _ => .stuck) = _
  rw [ho]
  exact if_pos ⟨hs, hl⟩
/-- xs.insert(a, e) -/
theorem e_ins {Γ : Ctx} {i : Nat} {a e : E} {ρ ρ1 ρ2 ρ4 : Env} {j : Int} {r : R} {y : D} {l l0 : Bool} {xs xs0 : List D} (h0 : ρ[i]? = some (some (W.own l0 xs0))) (ha : evE Γ a ρ = .ok (.d (.int j), ρ1)) (h : evE Γ e ρ1 = .ok (r, ρ2)) (hk : r.keep ρ2 = some (y, ρ4)) (ho : ρ4[i]? = some (some (W.own l xs))) (hl : 0 ≤ j ∧ j ≤ LIM ∧ xs.length < LIM) {ρ3 : Env} (h3 : ρ4.set i (some (.own l (xs.take j.toNat ++ [y] ++ xs.drop j.toNat))) = ρ3 := by rfl) : evE Γ (.ins i a e) ρ = .ok (.d .none, ρ3) := by
  subst h3
  rw [evE, h0]
  show (evE Γ a ρ >>= fun p => evE Γ e p.2 >>= fun q => keepR q >>= fun z => _) = _
  rw [ha]
  show (evE Γ e ρ1 >>= fun q => keepR q >>= fun z => _) = _
  rw [h]
  show (Res.of (r.keep ρ2) >>= fun z => _) = _
  rw [hk]
  show (match ρ4[i]?, R.d (.int j) with | some (some (.own l xs)), .d (.int j) => if 0 ≤ j ∧ j ≤ LIM ∧ xs.length < LIM then (.ok (.d .none, ρ4.set i (some (.own l (xs.take j.toNat ++ [y] ++ xs.drop j.toNat)))) : Res (R × Env)) else .stuck | _, _ => .stuck) = _
  rw [ho]
  exact if_pos hl
theorem s_unp {Γ : Ctx} {is : List Nat} {e : E} {ρ ρ1 ρ2 ρ3 : Env} {r : R} {xs : List D} (h : evE Γ e ρ = .ok (r, ρ1)) (hk : r.keep ρ1 = some (.list xs, ρ2)) (hs : Tg.set.setRow is xs ρ2 = some ρ3) : evS Γ (.unp is true e) ρ = .nx ρ3 := by
  rw [evS, h]
  show (match r.keep ρ1 with
    | some (.tuple xs, ρ) => if true = true then Fl.stuck else match Tg.set.setRow is xs ρ with
      | some ρ => .nx ρ
      | none => .stuck
    | some (.list xs, ρ) => if true = true then match Tg.set.setRow is xs ρ with
      | some ρ => .nx ρ
      | none => .stuck
      else .stuck
    | _ => .stuck) = _
  rw [hk]
  show (match Tg.set.setRow is xs ρ2 with | some ρ => Fl.nx ρ | none => .stuck) = _
  rw [hs]
theorem s_unpT {Γ : Ctx} {is : List Nat} {e : E} {ρ ρ1 ρ2 ρ3 : Env} {r : R} {xs : List D} (h : evE Γ e ρ = .ok (r, ρ1)) (hk : r.keep ρ1 = some (.tuple xs, ρ2)) (hs : Tg.set.setRow is xs ρ2 = some ρ3) : evS Γ (.unp is false e) ρ = .nx ρ3 := by
  rw [evS, h]
  show (match r.keep ρ1 with
    | some (.tuple xs, ρ) => if false = true then Fl.stuck else match Tg.set.setRow is xs ρ with
      | some ρ => .nx ρ
      | none => .stuck
    | some (.list xs, ρ) => if false = true then match Tg.set.setRow is xs ρ with
      | some ρ => .nx ρ
      | none => .stuck
      else .stuck
    | _ => .stuck) = _
  rw [hk]
  show (match Tg.set.setRow is xs ρ2 with | some ρ => Fl.nx ρ | none => .stuck) = _
  rw [hs]
theorem bools_map (l : List Bool) : boolsD (l.map .bool) = some l := by
  induction l with
  | nil => rfl
  | cons b l ih => rw [List.map_cons, boolsD, ih]; rfl
/-- a loop with a thing that it keeps, from turn to turn -/
theorem for_inv {α : Type} {f : D → Env → Fl} (env : α → Env) (J : List D → α → Prop) : ∀ {xs : List D} {a : α}, J xs a → (∀ x xs a, J (x :: xs) a → ∃ a', f x (env a) = .nx (env a') ∧ J xs a') → ∃ a', forLoop f xs (env a) = .nx (env a') ∧ J [] a'
  | [], a, h, _ => ⟨a, rfl, h⟩
  | x :: xs, a, h, st => by
    obtain ⟨a', e, h'⟩ := st x xs a h
    obtain ⟨a2, e2, h2⟩ := for_inv env J h' st
    exact ⟨a2, by rw [forLoop, e]; exact e2, h2⟩
end Mn
set_option Elab.async false
set_option linter.all false
set_option maxRecDepth 100000
set_option maxHeartbeats 4000000
namespace Mn
open PySem
theorem lc_two {f : D → Env → Res (Option D × Env)} {x y u v : D} {ρ ρ1 ρ2 : Env} (h1 : f x ρ = .ok (some u, ρ1)) (h2 : f y ρ1 = .ok (some v, ρ2)) : lcLoop f [x, y] [] ρ = .ok ([u, v], ρ2) := by
  simp only [lcLoop, h1, h2]
  rfl
theorem s_par {Γ : Ctx} {i j : Nat} {a b : E} {ρ ρ1 ρ2 ρ3 ρ4 : Env} {r r' : R} {x : D} (ha : evE Γ a ρ = .ok (r, ρ1)) (hb : evE Γ b ρ1 = .ok (r', ρ2)) (hij : i ≠ j) (hx : r.peek ρ2 = some x) (nr : noSlotR r = true) (nr' : noSlotR r' = true) (h3 : r.into i ρ2 = some ρ3) (h4 : r'.into j ρ3 = some ρ4) : evS Γ (.par i j a b) ρ = .nx ρ4 := by
  cases r' with
  | slot _ => cases nr'
  | _ =>
    cases r with
    | slot _ => cases nr
    | _ =>
      rw [evS, ha]
      simp only [fl_ok, hb, hx, if_neg hij, h3, h4]
end Mn
set_option Elab.async false
set_option linter.all false
set_option maxRecDepth 100000
set_option maxHeartbeats 4000000
namespace Mn
open PySem
/-! ### data that repr shows -/
theorem ok_append (a b : Str) : PyData.strOk (a ++ b) = (PyData.strOk a && PyData.strOk b) := by
  unfold PyData.strOk
  rw [Str.cps_append, Array.all_append]
theorem ok_from : ∀ (ts : List Str) (k : Nat) (acc : Str), PyData.strOk acc = true → (∀ t, t ∈ ts → PyData.strOk t = true) → PyData.strOk (textFrom k acc ts) = true
  | [], _, _, h, _ => h
  | t :: ts, k, acc, h, ht => by
    unfold textFrom
    refine ok_from ts _ _ ?_ fun t' m => ht t' (List.mem_cons_of_mem _ m)
    rw [ok_append, ok_append, h, ht t List.mem_cons_self]
    split <;> decide +kernel
theorem ok_join : ∀ ts : List Str, (∀ t, t ∈ ts → PyData.strOk t = true) → PyData.strOk (Str.join ", " ts) = true
  | [], _ => by decide +kernel
  | [x], h => h x List.mem_cons_self
  | x :: y :: r, h => by
    show PyData.strOk (x ++ _ ++ Str.join _ (y :: r)) = true
    rw [ok_append, ok_append, h x List.mem_cons_self, ok_join (y :: r) fun t m => h t (List.mem_cons_of_mem _ m)]
    decide +kernel
mutual
def plainD : D → Bool
  | .none | .bool _ => true
  | .int i => decide (i.natAbs.log2 < 1920) && PyData.strOk (PyData.shown (.int i)) && decide ((PyData.shown (.int i)).length ≤ 13)
  | .str x => PyData.strOk x && PyData.strOk (reprText x)
  | .list xs | .tuple xs => plainDs xs
  | .dict _ => false
def plainDs : List D → Bool
  | [] => true
  | x :: xs => plainD x && plainDs xs
end
theorem plainDs_all : ∀ xs : List D, plainDs xs = xs.all plainD
  | [] => rfl
  | x :: xs => by rw [plainDs, plainDs_all xs, List.all_cons]
structure PlainP (d : D) : Prop where
  lay : d.canLay0 = true
  show_ : d.showable = true
  text : PyData.strOk d.shown = true
  short : d.intsShort 13 = true
mutual
theorem plain_p : ∀ d : D, plainD d = true → PlainP d
  | .none, _ => ⟨rfl, rfl, by decide +kernel, rfl⟩
  | .bool b, _ => ⟨rfl, rfl, by cases b <;> decide +kernel, rfl⟩
  | .int i, h => by
    simp only [plainD, Bool.and_eq_true] at h
    exact ⟨rfl, h.1.1, h.1.2, h.2⟩
  | .str x, h => by
    simp only [plainD, Bool.and_eq_true] at h
    exact ⟨h.1, rfl, by rw [PyData.shown]; exact h.2, rfl⟩
  | .list xs, h => by
    have h' : plainDs xs = true := by rw [plainD] at h; exact h
    obtain ⟨a, b, c, d⟩ := plain_ps xs h'
    refine ⟨by rw [PyData.canLay0]; exact a, by rw [PyData.showable]; exact b, ?_, by rw [PyData.intsShort]; exact d⟩
    rw [PyData.shown]
    unfold listText
    rw [ok_append, ok_from _ _ _ (by decide +kernel) c]
    decide +kernel
  | .tuple xs, h => by
    have h' : plainDs xs = true := by rw [plainD] at h; exact h
    obtain ⟨a, b, c, d⟩ := plain_ps xs h'
    refine ⟨by rw [PyData.canLay0]; exact a, by rw [PyData.showable]; exact b, ?_, by rw [PyData.intsShort]; exact d⟩
    rw [PyData.shown]
    unfold tupleText
    rw [ok_append, ok_append, ok_join _ c]
    split <;> decide +kernel
  | .dict _, h => by cases h
theorem plain_ps : ∀ xs : List D, plainDs xs = true → PyData.canLayAll0 xs = true ∧ PyData.showableAll xs = true ∧ (∀ t, t ∈ PyData.shownAll xs → PyData.strOk t = true) ∧ PyData.intsShortAll 13 xs = true
  | [], _ => ⟨rfl, rfl, (fun _ h => by cases h), rfl⟩
  | x :: xs, h => by
    rw [plainDs, Bool.and_eq_true] at h
    have p := plain_p x h.1
    obtain ⟨a, b, c, d⟩ := plain_ps xs h.2
    refine ⟨by rw [PyData.canLayAll0, p.lay, a]; rfl, by rw [PyData.showableAll, p.show_, b]; rfl, fun t ht => ?_, by rw [PyData.intsShortAll, p.short, d]; rfl⟩
    rw [PyData.shownAll] at ht
    rcases List.mem_cons.mp ht with rfl | m
    · exact p.text
    · exact c t m
end
theorem repr_ok {d : D} (h : plainD d = true) (hd : d.depth ≤ 60) (hw : d.weight ≤ 2 ^ 18) :
    bltD true .repr [d] = some (.d (.str d.shown)) ∧ cmpD .eq (.str d.shown) (.str d.shown) = some true ∧ cmpD .eq d d = some true := by
  have p := plain_p d h
  have len : d.shown.length ≤ sizeLine := by
    have h2 := PyData.shown_le 13 (by decide) d (PyData.leavesShort_of_canLay0 13 d p.lay p.short)
    have e : (2 : Nat) ^ 18 = 262144 := by decide
    have e2 : sizeLine = 16777216 := by decide
    omega
  refine ⟨?_, ?_, ?_⟩
  · show (if _ then some (R.d _) else none) = _
    rw [p.show_, PyData.hasDict_of_canLay d p.lay, decide_eq_true hd, decide_eq_true len]
    rfl
  · show (if _ then some (PyData.eqv (.str d.shown) (.str d.shown)) else none) = _
    have s : SeqAt.shaped (.str d.shown) = true := by
      simp only [SeqAt.shaped, PyData.canLay0, p.text, PyData.depth]
      rfl
    rw [s, SeqAt.eqv_refl _ (by rw [PyData.canLay0]; exact p.text)]
    rfl
  · have e : cmpD .eq d d = (if SeqAt.shaped d && SeqAt.shaped d then some (PyData.eqv d d) else none) := by cases d <;> rfl
    rw [e]
    have s : SeqAt.shaped d = true := by
      simp only [SeqAt.shaped, p.lay, Bool.true_and, decide_eq_true_eq]
      omega
    rw [s, SeqAt.eqv_refl _ p.lay]
    rfl
end Mn
set_option Elab.async false
set_option linter.all false
set_option maxRecDepth 100000
set_option maxHeartbeats 4000000
namespace Mn
open PySem L2
theorem s_setX {Γ : Ctx} {i : Nat} {ix e : E} {ρ ρ1 ρ2 ρ3 : Env} {r : R} {y : D} {l l0 : Bool} {xs xs0 : List D} {k : Int} {j : Nat} (h : evE Γ e ρ = .ok (r, ρ1)) (hk : r.keep ρ1 = some (y, ρ2)) (h0 : ρ2[i]? = some (some (W.own l0 xs0))) (hx : evE Γ ix ρ2 = .ok (.d (.int k), ρ3)) (ho : ρ3[i]? = some (some (W.own l xs))) (hj : ixN xs.length k = some j) {ρ4 : Env} (h4 : ρ3.set i (some (.own l (xs.set j y))) = ρ4 := by rfl) : evS Γ (.setX i ix e) ρ = .nx ρ4 := by
  subst h4
  rw [evS, h]
  simp only [fl_ok, hk, h0, hx, ho, hj]
theorem s_augX {Γ : Ctx} {i : Nat} {ix e : E} {o : Op2} {ρ ρ1 ρ2 : Env} {l l0 l1 : Bool} {xs xs0 xs1 : List D} {k u v : Int} {z : D} {j : Nat} (h0 : ρ[i]? = some (some (W.own l0 xs0))) (hx : evE Γ ix ρ = .ok (.d (.int k), ρ1)) (h1 : ρ1[i]? = some (some (W.own l1 xs1))) (hu : atI xs1 k = some (.int u)) (h : evE Γ e ρ1 = .ok (.d (.int v), ρ2)) (ho : ρ2[i]? = some (some (W.own l xs))) (hz : opD o (.int u) (.int v) = some (.d z)) (hj : ixN xs.length k = some j) (hp : o = .add ∨ o = .sub) {ρ4 : Env} (h4 : ρ2.set i (some (.own l (xs.set j z))) = ρ4 := by rfl) : evS Γ (.augX i ix o e) ρ = .nx ρ4 := by
  subst h4
  rw [evS]
  simp only [h0, hx, fl_ok, h1, hu, h, ho, hz, hj, if_pos hp]
theorem int_eqb (i j : Int) : cmpD .eq (.int i) (.int j) = some (decide (i = j)) := by
  have s : ∀ i : Int, SeqAt.shaped (.int i) = true := fun _ => rfl
  show (if SeqAt.shaped (.int i) && SeqAt.shaped (.int j) then some (PyData.eqv (.int i) (.int j)) else none) = _
  rw [s, s]
  rfl
theorem int_neb (i j : Int) : cmpD .ne (.int i) (.int j) = some (!decide (i = j)) := by
  have s : ∀ i : Int, SeqAt.shaped (.int i) = true := fun _ => rfl
  show (if SeqAt.shaped (.int i) && SeqAt.shaped (.int j) then some (!PyData.eqv (.int i) (.int j)) else none) = _
  rw [s, s]
  rfl
end Mn
set_option Elab.async false
set_option linter.all false
set_option maxRecDepth 100000
set_option maxHeartbeats 4000000
namespace Mn
open PySem
def okW : Option W → Bool
  | some (.own true _) => false
  | _ => true
theorem free_ok {ρ : Env} {i : Nat} {w : Option W} (h : ρ[i]? = some w) (ok : okW w = true) : isFree ρ i = true := by
  unfold isFree
  rw [h]
  cases w with
  | none => rfl
  | some w =>
    cases w with
    | own l xs => cases l <;> first | rfl | cases ok
    | _ => rfl
theorem intoW_d {ρ : Env} {i : Nat} {w : Option W} {x : D} (h : ρ[i]? = some w) (ok : okW w = true) {ρ2 : Env} (h2 : ρ.set i (some (.d x)) = ρ2 := by rfl) : (R.d x).into i ρ = some ρ2 := by
  subst h2
  unfold R.into
  rw [free_ok h ok]
  rfl
theorem intoW_f {ρ : Env} {i : Nat} {w : Option W} {xs : List D} (h : ρ[i]? = some w) (ok : okW w = true) {ρ2 : Env} (h2 : ρ.set i (some (.own false xs)) = ρ2 := by rfl) : (R.fresh xs).into i ρ = some ρ2 := by
  subst h2
  unfold R.into
  rw [free_ok h ok]
  rfl
theorem back1_self (w : Option W) : back1 w w = w := by
  cases w with
  | none => rfl
  | some w => cases w <;> rfl
theorem backE_self : ∀ (k : Nat) (ρ : Env), backE [] k ρ ρ = ρ
  | _, [] => rfl
  | k, w :: ρ => by
    show back1 w w :: backE [] (k + 1) ρ ρ = _
    rw [back1_self, backE_self]
/-- a comprehension that draws -/
theorem lc_draw {f : D → Env → Res (Option D × Env)} {Bg : List D → Prop} (env : List D → Env) : ∀ {xs acc : List D} {bag : List D}, Bg bag → (∀ x, x ∈ xs → ∀ bag, Bg bag → ∃ t bag', f x (env bag) = .ok (if t = true then some x else none, env bag') ∧ Bg bag') → acc.length + xs.length ≤ LIM →
    ∃ ys bag', lcLoop f xs acc (env bag) = .ok (acc ++ ys, env bag') ∧ Bg bag' ∧ ys.Sublist xs
  | [], acc, bag, hb, _, _ => ⟨[], bag, by simp [lcLoop], hb, .slnil⟩
  | x :: xs, acc, bag, hb, h, hl => by
    rw [List.length_cons] at hl
    obtain ⟨t, bag', e, hb'⟩ := h x List.mem_cons_self bag hb
    have h' := fun y hy => h y (List.mem_cons_of_mem _ hy)
    cases t with
    | true =>
      obtain ⟨ys, b2, e2, h2, sb⟩ := lc_draw env (acc := acc ++ [x]) hb' h' (by rw [List.length_append, List.length_singleton]; omega)
      refine ⟨x :: ys, b2, ?_, h2, sb.cons_cons x⟩
      simp only [lcLoop, e, if_true]
      rw [if_pos (by omega), e2, List.append_assoc]
      rfl
    | false =>
      obtain ⟨ys, b2, e2, h2, sb⟩ := lc_draw env (acc := acc) hb' h' (by omega)
      refine ⟨ys, b2, ?_, h2, sb.cons x⟩
      simp only [lcLoop, e]
      exact e2
theorem e_heard {Γ : Ctx} {g : Str} {body : E} {ρ ρ1 ρ2 : Env} {hs : List (Str × D)} {r : R} {y : D} (ht : Γ.told g = some hs) (h : evE { Γ with g := false, told := fun _ => none } body ρ = .ok (r, ρ1)) (hk : r.keep ρ1 = some (y, ρ2)) {ρ3 : Env} (h3 : backE [] 0 ρ ρ2 = ρ3) : evE Γ (.heard g body) ρ = .ok (.d (.tuple [.str "told", y]), ρ3) := by
  subst h3
  rw [evE, ht]
  show (match evE { Γ with g := false, told := fun _ => none } body ρ with
    | .ok p => match p.1.keep p.2 with
      | some (y, ρ1) => (.ok (.d (.tuple [.str "told", y]), backE [] 0 ρ ρ1) : Res (R × Env))
      | none => .stuck
    | .ex c ρ1 => match lookupEx c hs with
      | some d => .ok (.d d, backE [] 0 ρ ρ1)
      | none => .stuck
    | .stuck => .stuck) = _
  rw [h]
  show (match r.keep ρ1 with
      | some (y, ρ1) => (.ok (.d (.tuple [.str "told", y]), backE [] 0 ρ ρ1) : Res (R × Env))
      | none => .stuck) = _
  rw [hk]
theorem e_heardx {Γ : Ctx} {g c : Str} {body : E} {ρ ρ1 : Env} {hs : List (Str × D)} {d : D} (ht : Γ.told g = some hs) (h : evE { Γ with g := false, told := fun _ => none } body ρ = .ex c ρ1) (hd : lookupEx c hs = some d) {ρ3 : Env} (h3 : backE [] 0 ρ ρ1 = ρ3) : evE Γ (.heard g body) ρ = .ok (.d d, ρ3) := by
  subst h3
  rw [evE, ht]
  show (match evE { Γ with g := false, told := fun _ => none } body ρ with
    | .ok p => match p.1.keep p.2 with
      | some (y, ρ1) => (.ok (.d (.tuple [.str "told", y]), backE [] 0 ρ ρ1) : Res (R × Env))
      | none => .stuck
    | .ex c ρ1 => match lookupEx c hs with
      | some d => .ok (.d d, backE [] 0 ρ ρ1)
      | none => .stuck
    | .stuck => .stuck) = _
  rw [h]
  show (match lookupEx c hs with
      | some d => (.ok (.d d, backE [] 0 ρ ρ1) : Res (R × Env))
      | none => .stuck) = _
  rw [hd]
/-- a call of a program's def, inside a lambda that is heard -/
theorem e_ph {P : Prg} {n : Nat} {g : Bool} {f : Str} {es : Es} {ρ ρ1 ρ2 : Env} {rs : List R} {ds : List D} {r : R} {o : Option (List D)} (h : evEs { P.ctx (P.call n) g with g := false, told := fun _ => none } es ρ = .ok (rs, ρ1)) (hl : (P.ctx (P.call n) g).lend f = false) (hk : keepAll rs ρ1 = some (ds, ρ2)) (hc : P.call n false f (ds.map .d) = .ret r o) (hr : noSlotR r = true := by rfl) : evE { P.ctx (P.call n) g with g := false, told := fun _ => none } (.call f es) ρ = .ok (r, ρ2) :=
  e_call h hl hk hc fun i z => by subst z; cases hr
theorem e_phx {P : Prg} {n : Nat} {g : Bool} {f : Str} {es : Es} {ρ ρ1 ρ2 : Env} {rs : List R} {ds : List D} {c : Str} (h : evEs { P.ctx (P.call n) g with g := false, told := fun _ => none } es ρ = .ok (rs, ρ1)) (hl : (P.ctx (P.call n) g).lend f = false) (hk : keepAll rs ρ1 = some (ds, ρ2)) (hc : P.call n false f (ds.map .d) = .ex c) : evE { P.ctx (P.call n) g with g := false, told := fun _ => none } (.call f es) ρ = .ex c ρ2 :=
  e_callx h hl hk hc
theorem e_rep {Γ : Ctx} {a b : E} {ρ ρ1 ρ2 : Env} {xs : List D} {j : Int} (ha : evE Γ a ρ = .ok (.fresh xs, ρ1)) (hb : evE Γ b ρ1 = .ok (.d (.int j), ρ2)) (hl : 0 ≤ j ∧ j ≤ 1000 ∧ xs.length ≤ 1000) : evE Γ (.rep a b) ρ = .ok (.fresh ((List.replicate j.toNat xs).flatten), ρ2) := by
  rw [evE, ha]
  show (evE Γ b ρ1 >>= fun z => _) = _
  rw [hb]
  exact if_pos hl
end Mn
set_option Elab.async false
set_option linter.all false
set_option maxRecDepth 100000
set_option maxHeartbeats 4000000
namespace Mn
open PySem
/-! ### more rules, step by step -/
theorem e_vf {Γ : Ctx} {i : Nat} {ρ : Env} {f : Str} (h : ρ[i]? = some (some (W.fn f))) : evE Γ (.var i) ρ = .ok (.fn f, ρ) := by rw [evE, h]
theorem e_glo {Γ : Ctx} {x : Str} {ρ : Env} {d : D} (h : Γ.glo x = some d) : evE Γ (.glo x) ρ = .ok (.d d, ρ) := by rw [evE, h]
theorem e_fn {Γ : Ctx} {x : Str} {ρ : Env} (h : Γ.isFn x = true) : evE Γ (.fn x) ρ = .ok (.fn x, ρ) := by rw [evE, if_pos h]
theorem c_andP {Γ : Ctx} {a b : C} {ρ : Env} {t u : Bool} (h : evC Γ a ρ = .ok (t, ρ)) (h2 : t = true → evC Γ b ρ = .ok (u, ρ)) : evC Γ (.and a b) ρ = .ok (t && u, ρ) := by
  refine c_and h ?_
  cases t
  · rfl
  · exact h2 rfl
theorem c_orP {Γ : Ctx} {a b : C} {ρ : Env} {t u : Bool} (h : evC Γ a ρ = .ok (t, ρ)) (h2 : t = false → evC Γ b ρ = .ok (u, ρ)) : evC Γ (.or a b) ρ = .ok (t || u, ρ) := by
  refine c_or h ?_
  cases t
  · exact h2 rfl
  · rfl
theorem e_andP {Γ : Ctx} {a b : E} {ρ : Env} {t u : Bool} (h : evE Γ a ρ = .ok (.d (.bool t), ρ)) (h2 : t = true → evE Γ b ρ = .ok (.d (.bool u), ρ)) : evE Γ (.andV a b) ρ = .ok (.d (.bool (t && u)), ρ) := by
  refine e_andV h ?_
  cases t
  · rfl
  · exact h2 rfl
theorem c_isN {Γ : Ctx} {e : E} {ρ ρ1 : Env} {r : R} {u : D} (h : evE Γ e ρ = .ok (r, ρ1)) (h2 : r.peek ρ1 = some u) : evC Γ (.isN e) ρ = .ok (isNoneD u, ρ1) := by
  rw [evC, h]
  show (Res.of (r.peek ρ1) >>= fun u => (.ok (isNoneD u, ρ1) : Res (Bool × Env))) = _
  rw [h2]
  rfl
theorem c_notN {Γ : Ctx} {e : E} {ρ ρ1 : Env} {r : R} {u : D} (h : evE Γ e ρ = .ok (r, ρ1)) (h2 : r.peek ρ1 = some u) : evC Γ (.notN e) ρ = .ok (!isNoneD u, ρ1) := by
  rw [evC, h]
  show (Res.of (r.peek ρ1) >>= fun u => (.ok (!isNoneD u, ρ1) : Res (Bool × Env))) = _
  rw [h2]
  rfl
theorem c_chainP {Γ : Ctx} {o o' : Cp} {a b c : E} {ρ : Env} {x y z : R} {u v w : D} {t t' : Bool} (ha : evE Γ a ρ = .ok (x, ρ)) (hb : evE Γ b ρ = .ok (y, ρ)) (hu : x.peek ρ = some u) (hv : y.peek ρ = some v) (ht : cmpD o u v = some t) (hc : evE Γ c ρ = .ok (z, ρ)) (hw : z.peek ρ = some w) (ht' : cmpD o' v w = some t') :
    evC Γ (.chain o o' a b c) ρ = .ok (t && t', ρ) := by
  rw [evC, ha]
  show (evE Γ b ρ >>= fun z => _) = _
  rw [hb]
  show (Res.of (x.peek ρ) >>= fun u => Res.of (y.peek ρ) >>= fun v => Res.of (cmpD o u v) >>= fun t => _) = _
  rw [hu]
  show (Res.of (y.peek ρ) >>= fun v => Res.of (cmpD o u v) >>= fun t => _) = _
  rw [hv]
  show (Res.of (cmpD o u v) >>= fun t => _) = _
  rw [ht]
  cases t
  · rfl
  · show (evE Γ c ρ >>= fun z => _) = _
    rw [hc]
    show (Res.of (y.peek ρ) >>= fun v => Res.of (z.peek ρ) >>= fun w => Res.of (cmpD o' v w) >>= fun t => (.ok (t, ρ) : Res (Bool × Env))) = _
    rw [hv]
    show (Res.of (z.peek ρ) >>= fun w => Res.of (cmpD o' v w) >>= fun t => (.ok (t, ρ) : Res (Bool × Env))) = _
    rw [hw]
    show (Res.of (cmpD o' v w) >>= fun t => (.ok (t, ρ) : Res (Bool × Env))) = _
    rw [ht']
    rfl
/-- a call that a def's own name, or another's, is passed to -/
theorem e_pw {P : Prg} {n : Nat} {g : Bool} {f : Str} {es : Es} {ρ ρ1 ρ2 : Env} {rs : List R} {ws : List W} {r : R} {o : Option (List D)} (h : evEs (P.ctx (P.call n) g) es ρ = .ok (rs, ρ1)) (hl : (P.ctx (P.call n) g).lend f = false) (hk : passAll rs ρ1 = some (ws, ρ2)) (hc : P.call n g f ws = .ret r o) (hr : noSlotR r = true) : evE (P.ctx (P.call n) g) (.call f es) ρ = .ok (r, ρ2) := by
  rw [evE, h]
  show callF _ f rs ρ1 = _
  unfold callF
  have hc' : (P.ctx (P.call n) g).call (P.ctx (P.call n) g).g f ws = .ret r o := hc
  simp only [hl, Bool.false_eq_true, if_false, hk, hc']
  cases r with
  | slot _ => cases hr
  | _ => rfl
/-- f(..), f in a slot -/
theorem e_callV {P : Prg} {n : Nat} {g : Bool} {i : Nat} {f : Str} {es : Es} {ρ ρ1 ρ2 : Env} {rs : List R} {ws : List W} {r : R} {o : Option (List D)} (h0 : ρ[i]? = some (some (W.fn f))) (ha : (P.ctx (P.call n) g).ar f = some es.len) (h : evEs (P.ctx (P.call n) g) es ρ = .ok (rs, ρ1)) (hl : (P.ctx (P.call n) g).lend f = false) (hk : passAll rs ρ1 = some (ws, ρ2)) (hc : P.call n g f ws = .ret r o) (hr : noSlotR r = true) : evE (P.ctx (P.call n) g) (.callV i es) ρ = .ok (r, ρ2) := by
  rw [evE, h0]
  simp only [if_pos ha]
  rw [h]
  show callF _ f rs ρ1 = _
  unfold callF
  have hc' : (P.ctx (P.call n) g).call (P.ctx (P.call n) g).g f ws = .ret r o := hc
  simp only [hl, Bool.false_eq_true, if_false, hk, hc']
  cases r with
  | slot _ => cases hr
  | _ => rfl
theorem e_sortK {P : Prg} {n : Nat} {g : Bool} {f : Str} {e : E} {ρ ρ1 : Env} {r : R} {xs ks : List D} (h : evE (P.ctx (P.call n) g) e ρ = .ok (r, ρ1)) (hp : r.peek ρ1 = some (.list xs)) (hk : keysBy (P.call n g f) xs = some ks) (ho : (sortOk ks && noListsD ks) = true) : evE (P.ctx (P.call n) g) (.sortK f e) ρ = .ok (.fresh (sortByK xs ks), ρ1) := by
  rw [evE, h]
  show (Res.of (r.peek ρ1) >>= fun u => _) = _
  rw [hp]
  show (Res.of (keysBy (P.call n g f) xs) >>= fun ks => _) = _
  rw [hk]
  show (if (sortOk ks && noListsD ks) = true then (.ok (.fresh (sortByK xs ks), ρ1) : Res (R × Env)) else .stuck) = _
  rw [if_pos ho]
theorem e_pop {Γ : Ctx} {i : Nat} {ρ : Env} {l : Bool} {xs : List D} {y : D} (h : ρ[i]? = some (some (W.own l xs))) (hy : xs.getLast? = some y) {ρ2 : Env} (h2 : ρ.set i (some (.own l xs.dropLast)) = ρ2) : evE Γ (.pop i) ρ = .ok (.d y, ρ2) := by
  subst h2
  rw [evE, h]
  simp only [hy]
/-- xs.extend(t), t a tuple -/
theorem e_extT {Γ : Ctx} {i : Nat} {e : E} {ρ ρ1 : Env} {x : R} {ys : List D} {l l0 : Bool} {xs xs0 : List D} (h0 : ρ[i]? = some (some (W.own l0 xs0))) (h : evE Γ e ρ = .ok (x, ρ1)) (hk : x.peek ρ1 = some (.tuple ys)) (ho : ρ1[i]? = some (some (W.own l xs))) (hl : xs.length + ys.length ≤ LIM) {ρ3 : Env} (h3 : ρ1.set i (some (.own l (xs ++ ys))) = ρ3) : evE Γ (.ext i e) ρ = .ok (.d .none, ρ3) := by
  subst h3
  rw [evE, h0]
  show (evE Γ e ρ >>= fun p => Res.of (p.1.peek p.2) >>= fun z => _) = _
  rw [h]
  show (Res.of (x.peek ρ1) >>= fun z => _) = _
  rw [hk]
  show (match ρ1[i]?, PyData.tuple ys with | some (some (.own l xs)), .list ys => if x.isSlot i = false ∧ xs.length + ys.length ≤ LIM then (.ok (.d .none, ρ1.set i (some (.own l (xs ++ ys)))) : Res (R × Env)) else .stuck | some (some (.own l xs)), .tuple ys => if xs.length + ys.length ≤ LIM then (.ok (.d .none, ρ1.set i (some (.own l (xs ++ ys)))) : Res (R × Env)) else .stuck | _, _ => .stuck) = _
  rw [ho]
  exact if_pos hl
theorem i_rng1 {Γ : Ctx} {e : E} {ρ ρ1 : Env} {j : Int} (h : evE Γ e ρ = .ok (.d (.int j), ρ1)) (hj : j < 2 ^ 62 ∧ -(2 ^ 62) ≤ j) : evI Γ (.rng1 e) ρ = .ok ((List.range j.toNat).map fun (k : Nat) => .int k, ρ1) := by
  rw [evI, h]
  exact if_pos hj
theorem i_enumL {Γ : Ctx} {e : E} {ρ ρ1 ρ2 : Env} {r : R} {xs : List D} (h : evE Γ e ρ = .ok (r, ρ1)) (hk : r.keep ρ1 = some (.list xs, ρ2)) : evI Γ (.enum e) ρ = .ok (xs.zipIdx.map fun p => .tuple [.int p.2, p.1], ρ2) := by
  rw [evI, h]
  show (Res.of (r.keep ρ1) >>= fun z => _) = _
  rw [hk]
  rfl
theorem i_enumT {Γ : Ctx} {e : E} {ρ ρ1 ρ2 : Env} {r : R} {xs : List D} (h : evE Γ e ρ = .ok (r, ρ1)) (hk : r.keep ρ1 = some (.tuple xs, ρ2)) : evI Γ (.enum e) ρ = .ok (xs.zipIdx.map fun p => .tuple [.int p.2, p.1], ρ2) := by
  rw [evI, h]
  show (Res.of (r.keep ρ1) >>= fun z => _) = _
  rw [hk]
  rfl
theorem i_zipL {Γ : Ctx} {a b : E} {ρ ρ1 ρ2 ρ3 : Env} {r r' : R} {xs ys : List D} (h : evE Γ a ρ = .ok (r, ρ1)) (h2 : evE Γ b ρ1 = .ok (r', ρ2)) (hk : keepAll [r, r'] ρ2 = some ([.list xs, .list ys], ρ3)) : evI Γ (.zip a b) ρ = .ok ((xs.zip ys).map fun p => .tuple [p.1, p.2], ρ3) := by
  rw [evI, h]
  show (evE Γ b ρ1 >>= fun z => _) = _
  rw [h2]
  show (Res.of (keepAll [r, r'] ρ2) >>= fun z => _) = _
  rw [hk]
  rfl
theorem i_zipT {Γ : Ctx} {a b : E} {ρ ρ1 ρ2 ρ3 : Env} {r r' : R} {xs ys : List D} (h : evE Γ a ρ = .ok (r, ρ1)) (h2 : evE Γ b ρ1 = .ok (r', ρ2)) (hk : keepAll [r, r'] ρ2 = some ([.tuple xs, .tuple ys], ρ3)) : evI Γ (.zip a b) ρ = .ok ((xs.zip ys).map fun p => .tuple [p.1, p.2], ρ3) := by
  rw [evI, h]
  show (evE Γ b ρ1 >>= fun z => _) = _
  rw [h2]
  show (Res.of (keepAll [r, r'] ρ2) >>= fun z => _) = _
  rw [hk]
  rfl
theorem s_raise {Γ : Ctx} {x : Str} {ρ : Env} : evS Γ (.raise x) ρ = .ex x ρ := by rw [evS]
theorem s_aug {Γ : Ctx} {i : Nat} {o : Op2} {e : E} {ρ ρ1 ρ2 : Env} {r : R} {u v z : Int} (h0 : ρ[i]? = some (some (W.d (.int u)))) (h : evE Γ e ρ = .ok (r, ρ1)) (hp : r.peek ρ1 = some (.int v)) (ho : opD o (.int u) (.int v) = some (.d (.int z))) (h2 : (R.d (.int z)).into i ρ1 = some ρ2) : evS Γ (.aug i o e) ρ = .nx ρ2 := by
  rw [evS, h0]
  simp only [h, fl_ok, hp, ho, h2]
theorem s_whil {Γ : Ctx} {c : C} {b : Ss} {ρ : Env} {f : Fl} (h : whLoop (evC Γ c) (evSs Γ b) Γ.wf ρ = f) : evS Γ (.whil c b) ρ = f := by rw [evS, h]
/-- if: the way that is gone -/
theorem ss_T {Γ : Ctx} {c : C} {a b ss : Ss} {ρ ρ1 : Env} {F f : Fl} (h : evC Γ c ρ = .ok (true, ρ1)) (h2 : evSs Γ a ρ1 = F) (h3 : andThen F (fun ρ => evSs Γ ss ρ) = f) : evSs Γ (.cons (.iff c a b) ss) ρ = f := by
  rw [evSs_cons, s_if h (show evSs Γ a ρ1 = F from h2)]
  exact h3
theorem ss_F {Γ : Ctx} {c : C} {a b ss : Ss} {ρ ρ1 : Env} {F f : Fl} (h : evC Γ c ρ = .ok (false, ρ1)) (h2 : evSs Γ b ρ1 = F) (h3 : andThen F (fun ρ => evSs Γ ss ρ) = f) : evSs Γ (.cons (.iff c a b) ss) ρ = f := by
  rw [evSs_cons, s_if h (show evSs Γ b ρ1 = F from h2)]
  exact h3
/-- a loop by a measure -/
theorem wh_inv {α : Type} {t : Env → Res (Bool × Env)} {f : Env → Fl} (env : α → Env) (J : α → Prop) (Dn : α → Prop) (m : α → Nat) (st : ∀ a, J a → (t (env a) = .ok (false, env a) ∧ Dn a) ∨ ∃ a', t (env a) = .ok (true, env a) ∧ f (env a) = .nx (env a') ∧ J a' ∧ m a' < m a) :
    ∀ {k : Nat} {a : α}, J a → m a < k → ∃ a', whLoop t f k (env a) = .nx (env a') ∧ J a' ∧ Dn a'
  | 0, a, _, h => absurd h (Nat.not_lt_zero _)
  | k + 1, a, j, h => by
    rcases st a j with ⟨e, d⟩ | ⟨a', e1, e2, j', lt⟩
    · exact ⟨a, by simp only [whLoop, e], j, d⟩
    · obtain ⟨a2, e3, j2, d2⟩ := wh_inv env J Dn m st (k := k) j' (by omega)
      exact ⟨a2, by simp only [whLoop, e1, e2]; exact e3, j2, d2⟩
/-- a comprehension whose turns change what is kept -/
theorem lc_inv {α : Type} {f : D → Env → Res (Option D × Env)} (env : α → Env) (J : List D → List D → α → Prop) : ∀ {xs acc : List D} {a : α}, J xs acc a → acc.length + xs.length ≤ LIM → (∀ x xs acc a, J (x :: xs) acc a → ∃ y a', f x (env a) = .ok (some y, env a') ∧ J xs (acc ++ [y]) a') →
    ∃ ys a', lcLoop f xs acc (env a) = .ok (ys, env a') ∧ J [] ys a'
  | [], acc, a, h, _, _ => ⟨acc, a, rfl, h⟩
  | x :: xs, acc, a, h, hl, st => by
    rw [List.length_cons] at hl
    obtain ⟨y, a', e, h'⟩ := st x xs acc a h
    obtain ⟨ys, a2, e2, h2⟩ := lc_inv env J (acc := acc ++ [y]) h' (by rw [List.length_append, List.length_singleton]; omega) st
    refine ⟨ys, a2, ?_, h2⟩
    simp only [lcLoop, e]
    rw [if_pos (by omega)]
    exact e2
/-- shapes of goals that reckoning closes -/
theorem rf_peek {r : R} {ρ : Env} {x : Option D} (h : r.peek ρ = x) : r.peek ρ = x := h
theorem rf_keep {r : R} {ρ : Env} {x : Option (D × Env)} (h : r.keep ρ = x) : r.keep ρ = x := h
theorem rf_into {r : R} {i : Nat} {ρ : Env} {x : Option Env} (h : r.into i ρ = x) : r.into i ρ = x := h
theorem rf_keepAll {rs : List R} {ρ : Env} {x : Option (List D × Env)} (h : keepAll rs ρ = x) : keepAll rs ρ = x := h
theorem rf_passAll {rs : List R} {ρ : Env} {x : Option (List W × Env)} (h : passAll rs ρ = x) : passAll rs ρ = x := h
theorem rf_peekAll {rs : List R} {ρ : Env} {x : Option (List D)} (h : peekAll ρ rs = x) : peekAll ρ rs = x := h
theorem rf_items {d : D} {x : Option (List D)} (h : itemsD d = x) : itemsD d = x := h
theorem rf_noslot {r : R} (h : noSlotR r = true) : noSlotR r = true := h
theorem rf_tru {d : D} {x : Option Bool} (h : truD d = x) : truD d = x := h
theorem rf_then {f g : Fl} {k : Env → Fl} (h : andThen f k = g) : andThen f k = g := h
theorem len_le2 {n : Nat} (h : n ≤ 100) : n ≤ LIM := Nat.le_trans h (by decide)
end Mn
set_option Elab.async false
set_option linter.all false
set_option maxRecDepth 100000
set_option maxHeartbeats 1000000
namespace Mn
open PySem
/-! ## trees -/
inductive Tr where
  | leaf (s : Str)
  | node (ts : List Tr)
namespace Tr
mutual
def dat : Tr → D
  | .leaf s => .str s
  | .node ts => .tuple (dats ts)
def dats : List Tr → List D
  | [] => []
  | t :: ts => dat t :: dats ts
end
theorem dats_eq : ∀ ts, dats ts = ts.map dat
  | [] => rfl
  | t :: ts => by rw [dats, dats_eq ts, List.map_cons]
mutual
def leaves : Tr → List Str
  | .leaf s => [s]
  | .node ts => leavesL ts
def leavesL : List Tr → List Str
  | [] => []
  | t :: ts => leaves t ++ leavesL ts
end
theorem leavesL_eq : ∀ ts, leavesL ts = ts.flatMap leaves
  | [] => rfl
  | t :: ts => by rw [leavesL, leavesL_eq ts, List.flatMap_cons]
mutual
def parts : Tr → List Tr
  | .leaf s => [.leaf s]
  | .node ts => .node ts :: partsL ts
def partsL : List Tr → List Tr
  | [] => []
  | t :: ts => parts t ++ partsL ts
end
theorem partsL_eq : ∀ ts, partsL ts = ts.flatMap parts
  | [] => rfl
  | t :: ts => by rw [partsL, partsL_eq ts, List.flatMap_cons]
theorem dat_node (ts : List Tr) : dat (.node ts) = .tuple (ts.map dat) := by rw [dat, dats_eq]
theorem leaves_node (ts : List Tr) : leaves (.node ts) = ts.flatMap leaves := by rw [leaves, leavesL_eq]
theorem parts_node (ts : List Tr) : parts (.node ts) = .node ts :: ts.flatMap parts := by rw [parts, partsL_eq]
def has (t : Tr) (a b c : Str) : Bool := (parts t).any fun p => (leaves p).contains a && (leaves p).contains b && !(leaves p).contains c
theorem has_iff {t : Tr} {a b c : Str} : has t a b c = true ↔ ∃ p, p ∈ parts t ∧ a ∈ leaves p ∧ b ∈ leaves p ∧ c ∉ leaves p := by
  unfold has
  rw [List.any_eq_true]
  constructor
  · rintro ⟨p, hp, h⟩
    simp only [Bool.and_eq_true, List.contains_iff_mem, Bool.not_eq_true', ← Bool.not_eq_true] at h
    exact ⟨p, hp, h.1.1, h.1.2, h.2⟩
  · rintro ⟨p, hp, h1, h2, h3⟩
    refine ⟨p, hp, ?_⟩
    simp only [Bool.and_eq_true, List.contains_iff_mem, Bool.not_eq_true', ← Bool.not_eq_true]
    exact ⟨⟨h1, h2⟩, h3⟩
theorem mem_self : ∀ t : Tr, t ∈ parts t
  | .leaf _ => List.mem_singleton_self _
  | .node ts => by rw [parts]; exact List.mem_cons_self
theorem size_mem {t : Tr} {ts : List Tr} (h : t ∈ ts) : sizeOf t < sizeOf (Tr.node ts) := by
  have := List.sizeOf_lt_of_mem h
  simp only [Tr.node.sizeOf_spec]
  omega
/-- what stands within a part stands within the tree -/
theorem parts_sub : ∀ (t : Tr) {p : Tr} {x : Str}, p ∈ parts t → x ∈ leaves p → x ∈ leaves t
  | .leaf s, p, x, hp, hx => by
    rw [parts, List.mem_singleton] at hp
    rw [← hp]; exact hx
  | .node ts, p, x, hp, hx => by
    rw [parts_node] at hp
    rcases List.mem_cons.mp hp with e | hp
    · rw [← e]; exact hx
    · obtain ⟨u, hu, hpu⟩ := List.mem_flatMap.mp hp
      rw [leaves_node]
      have := size_mem hu
      exact List.mem_flatMap.mpr ⟨u, hu, parts_sub u hpu hx⟩
termination_by t => sizeOf t
/-- the leaves of unlike children stand apart -/
theorem apart : ∀ {ts : List Tr}, (ts.flatMap leaves).Nodup → ∀ {u v : Tr} {x : Str}, u ∈ ts → v ∈ ts → x ∈ leaves u → x ∈ leaves v → u = v
  | [], _, _, _, _, h, _, _, _ => by cases h
  | k :: G, nd, g, g', x, h, h', hx, hx' => by
    rw [List.flatMap_cons, List.nodup_append] at nd
    obtain ⟨n1, n2, n3⟩ := nd
    rcases List.mem_cons.mp h with e | m <;> rcases List.mem_cons.mp h' with e' | m'
    · rw [e, e']
    · subst e
      exact absurd rfl (n3 x hx x (List.mem_flatMap.mpr ⟨g', m', hx'⟩))
    · subst e'
      exact absurd rfl (n3 x hx' x (List.mem_flatMap.mpr ⟨g, m, hx⟩))
    · exact apart n2 m m' hx hx'
theorem child_nodup : ∀ {ts : List Tr}, (ts.flatMap leaves).Nodup → ∀ {u : Tr}, u ∈ ts → (leaves u).Nodup
  | [], _, _, h => by cases h
  | k :: G, nd, u, h => by
    rw [List.flatMap_cons, List.nodup_append] at nd
    rcases List.mem_cons.mp h with e | m
    · rw [e]; exact nd.1
    · exact child_nodup nd.2.1 m
/-- two parts: one within the other, or apart -/
theorem lam : ∀ (t : Tr), (leaves t).Nodup → ∀ {p q : Tr}, p ∈ parts t → q ∈ parts t → (∀ x, x ∈ leaves p → x ∈ leaves q) ∨ (∀ x, x ∈ leaves q → x ∈ leaves p) ∨ ∀ x, x ∈ leaves p → x ∉ leaves q
  | .leaf s, nd, p, q, hp, hq => by
    rw [parts, List.mem_singleton] at hp hq
    rw [hp, hq]
    exact .inl fun x h => h
  | .node ts, nd, p, q, hp, hq => by
    have hp0 := hp
    have hq0 := hq
    rw [parts_node] at hp hq
    rcases List.mem_cons.mp hp with e | hp
    · exact .inr (.inl fun x h => by rw [e]; exact parts_sub _ hq0 h)
    · rcases List.mem_cons.mp hq with e | hq
      · exact .inl fun x h => by rw [e]; exact parts_sub _ hp0 h
      · obtain ⟨u, hu, hpu⟩ := List.mem_flatMap.mp hp
        obtain ⟨v, hv, hqv⟩ := List.mem_flatMap.mp hq
        rw [leaves_node] at nd
        have := size_mem hu
        by_cases e : u = v
        · subst e
          exact lam u (child_nodup nd hu) hpu hqv
        · exact .inr (.inr fun x h h' => e (apart nd hu hv (parts_sub u hpu h) (parts_sub v hqv h')))
termination_by t => sizeOf t
theorem has_comm (t : Tr) (a b c : Str) : has t a b c = has t b a c := by
  unfold has
  congr 1
  funext p
  rw [Bool.and_comm (List.contains _ a)]
/-- at most one of three -/
theorem has_one {t : Tr} (nd : (leaves t).Nodup) {a b c : Str} (h : has t a b c = true) (h' : has t a c b = true) : False := by
  obtain ⟨p, hp, p1, p2, p3⟩ := has_iff.mp h
  obtain ⟨q, hq, q1, q2, q3⟩ := has_iff.mp h'
  rcases lam t nd hp hq with z | z | z
  · exact q3 (z b p2)
  · exact p3 (z c q2)
  · exact z a p1 q1
theorem has_in {t : Tr} {a b c : Str} (h : has t a b c = true) : a ∈ leaves t ∧ b ∈ leaves t := by
  obtain ⟨p, hp, p1, p2, _⟩ := has_iff.mp h
  exact ⟨parts_sub t hp p1, parts_sub t hp p2⟩
/-- the least thing -/
def lst (t : Tr) : Str := (sortS (leaves t)).headD ""
def lstLt (u v : Tr) : Prop := PySem.W.dataLe false PyData.str (lst u) (lst v) = true
mutual
/-- a tree as the program writes it -/
def Ok : Tr → Prop
  | .leaf _ => True
  | .node ts => 2 ≤ ts.length ∧ ts.Pairwise lstLt ∧ OkL ts
def OkL : List Tr → Prop
  | [] => True
  | t :: ts => Ok t ∧ OkL ts
end
theorem okL_mem : ∀ {ts : List Tr}, OkL ts → ∀ {t : Tr}, t ∈ ts → Ok t
  | [], _, _, h => by cases h
  | u :: ts, h, t, m => by
    rw [OkL] at h
    rcases List.mem_cons.mp m with e | m
    · rw [e]; exact h.1
    · exact okL_mem h.2 m
theorem okL_of : ∀ {ts : List Tr}, (∀ t, t ∈ ts → Ok t) → OkL ts
  | [], _ => trivial
  | u :: ts, h => by rw [OkL]; exact ⟨h u List.mem_cons_self, okL_of fun t m => h t (List.mem_cons_of_mem _ m)⟩
theorem ok_node {ts : List Tr} : Ok (.node ts) ↔ 2 ≤ ts.length ∧ ts.Pairwise lstLt ∧ ∀ t, t ∈ ts → Ok t := by
  rw [Ok]
  exact ⟨fun ⟨a, b, c⟩ => ⟨a, b, fun t m => okL_mem c m⟩, fun ⟨a, b, c⟩ => ⟨a, b, okL_of c⟩⟩
/-- no tree is empty -/
theorem ok_ne : ∀ (t : Tr), Ok t → leaves t ≠ []
  | .leaf s, _ => by rw [leaves]; exact List.cons_ne_nil _ _
  | .node [], h => by
    rw [ok_node] at h
    exact absurd h.1 (by decide)
  | .node (u :: ts), h => by
    rw [ok_node] at h
    rw [leaves_node, List.flatMap_cons]
    have := size_mem (List.mem_cons_self (a := u) (l := ts))
    intro e
    exact ok_ne u (h.2.2 u List.mem_cons_self) (List.append_eq_nil_iff.mp e).1
termination_by t => sizeOf t
theorem ok_some {t : Tr} (h : Ok t) : ∃ x, x ∈ leaves t := List.exists_mem_of_ne_nil _ (ok_ne t h)
/-- another child -/
theorem other {ts : List Tr} (h : Ok (.node ts)) (nd : (ts.flatMap leaves).Nodup) {u : Tr} (hu : u ∈ ts) : ∃ c, c ∈ leaves (.node ts) ∧ c ∉ leaves u := by
  rw [ok_node] at h
  obtain ⟨h1, _, h3⟩ := h
  rw [leaves_node]
  match ts, h1, h3, hu, nd with
  | a :: b :: r, _, h3, hu, nd =>
    have d : ∀ {x}, x ∈ leaves a → x ∈ leaves b → False := fun {x} ha hb => by
      rw [List.flatMap_cons, List.flatMap_cons, List.nodup_append] at nd
      exact nd.2.2 x ha x (List.mem_append_left _ hb) rfl
    obtain ⟨xa, ma⟩ := ok_some (h3 a List.mem_cons_self)
    obtain ⟨xb, mb⟩ := ok_some (h3 b (List.mem_cons_of_mem _ List.mem_cons_self))
    by_cases e : xa ∈ leaves u
    · have ea : u = a := apart nd hu List.mem_cons_self e ma
      subst ea
      exact ⟨xb, List.mem_flatMap.mpr ⟨b, List.mem_cons_of_mem _ List.mem_cons_self, mb⟩, fun z => d z mb⟩
    · exact ⟨xa, List.mem_flatMap.mpr ⟨a, List.mem_cons_self, ma⟩, e⟩
/-- in one child exactly if a third thing parts from both ahead -/
theorem same_child {ts : List Tr} (h : Ok (.node ts)) (nd : (ts.flatMap leaves).Nodup) {x y : Str} : (∃ u, u ∈ ts ∧ x ∈ leaves u ∧ y ∈ leaves u) ↔ ∃ c, c ∈ leaves (.node ts) ∧ has (.node ts) x y c = true := by
  constructor
  · rintro ⟨u, hu, hx, hy⟩
    obtain ⟨c, hc, nc⟩ := other h nd hu
    exact ⟨c, hc, has_iff.mpr ⟨u, by rw [parts_node]; exact List.mem_cons_of_mem _ (List.mem_flatMap.mpr ⟨u, hu, mem_self u⟩), hx, hy, nc⟩⟩
  · rintro ⟨c, hc, hh⟩
    obtain ⟨p, hp, hx, hy, nc⟩ := has_iff.mp hh
    rw [parts_node] at hp
    rcases List.mem_cons.mp hp with e | hp
    · exact absurd (by rw [e]; exact hc) nc
    · obtain ⟨u, hu, hpu⟩ := List.mem_flatMap.mp hp
      exact ⟨u, hu, parts_sub u hpu hx, parts_sub u hpu hy⟩
/-- a child's own sayings -/
theorem has_child {ts : List Tr} (nd : (ts.flatMap leaves).Nodup) {u : Tr} (hu : u ∈ ts) {a b c : Str} (ha : a ∈ leaves u) (hc : c ∈ leaves u) : has (.node ts) a b c = has u a b c := by
  rw [Bool.eq_iff_iff, has_iff, has_iff]
  constructor
  · rintro ⟨p, hp, h1, h2, h3⟩
    rw [parts_node] at hp
    rcases List.mem_cons.mp hp with e | hp
    · exact absurd (by rw [e, leaves_node]; exact List.mem_flatMap.mpr ⟨u, hu, hc⟩) h3
    · obtain ⟨v, hv, hpv⟩ := List.mem_flatMap.mp hp
      have := apart nd hu hv ha (parts_sub v hpv h1)
      subst this
      exact ⟨p, hpv, h1, h2, h3⟩
  · rintro ⟨p, hp, h⟩
    exact ⟨p, by rw [parts_node]; exact List.mem_cons_of_mem _ (List.mem_flatMap.mpr ⟨u, hu, hp⟩), h⟩
theorem leaf_one {ts : List Tr} (h : Ok (.node ts)) (nd : (ts.flatMap leaves).Nodup) {s : Str} (e : ∀ x, x ∈ leaves (.node ts) → x = s) : False := by
  have h' := h
  rw [ok_node] at h'
  match ts, h'.1 with
  | a :: r, _ =>
    obtain ⟨xa, ma⟩ := ok_some (h'.2.2 a List.mem_cons_self)
    obtain ⟨c, hc, nc⟩ := other h nd (u := a) List.mem_cons_self
    have e1 := e xa (by rw [leaves_node]; exact List.mem_flatMap.mpr ⟨a, List.mem_cons_self, ma⟩)
    have e2 := e c hc
    exact nc (by rw [e2, ← e1]; exact ma)
theorem lst_mem {t : Tr} (h : Ok t) : lst t ∈ leaves t := by
  have hn := ok_ne t h
  have : sortS (leaves t) ≠ [] := fun e => hn (by
    have := (sortS_perm (leaves t)).length_eq
    rw [e] at this
    exact List.length_eq_zero_iff.mp this.symm)
  rw [← sortS_mem]
  unfold lst
  cases q : sortS (leaves t) with
  | nil => exact absurd q this
  | cons x r => exact List.mem_cons_self
/-- a tree is told by its sayings -/
theorem inj : ∀ (t u : Tr), Ok t → Ok u → (leaves t).Nodup → (leaves u).Nodup → (∀ x, x ∈ leaves t ↔ x ∈ leaves u) → (∀ a b c, a ∈ leaves t → b ∈ leaves t → c ∈ leaves t → has t a b c = has u a b c) → t = u
  | .leaf s, .leaf s', _, _, _, _, e, _ => by
    have := (e s).mp (by rw [leaves]; exact List.mem_singleton_self _)
    rw [leaves, List.mem_singleton] at this
    rw [this]
  | .leaf s, .node us, _, ou, _, nu, e, _ => by
    rw [leaves_node] at nu
    exact (leaf_one ou nu (s := s) fun x hx => by simpa [leaves] using (e x).mpr hx).elim
  | .node ts, .leaf s, ot, _, nt, _, e, _ => by
    rw [leaves_node] at nt
    exact (leaf_one ot nt (s := s) fun x hx => by simpa [leaves] using (e x).mp hx).elim
  | .node ts, .node us, ot, ou, nt, nu, e, hh => by
    have nt' := nt
    have nu' := nu
    rw [leaves_node] at nt' nu'
    have inT : ∀ {p x}, p ∈ ts → x ∈ leaves p → x ∈ leaves (.node ts) := fun hp hx => by rw [leaves_node]; exact List.mem_flatMap.mpr ⟨_, hp, hx⟩
    have inU : ∀ {p x}, p ∈ us → x ∈ leaves p → x ∈ leaves (.node us) := fun hp hx => by rw [leaves_node]; exact List.mem_flatMap.mpr ⟨_, hp, hx⟩
    have rel : ∀ x y, x ∈ leaves (.node ts) → y ∈ leaves (.node ts) → ((∃ p, p ∈ ts ∧ x ∈ leaves p ∧ y ∈ leaves p) ↔ ∃ q, q ∈ us ∧ x ∈ leaves q ∧ y ∈ leaves q) := fun x y hx hy => by
      rw [same_child ot nt', same_child ou nu']
      exact ⟨fun ⟨c, hc, z⟩ => ⟨c, (e c).mp hc, by rw [← hh x y c hx hy hc]; exact z⟩, fun ⟨c, hc, z⟩ => ⟨c, (e c).mpr hc, by rw [hh x y c hx hy ((e c).mpr hc)]; exact z⟩⟩
    have o1 := (ok_node.mp ot).2.2
    have o2 := (ok_node.mp ou).2.2
    -- the child of us with the things of a child of ts
    have pair : ∀ p q x, p ∈ ts → q ∈ us → x ∈ leaves p → x ∈ leaves q → p = q := fun p q x hp hq hxp hxq => by
      have same : ∀ y, y ∈ leaves p ↔ y ∈ leaves q := fun y => by
        constructor
        · intro hy
          obtain ⟨q', hq', a, b⟩ := (rel x y (inT hp hxp) (inT hp hy)).mp ⟨p, hp, hxp, hy⟩
          have := apart nu' hq hq' hxq a
          rw [this]; exact b
        · intro hy
          obtain ⟨p', hp', a, b⟩ := (rel x y (inT hp hxp) ((e y).mpr (inU hq hy))).mpr ⟨q, hq, hxq, hy⟩
          have := apart nt' hp hp' hxp a
          rw [this]; exact b
      have := size_mem hp
      refine inj p q (o1 p hp) (o2 q hq) (child_nodup nt' hp) (child_nodup nu' hq) same fun a b c ha hb hc => ?_
      rw [← has_child nt' hp ha hc, ← has_child nu' hq ((same a).mp ha) ((same c).mp hc)]
      exact hh a b c (inT hp ha) (inT hp hb) (inT hp hc)
    have mem : ∀ p, p ∈ ts ↔ p ∈ us := fun p => by
      constructor
      · intro hp
        obtain ⟨x, hx⟩ := ok_some (o1 p hp)
        have := (e x).mp (inT hp hx)
        rw [leaves_node] at this
        obtain ⟨q, hq, hxq⟩ := List.mem_flatMap.mp this
        rw [pair p q x hp hq hx hxq]
        exact hq
      · intro hq
        obtain ⟨x, hx⟩ := ok_some (o2 p hq)
        have := (e x).mpr (inU hq hx)
        rw [leaves_node] at this
        obtain ⟨q, hp, hxp⟩ := List.mem_flatMap.mp this
        rw [← pair q p x hp hq hxp hx]
        exact hp
    have nd : ∀ {ts : List Tr}, (ts.flatMap leaves).Nodup → (∀ p, p ∈ ts → Ok p) → ts.Nodup := by
      intro ts n o
      induction ts with
      | nil => exact List.nodup_nil
      | cons a r ih =>
        rw [List.flatMap_cons, List.nodup_append] at n
        refine List.nodup_cons.mpr ⟨fun m => ?_, ih n.2.1 fun p hp => o p (List.mem_cons_of_mem _ hp)⟩
        obtain ⟨x, hx⟩ := ok_some (o a List.mem_cons_self)
        exact n.2.2 x hx x (List.mem_flatMap.mpr ⟨a, m, hx⟩) rfl
    have pm : ts.Perm us := (List.perm_ext_iff_of_nodup (nd nt' o1) (nd nu' o2)).mpr mem
    congr 1
    refine List.Perm.eq_of_pairwise (le := lstLt) (fun a b ha hb h1 h2 => ?_) (ok_node.mp ot).2.1 (ok_node.mp ou).2.1 pm
    have e3 := str_anti h1 h2
    have hb' := (mem b).mpr hb
    exact apart nt' ha hb' (lst_mem (o1 a ha)) (by rw [e3]; exact lst_mem (o1 b hb'))
termination_by t => sizeOf t
end Tr
end Mn
set_option Elab.async false
set_option linter.all false
set_option maxRecDepth 100000
set_option maxHeartbeats 1000000
namespace Mn
open PySem
/-! ## data without truths: equal exactly if the same -/
mutual
def txtD : D → Bool
  | .none | .int _ | .str _ => true
  | .bool _ | .dict _ => false
  | .list xs | .tuple xs => txtDs xs
def txtDs : List D → Bool
  | [] => true
  | x :: xs => txtD x && txtDs xs
end
theorem txtDs_all : ∀ xs : List D, txtDs xs = xs.all txtD
  | [] => rfl
  | x :: xs => by rw [txtDs, txtDs_all xs, List.all_cons]
mutual
theorem eqv_iff : ∀ a b : D, txtD a = true → txtD b = true → (PyData.eqv a b = true ↔ a = b)
  | .none, b, _, hb => by cases b <;> first | exact ⟨fun _ => rfl, fun _ => rfl⟩ | exact ⟨(fun h => nomatch h), (fun h => nomatch h)⟩
  | .int i, b, _, hb => by
    cases b with
    | int j => exact ⟨fun h => by rw [eq_of_beq (show (i == j) = true from h)], fun h => by cases h; exact beq_self_eq_true i⟩
    | bool _ => cases hb
    | _ => exact ⟨(fun h => nomatch h), (fun h => nomatch h)⟩
  | .str i, b, _, hb => by
    cases b with
    | str j => exact ⟨fun h => by rw [eq_of_beq (show (i == j) = true from h)], fun h => by cases h; exact beq_self_eq_true i⟩
    | _ => exact ⟨(fun h => nomatch h), (fun h => nomatch h)⟩
  | .list xs, b, ha, hb => by
    cases b with
    | list ys =>
      rw [txtD] at ha hb
      have := eqvs_iff xs ys ha hb
      exact ⟨fun h => by rw [this.mp h], fun h => by cases h; exact this.mpr rfl⟩
    | _ => exact ⟨(fun h => nomatch h), (fun h => nomatch h)⟩
  | .tuple xs, b, ha, hb => by
    cases b with
    | tuple ys =>
      rw [txtD] at ha hb
      have := eqvs_iff xs ys ha hb
      exact ⟨fun h => by rw [this.mp h], fun h => by cases h; exact this.mpr rfl⟩
    | _ => exact ⟨(fun h => nomatch h), (fun h => nomatch h)⟩
  | .bool _, _, ha, _ => by cases ha
  | .dict _, _, ha, _ => by cases ha
theorem eqvs_iff : ∀ a b : List D, txtDs a = true → txtDs b = true → (PyData.eqvAll a b = true ↔ a = b)
  | [], [], _, _ => ⟨fun _ => rfl, fun _ => rfl⟩
  | [], _ :: _, _, _ => ⟨(fun h => nomatch h), (fun h => nomatch h)⟩
  | _ :: _, [], _, _ => ⟨(fun h => nomatch h), (fun h => nomatch h)⟩
  | x :: a, y :: b, ha, hb => by
    rw [txtDs, Bool.and_eq_true] at ha hb
    rw [PySem.W.eqv_all_cons, Bool.and_eq_true, eqv_iff x y ha.1 hb.1, eqvs_iff a b ha.2 hb.2]
    exact ⟨fun ⟨e1, e2⟩ => by rw [e1, e2], fun h => by cases h; exact ⟨rfl, rfl⟩⟩
end
/-- data that can be compared and shown -/
structure Nice (c : Nat) (d : D) : Prop where
  p : plainD d = true
  t : txtD d = true
  d : d.depth ≤ c
/-- the same, truths let in -/
structure Tame' (c : Nat) (d : D) : Prop where
  p : plainD d = true
  d : d.depth ≤ c
theorem Nice.tame {c : Nat} {d : D} (h : Nice c d) : Tame' c d := ⟨h.p, h.d⟩
theorem depthAll_le {c : Nat} : ∀ {xs : List D}, (∀ x, x ∈ xs → x.depth ≤ c) → PyData.depthAll xs ≤ c
  | [], _ => Nat.zero_le _
  | x :: xs, h => by
    rw [PyData.depthAll]
    have h1 := h x List.mem_cons_self
    have h2 := depthAll_le fun y hy => h y (List.mem_cons_of_mem _ hy)
    omega
theorem Nice.mono {c c' : Nat} {d : D} (h : Nice c d) (l : c ≤ c') : Nice c' d := ⟨h.p, h.t, Nat.le_trans h.d l⟩
theorem nice_tup {c : Nat} {xs : List D} (h : ∀ x, x ∈ xs → Nice c x) : Nice (c + 1) (.tuple xs) := by
  refine ⟨?_, ?_, ?_⟩
  · rw [plainD, plainDs_all]
    exact List.all_eq_true.mpr fun x hx => (h x hx).p
  · rw [txtD, txtDs_all]
    exact List.all_eq_true.mpr fun x hx => (h x hx).t
  · rw [PyData.depth]
    exact Nat.succ_le_succ (depthAll_le fun x hx => (h x hx).d)
theorem nice_list {c : Nat} {xs : List D} (h : ∀ x, x ∈ xs → Nice c x) : Nice (c + 1) (.list xs) := by
  refine ⟨?_, ?_, ?_⟩
  · rw [plainD, plainDs_all]
    exact List.all_eq_true.mpr fun x hx => (h x hx).p
  · rw [txtD, txtDs_all]
    exact List.all_eq_true.mpr fun x hx => (h x hx).t
  · rw [PyData.depth]
    exact Nat.succ_le_succ (depthAll_le fun x hx => (h x hx).d)
theorem tame_tup {c : Nat} {xs : List D} (h : ∀ x, x ∈ xs → Tame' c x) : Tame' (c + 1) (.tuple xs) := by
  refine ⟨?_, ?_⟩
  · rw [plainD, plainDs_all]
    exact List.all_eq_true.mpr fun x hx => (h x hx).p
  · rw [PyData.depth]
    exact Nat.succ_le_succ (depthAll_le fun x hx => (h x hx).d)
theorem tame_list {c : Nat} {xs : List D} (h : ∀ x, x ∈ xs → Tame' c x) : Tame' (c + 1) (.list xs) := by
  refine ⟨?_, ?_⟩
  · rw [plainD, plainDs_all]
    exact List.all_eq_true.mpr fun x hx => (h x hx).p
  · rw [PyData.depth]
    exact Nat.succ_le_succ (depthAll_le fun x hx => (h x hx).d)
theorem tame_bool {c : Nat} (b : Bool) : Tame' c (.bool b) := ⟨rfl, Nat.zero_le _⟩
theorem nice_none {c : Nat} : Nice c .none := ⟨rfl, rfl, Nat.zero_le _⟩
theorem Tame'.mono {c c' : Nat} {d : D} (h : Tame' c d) (l : c ≤ c') : Tame' c' d := ⟨h.p, Nat.le_trans h.d l⟩
theorem Tame'.sh {c : Nat} {d : D} (h : Tame' c d) (l : c ≤ 64 := by decide) : SeqAt.shaped d = true := by
  unfold SeqAt.shaped
  rw [(plain_p d h.p).lay, decide_eq_true (Nat.le_trans h.d l)]
  rfl
theorem Nice.sh {c : Nat} {d : D} (h : Nice c d) (l : c ≤ 64 := by decide) : SeqAt.shaped d = true := h.tame.sh l
/-- comparisons of such data -/
theorem eq_sh {a b : D} (ha : SeqAt.shaped a = true) (hb : SeqAt.shaped b = true) : cmpD .eq a b = some (PyData.eqv a b) := by
  have e : cmpD .eq a b = (if SeqAt.shaped a && SeqAt.shaped b then some (PyData.eqv a b) else none) := by cases a <;> rfl
  rw [e, ha, hb]
  rfl
theorem ne_sh {a b : D} (ha : SeqAt.shaped a = true) (hb : SeqAt.shaped b = true) : cmpD .ne a b = some (!PyData.eqv a b) := by
  have e : cmpD .ne a b = (if SeqAt.shaped a && SeqAt.shaped b then some (!PyData.eqv a b) else none) := by cases a <;> rfl
  rw [e, ha, hb]
  rfl
theorem eqv_dec {a b : D} (ha : txtD a = true) (hb : txtD b = true) {p : Prop} [Decidable p] (h : a = b ↔ p) : PyData.eqv a b = decide p := by
  rw [Bool.eq_iff_iff, eqv_iff a b ha hb, h, decide_eq_true_iff]
theorem eqN {c c' : Nat} {a b : D} (ha : Nice c a) (hb : Nice c' b) {p : Prop} [Decidable p] (h : a = b ↔ p) (l : c ≤ 64 := by decide) (l' : c' ≤ 64 := by decide) : cmpD .eq a b = some (decide p) := by
  rw [eq_sh (ha.sh l) (hb.sh l'), eqv_dec ha.t hb.t h]
theorem neN {c c' : Nat} {a b : D} (ha : Nice c a) (hb : Nice c' b) {p : Prop} [Decidable p] (h : a = b ↔ p) (l : c ≤ 64 := by decide) (l' : c' ≤ 64 := by decide) : cmpD .ne a b = some (!decide p) := by
  rw [ne_sh (ha.sh l) (hb.sh l'), eqv_dec ha.t hb.t h]
theorem any_dec {a : D} (ha : txtD a = true) {xs : List D} (h : ∀ x, x ∈ xs → txtD x = true) {p : Prop} [Decidable p] (e : a ∈ xs ↔ p) : (xs.any fun x => PyData.eqv x a) = decide p := by
  rw [Bool.eq_iff_iff, List.any_eq_true, decide_eq_true_iff, ← e]
  exact ⟨fun ⟨x, hx, q⟩ => ((eqv_iff x a (h x hx) ha).mp q) ▸ hx, fun hx => ⟨a, hx, (eqv_iff a a ha ha).mpr rfl⟩⟩
theorem inL {c c' : Nat} {a : D} {xs : List D} (ha : Nice c a) (hb : Nice c' (.list xs)) {p : Prop} [Decidable p] (e : a ∈ xs ↔ p) (l : c ≤ 64 := by decide) (l' : c' ≤ 64 := by decide) : cmpD .isin a (.list xs) = some (decide p) := by
  have tx : ∀ x, x ∈ xs → txtD x = true := by
    have := hb.t
    rw [txtD, txtDs_all] at this
    exact List.all_eq_true.mp this
  have e0 : cmpD .isin a (.list xs) = (if SeqAt.shaped a && SeqAt.shaped (.list xs) then some (xs.any fun x => PyData.eqv x a) else none) := by cases a <;> rfl
  rw [e0, ha.sh l, hb.sh l', any_dec ha.t tx e]
  rfl
theorem notinL {c c' : Nat} {a : D} {xs : List D} (ha : Nice c a) (hb : Nice c' (.list xs)) {p : Prop} [Decidable p] (e : a ∈ xs ↔ p) (l : c ≤ 64 := by decide) (l' : c' ≤ 64 := by decide) : cmpD .notin a (.list xs) = some (!decide p) := by
  have tx : ∀ x, x ∈ xs → txtD x = true := by
    have := hb.t
    rw [txtD, txtDs_all] at this
    exact List.all_eq_true.mp this
  have e0 : cmpD .notin a (.list xs) = (if SeqAt.shaped a && SeqAt.shaped (.list xs) then some (!xs.any fun x => PyData.eqv x a) else none) := by cases a <;> rfl
  rw [e0, ha.sh l, hb.sh l', any_dec ha.t tx e]
  rfl
theorem inT {c c' : Nat} {a : D} {xs : List D} (ha : Nice c a) (hb : Nice c' (.tuple xs)) {p : Prop} [Decidable p] (e : a ∈ xs ↔ p) (l : c ≤ 64 := by decide) (l' : c' ≤ 64 := by decide) : cmpD .isin a (.tuple xs) = some (decide p) := by
  have tx : ∀ x, x ∈ xs → txtD x = true := by
    have := hb.t
    rw [txtD, txtDs_all] at this
    exact List.all_eq_true.mp this
  have e0 : cmpD .isin a (.tuple xs) = (if SeqAt.shaped a && SeqAt.shaped (.tuple xs) then some (xs.any fun x => PyData.eqv x a) else none) := by cases a <;> rfl
  rw [e0, ha.sh l, hb.sh l', any_dec ha.t tx e]
  rfl
theorem notinT {c c' : Nat} {a : D} {xs : List D} (ha : Nice c a) (hb : Nice c' (.tuple xs)) {p : Prop} [Decidable p] (e : a ∈ xs ↔ p) (l : c ≤ 64 := by decide) (l' : c' ≤ 64 := by decide) : cmpD .notin a (.tuple xs) = some (!decide p) := by
  have tx : ∀ x, x ∈ xs → txtD x = true := by
    have := hb.t
    rw [txtD, txtDs_all] at this
    exact List.all_eq_true.mp this
  have e0 : cmpD .notin a (.tuple xs) = (if SeqAt.shaped a && SeqAt.shaped (.tuple xs) then some (!xs.any fun x => PyData.eqv x a) else none) := by cases a <;> rfl
  rw [e0, ha.sh l, hb.sh l', any_dec ha.t tx e]
  rfl
/-! ### names, lots, sayings -/
def Lt : List Str := ["a", "b", "c", "d", "e", "f", "g", "h", "i", "j", "k"]
theorem nice_lt {a : Str} (h : a ∈ Lt) : Nice 0 (.str a) := by
  have e : (Lt.all fun a => plainD (.str a)) = true := by decide +kernel
  exact ⟨List.all_eq_true.mp e a h, rfl, Nat.le_refl _⟩
def tS (l : List Str) : D := .tuple (l.map .str)
theorem str_inj {a b : Str} : (PyData.str a = PyData.str b) ↔ a = b := ⟨fun h => by cases h; rfl, fun h => by rw [h]⟩
theorem mem_strs {a : Str} {l : List Str} : PyData.str a ∈ l.map PyData.str ↔ a ∈ l := by
  rw [List.mem_map]
  exact ⟨fun ⟨b, hb, e⟩ => str_inj.mp e ▸ hb, fun h => ⟨a, h, rfl⟩⟩
theorem strs_inj : ∀ {a b : List Str}, a.map PyData.str = b.map PyData.str → a = b
  | [], [], _ => rfl
  | [], _ :: _, h => by cases h
  | _ :: _, [], h => by cases h
  | x :: a, y :: b, h => by
    rw [List.map_cons, List.map_cons, List.cons.injEq] at h
    rw [str_inj.mp h.1, strs_inj h.2]
theorem tS_inj {a b : List Str} : tS a = tS b ↔ a = b := ⟨fun h => by unfold tS at h; cases a <;> cases b <;> first | rfl | (simp at h; done) | (exact strs_inj (PyData.tuple.inj h)), fun h => by rw [h]⟩
theorem nice_strs {l : List Str} (h : ∀ a, a ∈ l → a ∈ Lt) : ∀ x, x ∈ l.map PyData.str → Nice 0 x := fun x hx => by
  obtain ⟨a, ha, rfl⟩ := List.mem_map.mp hx
  exact nice_lt (h a ha)
theorem nice_tS {l : List Str} (h : ∀ a, a ∈ l → a ∈ Lt) : Nice 1 (tS l) := nice_tup (nice_strs h)
theorem in_tS {a : Str} {l : List Str} (ha : a ∈ Lt) (h : ∀ a, a ∈ l → a ∈ Lt) : cmpD .isin (.str a) (tS l) = some (decide (a ∈ l)) := inT (nice_lt ha) (nice_tS h) mem_strs
theorem notin_tS {a : Str} {l : List Str} (ha : a ∈ Lt) (h : ∀ a, a ∈ l → a ∈ Lt) : cmpD .notin (.str a) (tS l) = some (!decide (a ∈ l)) := notinT (nice_lt ha) (nice_tS h) mem_strs
theorem eq_str {a b : Str} (ha : a ∈ Lt) (hb : b ∈ Lt) : cmpD .eq (.str a) (.str b) = some (decide (a = b)) := eqN (nice_lt ha) (nice_lt hb) str_inj
abbrev Sy := Str × Str × Str
def sD (s : Sy) : D := .tuple [.str s.1, .str s.2.1, .str s.2.2]
def sL (s : Sy) : List Str := [s.1, s.2.1, s.2.2]
theorem sD_tS (s : Sy) : sD s = tS (sL s) := rfl
theorem sD_inj {s s' : Sy} : sD s = sD s' ↔ s = s' := by
  rw [sD_tS, sD_tS, tS_inj]
  obtain ⟨a, b, c⟩ := s
  obtain ⟨a', b', c'⟩ := s'
  simp [sL]
def SyOk (s : Sy) : Prop := s.1 ∈ Lt ∧ s.2.1 ∈ Lt ∧ s.2.2 ∈ Lt
theorem SyOk.lt {s : Sy} (h : SyOk s) : ∀ a, a ∈ sL s → a ∈ Lt := fun a ha => by
  simp only [sL, List.mem_cons, List.not_mem_nil, or_false] at ha
  rcases ha with rfl | rfl | rfl
  · exact h.1
  · exact h.2.1
  · exact h.2.2
theorem nice_sD {s : Sy} (h : SyOk s) : Nice 1 (sD s) := nice_tS h.lt
theorem mem_sDs {s : Sy} {l : List Sy} : sD s ∈ l.map sD ↔ s ∈ l := by
  rw [List.mem_map]
  exact ⟨fun ⟨b, hb, e⟩ => sD_inj.mp e ▸ hb, fun h => ⟨s, h, rfl⟩⟩
theorem nice_sDs {l : List Sy} (h : ∀ s, s ∈ l → SyOk s) : ∀ x, x ∈ l.map sD → Nice 1 x := fun x hx => by
  obtain ⟨a, ha, rfl⟩ := List.mem_map.mp hx
  exact nice_sD (h a ha)
theorem inj_map {α : Type} {f : α → D} (hf : ∀ a b, f a = f b → a = b) : ∀ {l m : List α}, l.map f = m.map f → l = m
  | [], [], _ => rfl
  | [], _ :: _, h => by cases h
  | _ :: _, [], h => by cases h
  | x :: l, y :: m, h => by
    rw [List.map_cons, List.map_cons, List.cons.injEq] at h
    rw [hf x y h.1, inj_map hf h.2]
/-! ### sorts -/
theorem alike_strs : ∀ a b : List Str, PySem.W.alikeAll (a.map .str) (b.map .str) = true
  | [], [] => rfl
  | [], _ :: _ => rfl
  | _ :: _, [] => rfl
  | x :: a, y :: b => by simp [PySem.W.alikeAll, PySem.W.alike, alike_strs a b]
theorem tS_alike (a b : List Str) : PySem.W.alike (tS a) (tS b) = true := by
  unfold tS
  rw [PySem.W.alike]
  exact alike_strs a b
theorem depth_strs : ∀ l : List Str, PyData.depthAll (l.map .str) = 0
  | [] => rfl
  | _ :: l => by simp [PyData.depthAll, PyData.depth, depth_strs l]
theorem tS_depth (a : List Str) : (tS a).depth = 1 := by simp [tS, PyData.depth, depth_strs]
theorem sortOk_by {xs : List D} (al : ∀ a, a ∈ xs → ∀ b, b ∈ xs → PySem.W.alike a b = true) (ne : ∀ a, a ∈ xs → isNeTup a = true) (hl : xs.length ≤ LIM) (hd : ∀ a, a ∈ xs → a.depth ≤ 60) : sortOk xs = true := by
  unfold sortOk
  simp only [Bool.and_eq_true, decide_eq_true_eq, List.all_eq_true, Bool.or_eq_true]
  exact ⟨⟨⟨fun a ha b hb => al a ha b hb, .inl ne⟩, hl⟩, hd⟩
theorem tSs_sortOk {G : List (List Str)} (ne : ∀ g, g ∈ G → g ≠ []) (hl : G.length ≤ LIM) : sortOk (G.map tS) = true := by
  refine sortOk_by (fun a ha b hb => ?_) (fun a ha => ?_) (by rw [List.length_map]; exact hl) fun a ha => ?_
  · obtain ⟨x, _, rfl⟩ := List.mem_map.mp ha
    obtain ⟨y, _, rfl⟩ := List.mem_map.mp hb
    exact tS_alike x y
  · obtain ⟨x, hx, rfl⟩ := List.mem_map.mp ha
    cases x with
    | nil => exact absurd rfl (ne _ hx)
    | cons y r => rfl
  · obtain ⟨x, _, rfl⟩ := List.mem_map.mp ha
    rw [tS_depth]
    decide
theorem sDs_sortOk {l : List Sy} (hl : l.length ≤ LIM) : sortOk (l.map sD) = true := by
  have e : l.map sD = (l.map sL).map tS := by rw [List.map_map]; rfl
  rw [e]
  refine tSs_sortOk (fun g hg => ?_) (by rw [List.length_map]; exact hl)
  obtain ⟨s, _, rfl⟩ := List.mem_map.mp hg
  exact List.cons_ne_nil _ _
theorem sortD_perm (l : List D) : (sortD l).Perm l := by
  rw [sortD_eq]
  exact List.mergeSort_perm l _
theorem sortD_len (l : List D) : (sortD l).length = l.length := (sortD_perm l).length_eq
theorem isort_id {α : Type} {le : α → α → Bool} : ∀ {l : List α}, l.Pairwise (fun a b => le a b = true) → isort le l = l
  | [], _ => rfl
  | x :: xs, h => by
    rw [List.pairwise_cons] at h
    show ins le x (isort le xs) = _
    rw [isort_id h.2]
    exact ins_split (l1 := []) (fun b hb => by cases hb) h.1
abbrev leD (a b : D) : Bool := PySem.W.dataLe false (fun d => d) a b
theorem sortD_id {l : List D} (h : l.Pairwise fun a b => leD a b = true) : sortD l = l := isort_id h
/-- sorted, of what has the same members -/
theorem sortD_to {l m : List D} (pm : l.Perm m) (al : PySem.W.AllAlike l) (tx : ∀ x, x ∈ l → txtD x = true) (h : m.Pairwise fun a b => leD a b = true) : sortD l = m := by
  rw [sort_perm_eq pm al fun x hx y hy e => (eqv_iff x y (tx x hx) (tx y hy)).mp e, sortD_id h]
def pwB (le : D → D → Bool) : List D → Bool
  | [] => true
  | x :: xs => xs.all (le x) && pwB le xs
theorem pwB_ok {le : D → D → Bool} : ∀ {l : List D}, pwB le l = true → l.Pairwise fun a b => le a b = true
  | [], _ => .nil
  | x :: xs, h => by
    rw [pwB, Bool.and_eq_true] at h
    exact List.pairwise_cons.mpr ⟨List.all_eq_true.mp h.1, pwB_ok h.2⟩
theorem dedup_len : ∀ l : List D, (dedup l).length ≤ l.length
  | [] => Nat.le_refl _
  | x :: l => by
    unfold dedup
    have := dedup_len l
    split
    · rw [List.length_cons]; omega
    · rw [List.length_cons, List.length_cons]; omega
theorem dedup_txt {l : List D} (tx : ∀ x, x ∈ l → txtD x = true) : (∀ z, z ∈ dedup l ↔ z ∈ l) ∧ (dedup l).Nodup := dedup_mem (fun x hx y hy e => (eqv_iff x y (tx x hx) (tx y hy)).mp e) fun x hx => (eqv_iff x x (tx x hx) (tx x hx)).mpr rfl
theorem areKeys_strs : ∀ l : List Str, areKeysD (l.map .str) = true
  | [] => rfl
  | x :: l => by rw [List.map_cons, areKeysD, areKeys_strs l]; rfl
theorem tS_setKey (l : List Str) : setKey (tS l) = true := by
  unfold tS
  rw [setKey, areKeys_strs]
  have : (PyData.tuple (l.map .str)).depth = 1 := tS_depth l
  rw [this]
  rfl
end Mn
set_option Elab.async false
set_option linter.all false
set_option maxRecDepth 100000
set_option maxHeartbeats 1000000
namespace Mn
open PySem
/-! ## threes and sayings of things -/
def before (a b : Str) : Bool := PySem.W.dataLt (.str a) (.str b)
def sayAll (l : List Str) : List Sy := l.flatMap fun a => l.flatMap fun b => l.filterMap fun c => if before a b && !(decide (c = a) || decide (c = b)) then some (a, b, c) else none
def pairs2 : List Str → List (Str × Str)
  | [] => []
  | b :: r => r.map (fun c => (b, c)) ++ pairs2 r
def thr : List Str → List Sy
  | [] => []
  | a :: r => (pairs2 r).map (fun p => (a, p.1, p.2)) ++ thr r
def threeSay (t : Sy) : List Sy := [(t.1, t.2.1, t.2.2), (t.1, t.2.2, t.2.1), (t.2.1, t.2.2, t.1)]
/-- texts sorted, so that the kernel reckons -/
def sortI (l : List Str) : List Str := isort (PySem.W.dataLe false PyData.str) l
theorem sortI_eq (l : List Str) : sortI l = sortS l := isort_leD PyData.str l
theorem mem_sayAll {l : List Str} {s : Sy} : s ∈ sayAll l ↔ s.1 ∈ l ∧ s.2.1 ∈ l ∧ s.2.2 ∈ l ∧ before s.1 s.2.1 = true ∧ s.2.2 ≠ s.1 ∧ s.2.2 ≠ s.2.1 := by
  obtain ⟨a, b, c⟩ := s
  unfold sayAll
  simp only [List.mem_flatMap, List.mem_filterMap]
  constructor
  · rintro ⟨x, hx, y, hy, z, hz, e⟩
    split at e
    · rename_i q
      cases e
      simp only [Bool.and_eq_true, Bool.not_eq_true', Bool.or_eq_false_iff, decide_eq_false_iff_not] at q
      exact ⟨hx, hy, hz, q.1, q.2.1, q.2.2⟩
    · cases e
  · rintro ⟨h1, h2, h3, h4, h5, h6⟩
    refine ⟨a, h1, b, h2, c, h3, ?_⟩
    have h4' : before a b = true := h4
    have h5' : c ≠ a := h5
    have h6' : c ≠ b := h6
    simp [h4', h5', h6']
/-- what is asked of a list of things -/
structure ThOk (l : List Str) : Prop where
  lt : ∀ a, a ∈ l → a ∈ Lt
  nod : l.Nodup
  tot : ∀ a, a ∈ l → ∀ b, b ∈ l → a ≠ b → before a b = true ∨ before b a = true
  f1 : ∀ t, t ∈ thr l → ∀ s, s ∈ threeSay t → s ∈ sayAll l
  f2 : ∀ s, s ∈ sayAll l → ∃ t, t ∈ thr l ∧ s ∈ threeSay t
  f3 : ∀ s, s ∈ sayAll l → ∀ t, t ∈ thr l → (sortI (sL s) = sL t ↔ s ∈ threeSay t)
  f4 : (thr l).Nodup
  f5 : (sayAll l).Nodup
  f6 : ((sayAll l).map sD).Pairwise fun a b => leD a b = true
  f7 : (sayAll l).length ≤ 60 ∧ (thr l).length ≤ 20
  f8 : sortI l = l
  f9 : l.length ≤ 6
def thB (l : List Str) : Bool := (l.all fun a => decide (a ∈ Lt)) && decide l.Nodup && (l.all fun a => l.all fun b => decide (a = b) || before a b || before b a) && ((thr l).all fun t => (threeSay t).all fun s => decide (s ∈ sayAll l)) && ((sayAll l).all fun s => (thr l).any fun t => decide (s ∈ threeSay t)) &&
  ((sayAll l).all fun s => (thr l).all fun t => decide (sortI (sL s) = sL t) == decide (s ∈ threeSay t)) && decide (thr l).Nodup && decide (sayAll l).Nodup && pwB leD ((sayAll l).map sD) && decide ((sayAll l).length ≤ 60) && decide ((thr l).length ≤ 20) && decide (sortI l = l) && decide (l.length ≤ 6)
theorem thB_ok {l : List Str} (h : thB l = true) : ThOk l := by
  unfold thB at h
  simp only [Bool.and_eq_true, List.all_eq_true, decide_eq_true_eq, List.any_eq_true, Bool.or_eq_true, beq_iff_eq] at h
  obtain ⟨⟨⟨⟨⟨⟨⟨⟨⟨⟨⟨⟨h1, h2⟩, h3⟩, h4⟩, h5⟩, h6⟩, h7⟩, h8⟩, h9⟩, h10⟩, h11⟩, h12⟩, h13⟩ := h
  refine ⟨h1, h2, fun a ha b hb ne => ?_, h4, fun s hs => ?_, fun s hs t ht => ?_, h7, h8, pwB_ok h9, ⟨h10, h11⟩, h12, h13⟩
  · rcases h3 a ha b hb with (z | z) | z
    · exact absurd z ne
    · exact .inl z
    · exact .inr z
  · exact h5 s hs
  · have := h6 s hs t ht
    constructor
    · intro z
      rw [decide_eq_true z] at this
      exact of_decide_eq_true this.symm
    · intro z
      rw [decide_eq_true z] at this
      exact of_decide_eq_true this
theorem th_take {k : Nat} (h1 : 3 ≤ k) (h2 : k ≤ 6) : ThOk (Lt.take k) := by
  refine thB_ok ?_
  have : k = 3 ∨ k = 4 ∨ k = 5 ∨ k = 6 := by omega
  rcases this with rfl | rfl | rfl | rfl <;> decide +kernel
/-! ### what holds of at most one of each three -/
def sayIn (h : Sy → Bool) (t : Sy) : Option Sy := (threeSay t).find? h
structure OneOk (l : List Str) (h : Sy → Bool) : Prop where
  one : ∀ t, t ∈ thr l → ∀ s, s ∈ threeSay t → ∀ s', s' ∈ threeSay t → h s = true → h s' = true → s = s'
section
variable {l : List Str} {h : Sy → Bool}
theorem sayIn_some {t s : Sy} (O : OneOk l h) (ht : t ∈ thr l) : sayIn h t = some s ↔ s ∈ threeSay t ∧ h s = true := by
  unfold sayIn
  constructor
  · intro e
    exact ⟨List.mem_of_find?_eq_some e, List.find?_some e⟩
  · rintro ⟨hs, hh⟩
    cases q : (threeSay t).find? h with
    | none => exact absurd hh (by simpa using List.find?_eq_none.mp q s hs)
    | some s' => rw [O.one t ht s' (List.mem_of_find?_eq_some q) s hs (List.find?_some q) hh]
theorem its_perm (T : ThOk l) (O : OneOk l h) : ((thr l).filterMap (sayIn h)).Perm ((sayAll l).filter h) := by
  refine (List.perm_ext_iff_of_nodup ?_ (T.f5.filter _)).mpr fun s => ?_
  · -- unlike threes, unlike sayings
    have go : ∀ {ts : List Sy}, (∀ t, t ∈ ts → t ∈ thr l) → ts.Nodup → (ts.filterMap (sayIn h)).Nodup := by
      intro ts
      induction ts with
      | nil => exact fun _ _ => List.nodup_nil
      | cons t ts ih =>
        intro m nd
        rw [List.nodup_cons] at nd
        have r := ih (fun t' ht' => m t' (List.mem_cons_of_mem _ ht')) nd.2
        cases q : sayIn h t with
        | none => rw [List.filterMap_cons_none q]; exact r
        | some s =>
          rw [List.filterMap_cons_some q]
          refine List.nodup_cons.mpr ⟨fun hs => ?_, r⟩
          obtain ⟨t', ht', e⟩ := List.mem_filterMap.mp hs
          have m1 := m t List.mem_cons_self
          have m2 := m t' (List.mem_cons_of_mem _ ht')
          have a1 := ((sayIn_some O m1).mp q).1
          have a2 := ((sayIn_some O m2).mp e).1
          have z1 := (T.f3 s (T.f1 t m1 s a1) t m1).mpr a1
          have z2 := (T.f3 s (T.f1 t m1 s a1) t' m2).mpr a2
          have : sD t = sD t' := by rw [sD_tS, sD_tS, ← z1, ← z2]
          rw [sD_inj] at this
          exact nd.1 (this ▸ ht')
    exact go (fun _ h => h) T.f4
  · rw [List.mem_filterMap, List.mem_filter]
    constructor
    · rintro ⟨t, ht, e⟩
      obtain ⟨a, b⟩ := (sayIn_some O ht).mp e
      exact ⟨T.f1 t ht s a, b⟩
    · rintro ⟨hs, hh⟩
      obtain ⟨t, ht, m⟩ := T.f2 s hs
      exact ⟨t, ht, (sayIn_some O ht).mpr ⟨m, hh⟩⟩
theorem filterMap_len {α β : Type} (f : α → Option β) : ∀ l : List α, (l.filterMap f).length + (l.filter fun x => (f x).isNone).length = l.length
  | [] => rfl
  | x :: l => by
    have := filterMap_len f l
    cases q : f x with
    | none =>
      rw [List.filterMap_cons_none q, List.filter_cons_of_pos (by rw [q]; rfl), List.length_cons, List.length_cons]
      omega
    | some y =>
      rw [List.filterMap_cons_some q, List.filter_cons_of_neg (by rw [q]; exact Bool.false_ne_true), List.length_cons, List.length_cons]
      omega
/-- of a three, what is had -/
theorem its_three (T : ThOk l) (O : OneOk l h) {t : Sy} (ht : t ∈ thr l) : ((sayAll l).filter h).filter (fun s => decide (sortI (sL s) = sL t)) = (sayIn h t).toList := by
  have nd : (((sayAll l).filter h).filter (fun s => decide (sortI (sL s) = sL t))).Nodup := (T.f5.filter _).filter _
  have mem : ∀ s, s ∈ ((sayAll l).filter h).filter (fun s => decide (sortI (sL s) = sL t)) ↔ sayIn h t = some s := fun s => by
    rw [List.mem_filter, List.mem_filter, decide_eq_true_iff, sayIn_some O ht]
    constructor
    · rintro ⟨⟨a, b⟩, c⟩
      exact ⟨(T.f3 s a t ht).mp c, b⟩
    · rintro ⟨a, b⟩
      have m := T.f1 t ht s a
      exact ⟨⟨m, b⟩, (T.f3 s m t ht).mpr a⟩
  cases q : sayIn h t with
  | none =>
    refine List.eq_nil_iff_forall_not_mem.mpr fun s hs => ?_
    rw [mem, q] at hs
    cases hs
  | some s =>
    generalize ((sayAll l).filter h).filter (fun s => decide (sortI (sL s) = sL t)) = xs at nd mem
    have ms : s ∈ xs := (mem s).mpr q
    have all : ∀ x, x ∈ xs → x = s := fun x hx => by
      have := (mem x).mp hx
      rw [q] at this
      exact (Option.some.inj this).symm
    match xs, ms, all, nd with
    | [x], _, all, _ => rw [all x List.mem_cons_self]; rfl
    | x :: y :: r, _, all, nd =>
      rw [List.nodup_cons] at nd
      exact absurd (by rw [all x List.mem_cons_self, all y (List.mem_cons_of_mem _ List.mem_cons_self)]; exact List.mem_cons_self) nd.1
end
/-! ### a tree's sayings -/
def hasS (t : Tr) (s : Sy) : Bool := t.has s.1 s.2.1 s.2.2
theorem tr_one {l : List Str} {t : Tr} (nd : t.leaves.Nodup) : OneOk l (hasS t) := ⟨fun u _ s hs s' hs' h h' => by
  obtain ⟨x, y, z⟩ := u
  simp only [threeSay, List.mem_cons, List.not_mem_nil, or_false] at hs hs'
  unfold hasS at h h'
  rcases hs with rfl | rfl | rfl <;> rcases hs' with rfl | rfl | rfl
  · rfl
  · exact (Tr.has_one nd h h').elim
  · rw [Tr.has_comm] at h
    exact (Tr.has_one nd h h').elim
  · exact (Tr.has_one nd h' h).elim
  · rfl
  · rw [Tr.has_comm] at h h'
    exact (Tr.has_one nd h h').elim
  · rw [Tr.has_comm] at h'
    exact (Tr.has_one nd h' h).elim
  · rw [Tr.has_comm] at h h'
    exact (Tr.has_one nd h' h).elim
  · rfl⟩
/-- a tree over things -/
structure TrOk (l : List Str) (t : Tr) : Prop where
  ok : t.Ok
  pm : t.leaves.Perm l
theorem leaf_part : ∀ (t : Tr) {x : Str}, x ∈ t.leaves → Tr.leaf x ∈ t.parts
  | .leaf s, x, h => by
    rw [Tr.leaves, List.mem_singleton] at h
    rw [h, Tr.parts]
    exact List.mem_singleton_self _
  | .node ts, x, h => by
    rw [Tr.leaves_node] at h
    obtain ⟨u, hu, hx⟩ := List.mem_flatMap.mp h
    rw [Tr.parts_node]
    have := Tr.size_mem hu
    exact List.mem_cons_of_mem _ (List.mem_flatMap.mpr ⟨u, hu, leaf_part u hx⟩)
termination_by t => sizeOf t
theorem has_off {t : Tr} {a b c : Str} (h : c = a ∨ c = b) : t.has a b c = false := by
  cases q : t.has a b c with
  | false => rfl
  | true =>
    obtain ⟨p, _, h1, h2, h3⟩ := Tr.has_iff.mp q
    rcases h with rfl | rfl
    · exact absurd h1 h3
    · exact absurd h2 h3
theorem has_same {t : Tr} {a c : Str} (ha : a ∈ t.leaves) (h : c ≠ a) : t.has a a c = true :=
  Tr.has_iff.mpr ⟨.leaf a, leaf_part t ha, by rw [Tr.leaves]; exact List.mem_singleton_self _, by rw [Tr.leaves]; exact List.mem_singleton_self _, by rw [Tr.leaves, List.mem_singleton]; exact h⟩
theorem tr_same {l : List Str} (T : ThOk l) {t u : Tr} (ht : TrOk l t) (hu : TrOk l u) : (sayAll l).filter (hasS t) = (sayAll l).filter (hasS u) ↔ t = u := by
  constructor
  · intro e
    have mt : ∀ x, x ∈ t.leaves ↔ x ∈ l := fun x => ht.pm.mem_iff
    have mu : ∀ x, x ∈ u.leaves ↔ x ∈ l := fun x => hu.pm.mem_iff
    have key : ∀ s, s ∈ sayAll l → hasS t s = hasS u s := fun s hs => by
      have := congrArg (fun xs => s ∈ xs) e
      simp only [List.mem_filter, hs, true_and] at this
      exact Bool.eq_iff_iff.mpr (iff_of_eq this)
    refine Tr.inj t u ht.ok hu.ok (ht.pm.nodup_iff.mpr T.nod) (hu.pm.nodup_iff.mpr T.nod) (fun x => (mt x).trans (mu x).symm) fun a b c ha hb hc => ?_
    by_cases h1 : c = a
    · rw [has_off (.inl h1), has_off (.inl h1)]
    · by_cases h2 : c = b
      · rw [has_off (.inr h2), has_off (.inr h2)]
      · by_cases h3 : a = b
        · subst h3
          rw [has_same ha h1, has_same ((mu a).mpr ((mt a).mp ha)) h1]
        · rw [mt] at ha hb hc
          rcases T.tot a ha b hb h3 with z | z
          · exact key (a, b, c) (mem_sayAll.mpr ⟨ha, hb, hc, z, h1, h2⟩)
          · rw [Tr.has_comm t, Tr.has_comm u]
            exact key (b, a, c) (mem_sayAll.mpr ⟨hb, ha, hc, z, h2, h1⟩)
  · rintro rfl
    rfl
end Mn
set_option Elab.async false
set_option linter.all false
set_option maxRecDepth 100000
set_option maxHeartbeats 1000000
namespace Mn
open PySem
namespace Tr
theorem parts_ok : ∀ (t : Tr), Ok t → ∀ {p : Tr}, p ∈ parts t → Ok p
  | .leaf s, h, p, hp => by
    rw [parts, List.mem_singleton] at hp
    rw [hp]; exact h
  | .node ts, h, p, hp => by
    have h' := ok_node.mp h
    rw [parts_node] at hp
    rcases List.mem_cons.mp hp with e | hp
    · rw [e]; exact h
    · obtain ⟨u, hu, hpu⟩ := List.mem_flatMap.mp hp
      have := size_mem hu
      exact parts_ok u (h'.2.2 u hu) hpu
termination_by t => sizeOf t
theorem flat_sub {α β : Type} {f : α → List β} : ∀ {ts : List α} {u : α}, u ∈ ts → (f u).Sublist (ts.flatMap f)
  | k :: ts, u, h => by
    rw [List.flatMap_cons]
    rcases List.mem_cons.mp h with e | m
    · rw [e]; exact List.sublist_append_left _ _
    · exact (flat_sub m).trans (List.sublist_append_right _ _)
theorem parts_sublist : ∀ (t : Tr) {p : Tr}, p ∈ parts t → (leaves p).Sublist (leaves t)
  | .leaf s, p, hp => by
    rw [parts, List.mem_singleton] at hp
    rw [hp]
    exact List.Sublist.refl _
  | .node ts, p, hp => by
    rw [parts_node] at hp
    rcases List.mem_cons.mp hp with e | hp
    · rw [e]
      exact List.Sublist.refl _
    · obtain ⟨u, hu, hpu⟩ := List.mem_flatMap.mp hp
      have := size_mem hu
      rw [leaves_node]
      exact (parts_sublist u hpu).trans (flat_sub hu)
termination_by t => sizeOf t
theorem flat_len {α β γ : Type} {f : α → List β} {g : α → List γ} : ∀ {ts : List α}, (∀ u, u ∈ ts → (f u).length + 1 ≤ 2 * (g u).length) → (ts.flatMap f).length + ts.length ≤ 2 * (ts.flatMap g).length
  | [], _ => by simp
  | u :: ts, h => by
    have h1 := h u List.mem_cons_self
    have h2 := flat_len (f := f) (g := g) (ts := ts) fun v hv => h v (List.mem_cons_of_mem _ hv)
    rw [List.flatMap_cons, List.flatMap_cons, List.length_append, List.length_append, List.length_cons]
    omega
theorem parts_len : ∀ (t : Tr), Ok t → (parts t).length + 1 ≤ 2 * (leaves t).length
  | .leaf s, _ => by rw [parts, leaves]; exact Nat.le_refl _
  | .node ts, h => by
    have h' := ok_node.mp h
    have := flat_len (f := parts) (g := leaves) (ts := ts) fun u hu => by
      have := size_mem hu
      exact parts_len u (h'.2.2 u hu)
    rw [parts_node, leaves_node, List.length_cons]
    omega
termination_by t => sizeOf t
theorem leaf_pos {t : Tr} (h : Ok t) : 1 ≤ (leaves t).length := List.length_pos_iff.mpr (ok_ne t h)
/-- a child has fewer things -/
theorem child_lt {ts : List Tr} (h : Ok (.node ts)) {u : Tr} (hu : u ∈ ts) : (leaves u).length < (leaves (.node ts)).length := by
  have h' := ok_node.mp h
  obtain ⟨l1, l2, rfl⟩ := List.append_of_mem hu
  rw [leaves_node, List.flatMap_append, List.flatMap_cons, List.length_append, List.length_append]
  have h2 := h'.1
  rw [List.length_append, List.length_cons] at h2
  rcases l1 with _ | ⟨v, l1⟩
  · rcases l2 with _ | ⟨v, l2⟩
    · simp at h2
    · have := leaf_pos (h'.2.2 v (by simp))
      rw [List.flatMap_cons, List.length_append]
      omega
  · have := leaf_pos (h'.2.2 v (by simp))
    rw [List.flatMap_cons, List.length_append]
    omega
theorem dat_depth : ∀ (t : Tr), Ok t → (dat t).depth + 1 ≤ (leaves t).length
  | .leaf s, _ => by rw [dat, leaves]; exact Nat.le_refl _
  | .node ts, h => by
    have h' := ok_node.mp h
    rw [dat_node, PyData.depth]
    have : PyData.depthAll (ts.map dat) ≤ (leaves (.node ts)).length - 2 := depthAll_le fun x hx => by
      obtain ⟨u, hu, rfl⟩ := List.mem_map.mp hx
      have := size_mem hu
      have h1 := dat_depth u (h'.2.2 u hu)
      have h2 := child_lt h hu
      omega
    match ts, h'.1 with
    | u :: r, _ =>
      have h2 := child_lt h (u := u) List.mem_cons_self
      have h3 := leaf_pos (h'.2.2 u List.mem_cons_self)
      omega
termination_by t => sizeOf t
def nm : Tr → Option Str
  | .leaf s => some s
  | .node _ => none
theorem parts_names : ∀ (t : Tr), (parts t).filterMap nm = leaves t
  | .leaf s => by rw [parts, leaves]; rfl
  | .node ts => by
    rw [parts_node, leaves_node, List.filterMap_cons_none rfl]
    have go : ∀ {us : List Tr}, (∀ u, u ∈ us → (parts u).filterMap nm = leaves u) → (us.flatMap parts).filterMap nm = us.flatMap leaves := by
      intro us
      induction us with
      | nil => exact fun _ => rfl
      | cons u us ih =>
        intro h
        rw [List.flatMap_cons, List.flatMap_cons, List.filterMap_append, h u List.mem_cons_self, ih fun v hv => h v (List.mem_cons_of_mem _ hv)]
    exact go fun u hu => by
      have := size_mem hu
      exact parts_names u
termination_by t => sizeOf t
theorem dat_inj : ∀ (t u : Tr), dat t = dat u → t = u
  | .leaf s, .leaf s', h => by rw [dat, dat] at h; cases h; rfl
  | .leaf s, .node us, h => by rw [dat, dat_node] at h; cases h
  | .node ts, .leaf s, h => by rw [dat, dat_node] at h; cases h
  | .node ts, .node us, h => by
    rw [dat_node, dat_node] at h
    have h' := PyData.tuple.inj h
    congr 1
    have go : ∀ {ts us : List Tr}, (∀ t, t ∈ ts → ∀ u, dat t = dat u → t = u) → ts.map dat = us.map dat → ts = us := by
      intro ts
      induction ts with
      | nil => intro us _ e; cases us with
        | nil => rfl
        | cons _ _ => cases e
      | cons t ts ih => intro us i e; cases us with
        | nil => cases e
        | cons u us =>
          rw [List.map_cons, List.map_cons, List.cons.injEq] at e
          rw [i t List.mem_cons_self u e.1, ih (fun v hv => i v (List.mem_cons_of_mem _ hv)) e.2]
    exact go (fun t ht u e => by
      have := size_mem ht
      exact dat_inj t u e) h'
termination_by t => sizeOf t
end Tr
/-- a small tree of known names -/
structure TrS (t : Tr) : Prop where
  ok : t.Ok
  lt : ∀ x, x ∈ t.leaves → x ∈ Lt
  len : t.leaves.length ≤ 8
theorem TrS.part {t p : Tr} (h : TrS t) (hp : p ∈ t.parts) : TrS p := ⟨Tr.parts_ok t h.ok hp, fun x hx => h.lt x (Tr.parts_sub t hp hx), Nat.le_trans (Tr.parts_sublist t hp).length_le h.len⟩
theorem TrS.child {ts : List Tr} (h : TrS (.node ts)) {u : Tr} (hu : u ∈ ts) : TrS u := h.part (by rw [Tr.parts_node]; exact List.mem_cons_of_mem _ (List.mem_flatMap.mpr ⟨u, hu, Tr.mem_self u⟩))
theorem TrS.plain : ∀ (t : Tr), TrS t → plainD t.dat = true ∧ txtD t.dat = true
  | .leaf s, h => by
    have := nice_lt (h.lt s (by rw [Tr.leaves]; exact List.mem_singleton_self _))
    rw [Tr.dat]
    exact ⟨this.p, this.t⟩
  | .node ts, h => by
    rw [Tr.dat_node]
    have all : ∀ x, x ∈ ts.map Tr.dat → plainD x = true ∧ txtD x = true := fun x hx => by
      obtain ⟨u, hu, rfl⟩ := List.mem_map.mp hx
      have := Tr.size_mem hu
      exact TrS.plain u (h.child hu)
    rw [plainD, plainDs_all, txtD, txtDs_all]
    exact ⟨List.all_eq_true.mpr fun x hx => (all x hx).1, List.all_eq_true.mpr fun x hx => (all x hx).2⟩
termination_by t => sizeOf t
theorem TrS.nice {t : Tr} (h : TrS t) : Nice 8 t.dat := ⟨(TrS.plain t h).1, (TrS.plain t h).2, by have := Tr.dat_depth t h.ok; have := h.len; omega⟩
theorem TrS.parts_le {t : Tr} (h : TrS t) : t.parts.length ≤ 15 := by
  have := Tr.parts_len t h.ok
  have := h.len
  omega
theorem TrOk.s {l : List Str} {t : Tr} (T : ThOk l) (h : TrOk l t) : TrS t := ⟨h.ok, fun x hx => T.lt x (h.pm.mem_iff.mp hx), by rw [h.pm.length_eq]; exact Nat.le_trans T.f9 (by decide)⟩
theorem TrOk.nd {l : List Str} {t : Tr} (T : ThOk l) (h : TrOk l t) : t.leaves.Nodup := h.pm.nodup_iff.mpr T.nod
/-- its lots, in the order of its parts -/
def lotsT (t : Tr) : List (List Str) := t.parts.map fun p => sortS p.leaves
def hadIn (G : List (List Str)) (s : Sy) : Bool := G.any fun l => decide (s.1 ∈ l) && (decide (s.2.1 ∈ l) && !decide (s.2.2 ∈ l))
theorem had_lots {t : Tr} {G : List (List Str)} (h : ∀ l, l ∈ G ↔ l ∈ lotsT t) (s : Sy) : hadIn G s = hasS t s := by
  unfold hadIn hasS
  rw [Bool.eq_iff_iff, List.any_eq_true, Tr.has_iff]
  constructor
  · rintro ⟨l, hl, q⟩
    rw [h] at hl
    obtain ⟨p, hp, rfl⟩ := List.mem_map.mp hl
    simp only [Bool.and_eq_true, decide_eq_true_eq, Bool.not_eq_true', decide_eq_false_iff_not, sortS_mem] at q
    exact ⟨p, hp, q.1, q.2.1, q.2.2⟩
  · rintro ⟨p, hp, h1, h2, h3⟩
    refine ⟨sortS p.leaves, (h _).mpr (List.mem_map_of_mem hp), ?_⟩
    simp only [Bool.and_eq_true, decide_eq_true_eq, Bool.not_eq_true', decide_eq_false_iff_not, sortS_mem]
    exact ⟨h1, h2, h3⟩
theorem lot_lt {t : Tr} (h : TrS t) {l : List Str} (hl : l ∈ lotsT t) : (∀ a, a ∈ l → a ∈ Lt) ∧ l.length ≤ 8 := by
  obtain ⟨p, hp, rfl⟩ := List.mem_map.mp hl
  have := h.part hp
  exact ⟨fun a ha => this.lt a (sortS_mem.mp ha), by rw [(sortS_perm _).length_eq]; exact this.len⟩
theorem srt_strs (k : List Str) (hk : k.length ≤ LIM) (g : Bool) : bltD g .sorted [.list (k.map .str)] = some (.fresh ((sortS k).map .str)) := by
  show (if _ then some (R.fresh (sortD _)) else none) = _
  rw [sortOk_strs hk, sortD_strs]
  rfl
theorem keysBy_map {call : List W → CRes} {f : D → D} : ∀ {xs : List D}, (∀ x, x ∈ xs → call [.d x] = .ret (.d (f x)) none) → keysBy call xs = some (xs.map f)
  | [], _ => rfl
  | x :: xs, h => by
    unfold keysBy
    rw [h x List.mem_cons_self, keysBy_map fun y hy => h y (List.mem_cons_of_mem _ hy)]
    rfl
def lkD (x : D) : D := match x with
  | .tuple xs => .tuple [.int xs.length, .tuple xs]
  | _ => .none
theorem lkD_tS (l : List Str) : lkD (tS l) = .tuple [.int l.length, tS l] := by simp [lkD, tS]
theorem noList_strs : ∀ l : List Str, noListsD (l.map .str) = true
  | [] => rfl
  | x :: l => by rw [List.map_cons, noListsD, noList_strs l]; rfl
theorem lks_ok {G : List (List Str)} (hl : G.length ≤ LIM) : (sortOk ((G.map tS).map lkD) && noListsD ((G.map tS).map lkD)) = true := by
  have e : (G.map tS).map lkD = G.map fun l => .tuple [.int l.length, tS l] := by
    rw [List.map_map]
    exact List.map_congr_left fun l _ => lkD_tS l
  rw [e, Bool.and_eq_true]
  constructor
  · refine sortOk_by (fun a ha b hb => ?_) (fun a ha => ?_) (by rw [List.length_map]; exact hl) fun a ha => ?_
    · obtain ⟨x, _, rfl⟩ := List.mem_map.mp ha
      obtain ⟨y, _, rfl⟩ := List.mem_map.mp hb
      have := tS_alike x y
      simp [PySem.W.alike, PySem.W.alikeAll, this]
    · obtain ⟨x, _, rfl⟩ := List.mem_map.mp ha
      rfl
    · obtain ⟨x, _, rfl⟩ := List.mem_map.mp ha
      have := tS_depth x
      simp [PyData.depth, PyData.depthAll, this]
  · clear hl e
    induction G with
    | nil => rfl
    | cons l G ih =>
      rw [List.map_cons, noListsD, ih]
      simp only [noListD, noListsD, tS, noList_strs]
      rfl
theorem sortByK_perm {xs ks : List D} (h : xs.length = ks.length) : (sortByK xs ks).Perm xs := by
  rw [sortByK_eq]
  have := ((List.mergeSort_perm (xs.zip ks) (PySem.W.dataLe false fun p => p.2)).map (·.1))
  rwa [List.map_fst_zip (by omega)] at this
theorem e_iteT {Γ : Ctx} {c : C} {a b : E} {ρ ρ1 : Env} {z : Res (R × Env)} (h : evC Γ c ρ = .ok (true, ρ1)) (h2 : evE Γ a ρ1 = z) : evE Γ (.ite c a b) ρ = z := e_ite h h2
theorem e_iteF {Γ : Ctx} {c : C} {a b : E} {ρ ρ1 : Env} {z : Res (R × Env)} (h : evC Γ c ρ = .ok (false, ρ1)) (h2 : evE Γ b ρ1 = z) : evE Γ (.ite c a b) ρ = z := e_ite h h2
theorem eq_nil {c : Nat} {xs : List D} (h : Nice c (.list xs)) (l : c ≤ 64 := by decide) : cmpD .eq (.list xs) (.list []) = some xs.isEmpty := by
  have := eqN (p := xs = []) h (nice_list (c := 0) (xs := []) fun x hx => by cases hx) ⟨(fun h => by cases h; rfl), (fun h => by rw [h])⟩ l
  rw [this]
  cases xs <;> rfl
theorem ne_nil {c : Nat} {xs : List D} (h : Nice c (.list xs)) (l : c ≤ 64 := by decide) : cmpD .ne (.list xs) (.list []) = some (!xs.isEmpty) := by
  have := neN (p := xs = []) h (nice_list (c := 0) (xs := []) fun x hx => by cases hx) ⟨(fun h => by cases h; rfl), (fun h => by rw [h])⟩ l
  rw [this]
  cases xs <;> rfl
end Mn
set_option Elab.async false
set_option linter.all false
set_option maxRecDepth 100000
set_option maxHeartbeats 1000000
namespace Mn
open PySem
/-- comprehensions over data of a kind -/
theorem lcf {α : Type} (enc : α → D) {f : D → Env → Res (Option D × Env)} {ρ : Env} (p : α → Bool) : ∀ {l : List α} {acc : List D}, (∀ s, s ∈ l → f (enc s) ρ = .ok (if p s then some (enc s) else none, ρ)) → acc.length + l.length ≤ LIM → lcLoop f (l.map enc) acc ρ = .ok (acc ++ (l.filter p).map enc, ρ)
  | [], acc, _, _ => by simp [lcLoop]
  | s :: l, acc, h, hl => by
    rw [List.length_cons] at hl
    have hs := h s List.mem_cons_self
    have hr := fun y hy => h y (List.mem_cons_of_mem _ hy)
    rw [List.map_cons]
    cases q : p s with
    | true =>
      rw [q] at hs
      simp only [lcLoop, hs, if_true]
      rw [if_pos (by omega), lcf enc p hr (by rw [List.length_append, List.length_singleton]; omega), List.filter_cons_of_pos q, List.map_cons, List.append_assoc]
      rfl
    | false =>
      rw [q] at hs
      simp only [lcLoop, hs, Bool.false_eq_true, if_false]
      rw [lcf enc p hr (by omega), List.filter_cons_of_neg (by rw [q]; exact Bool.false_ne_true)]
theorem lcm {α : Type} (enc : α → D) (g : α → D) {f : D → Env → Res (Option D × Env)} {ρ : Env} : ∀ {l : List α} {acc : List D}, (∀ s, s ∈ l → f (enc s) ρ = .ok (some (g s), ρ)) → acc.length + l.length ≤ LIM → lcLoop f (l.map enc) acc ρ = .ok (acc ++ l.map g, ρ)
  | [], acc, _, _ => by simp [lcLoop]
  | s :: l, acc, h, hl => by
    rw [List.length_cons] at hl
    have hs := h s List.mem_cons_self
    have hr := fun y hy => h y (List.mem_cons_of_mem _ hy)
    rw [List.map_cons]
    simp only [lcLoop, hs]
    rw [if_pos (by omega), lcm enc g hr (by rw [List.length_append, List.length_singleton]; omega), List.map_cons, List.append_assoc]
    rfl
theorem lcf0 {α : Type} (enc : α → D) {f : D → Env → Res (Option D × Env)} {ρ : Env} (p : α → Bool) {l : List α} (h : ∀ s, s ∈ l → f (enc s) ρ = .ok (if p s then some (enc s) else none, ρ)) (hl : l.length ≤ LIM) : lcLoop f (l.map enc) [] ρ = .ok ((l.filter p).map enc, ρ) := by
  rw [lcf enc p h (by show 0 + _ ≤ _; omega), List.nil_append]
theorem lcm0 {α : Type} (enc : α → D) (g : α → D) {f : D → Env → Res (Option D × Env)} {ρ : Env} {l : List α} (h : ∀ s, s ∈ l → f (enc s) ρ = .ok (some (g s), ρ)) (hl : l.length ≤ LIM) : lcLoop f (l.map enc) [] ρ = .ok (l.map g, ρ) := by
  rw [lcm enc g h (by show 0 + _ ≤ _; omega), List.nil_append]
/-- a turn, by its test -/
theorem turn_if {Γ : Ctx} {tg : Tg} {c : C} {elt : E} {own : List Nat} {ρ ρ1 : Env} {x y : D} {b : Bool} {ρ3 ρ4 ρ5 : Env} {r : R} (h1 : tg.set ρ x = some ρ1) (h2 : evC Γ c ρ1 = .ok (b, ρ1)) (h3 : evE Γ elt ρ1 = .ok (r, ρ3)) (h4 : r.keep ρ3 = some (y, ρ4)) (hw : wipeE ρ4 own = ρ5) (hw2 : wipeE ρ1 own = ρ5) : lcTurn tg (evOc Γ (.some c)) (evE Γ elt) own x ρ = .ok (if b then some y else none, ρ5) := by
  cases b with
  | true => exact turn_yes h1 (oc_some h2) h3 h4 hw
  | false => exact turn_no h1 (oc_some h2) hw2
/-- for: the first of a kind is given back -/
theorem for_find {α : Type} (enc : α → D) {f : D → Env → Fl} (env : Option D → Env) (p : α → Bool) (r : α → R) (e2 : α → Env) : ∀ {l : List α} {o : Option D}, (∀ s, s ∈ l → ∀ o, f (enc s) (env o) = if p s then .rt (r s) (e2 s) else .nx (env (some (enc s)))) →
    (match l.find? p with
    | some s => forLoop f (l.map enc) (env o) = .rt (r s) (e2 s)
    | none => ∃ o', forLoop f (l.map enc) (env o) = .nx (env o'))
  | [], o, _ => ⟨o, rfl⟩
  | s :: l, o, h => by
    have hs := h s List.mem_cons_self o
    cases q : p s with
    | true =>
      rw [q] at hs
      rw [List.find?_cons_of_pos q]
      simp only [List.map_cons, forLoop, hs, if_true]
    | false =>
      rw [q] at hs
      rw [List.find?_cons_of_neg (by rw [q]; exact Bool.false_ne_true)]
      have ih := for_find enc env p r e2 (l := l) (o := some (enc s)) fun s' hs' => h s' (List.mem_cons_of_mem _ hs')
      simp only [List.map_cons, forLoop, hs, Bool.false_eq_true, if_false]
      exact ih
end Mn
set_option Elab.async false
set_option linter.all false
set_option maxRecDepth 100000
set_option maxHeartbeats 4000000
namespace Mn
open PySem
theorem sortD_pw (l : List D) : (sortD l).Pairwise fun a b => leD a b = true := by
  rw [sortD_eq]
  exact PySem.W.sort_pairwise (leD_total _) l
/-! ### cuts -/
theorem int_le_all : ((List.range 12).all fun i => (List.range 12).all fun j => !leD (.int (i : Nat)) (.int (j : Nat)) || decide (i ≤ j)) = true := by kernel_rfl
theorem int_le {i j : Nat} (hi : i < 12) (hj : j < 12) (h : leD (.int i) (.int j) = true) : i ≤ j := by
  have := List.all_eq_true.mp (List.all_eq_true.mp int_le_all i (List.mem_range.mpr hi)) j (List.mem_range.mpr hj)
  simpa [h] using this
def natD (i : Nat) : D := .int i
theorem nats_sortOk {l : List Nat} (hl : l.length ≤ LIM) : sortOk (l.map natD) = true := by
  unfold sortOk
  simp only [Bool.and_eq_true, decide_eq_true_eq, List.all_eq_true, Bool.or_eq_true]
  refine ⟨⟨⟨fun a ha b hb => ?_, .inr fun a ha => ?_⟩, by rw [List.length_map]; exact hl⟩, fun a ha => ?_⟩
  · obtain ⟨x, _, rfl⟩ := List.mem_map.mp ha
    obtain ⟨y, _, rfl⟩ := List.mem_map.mp hb
    rfl
  · obtain ⟨x, _, rfl⟩ := List.mem_map.mp ha
    rfl
  · obtain ⟨x, _, rfl⟩ := List.mem_map.mp ha
    exact Nat.zero_le _
theorem srt_nats {l : List Nat} (h : ∀ i, i ∈ l → i < 12) (hl : l.length ≤ LIM) (g : Bool) : ∃ m : List Nat, bltD g .sorted [.list (l.map natD)] = some (.fresh (m.map natD)) ∧ m.Perm l ∧ m.Pairwise (· ≤ ·) := by
  obtain ⟨m, pm, e⟩ := perm_map_inv (sortD_perm (l.map natD)) rfl
  refine ⟨m, ?_, pm, ?_⟩
  · show (if _ then some (R.fresh (sortD _)) else none) = _
    rw [nats_sortOk hl, e]
    rfl
  · have := sortD_pw (l.map natD)
    rw [e, List.pairwise_map] at this
    exact this.imp_of_mem fun {a b} ha hb q => int_le (h _ (pm.mem_iff.mp ha)) (h _ (pm.mem_iff.mp hb)) q
theorem lt_of_le_nodup {l : List Nat} (h : l.Pairwise (· ≤ ·)) (nd : l.Nodup) : l.Pairwise (· < ·) :=
  (h.and nd).imp fun {a b} ⟨x, y⟩ => Nat.lt_of_le_of_ne x y
/-- slices between cuts -/
def segs {α : Type} (xs : List α) (e : List Nat) : List (List α) := (e.zip (e.drop 1)).map fun p => (xs.drop p.1).take (p.2 - p.1)
theorem segs_join {α : Type} (xs : List α) : ∀ (e : Nat) (es : List Nat), (e :: es).Pairwise (· < ·) → xs.length ≤ (e :: es).getLast (List.cons_ne_nil _ _) → (segs xs (e :: es)).flatten = xs.drop e
  | e, [], _, h => by
    have : xs.length ≤ e := h
    rw [List.drop_eq_nil_of_le this]
    rfl
  | e, f :: es, pw, h => by
    have pw' := List.pairwise_cons.mp pw
    have ih := segs_join xs f es pw'.2 (by rw [List.getLast_cons (List.cons_ne_nil _ _)] at h; exact h)
    have lt := pw'.1 f List.mem_cons_self
    have : segs xs (e :: f :: es) = ((xs.drop e).take (f - e)) :: segs xs (f :: es) := rfl
    rw [this, List.flatten_cons, ih]
    have : xs.drop f = (xs.drop e).drop (f - e) := by rw [List.drop_drop]; congr 1; omega
    rw [this, List.take_append_drop]
theorem zip_lt : ∀ {e : Nat} {es : List Nat}, (e :: es).Pairwise (· < ·) → ∀ p, p ∈ (e :: es).zip es → p.1 < p.2 ∧ p.1 ∈ e :: es ∧ p.2 ∈ es
  | e, [], _, p, h => by cases h
  | e, f :: es, pw, p, h => by
    have pw' := List.pairwise_cons.mp pw
    rw [List.zip_cons_cons, List.mem_cons] at h
    rcases h with rfl | h
    · exact ⟨pw'.1 f List.mem_cons_self, List.mem_cons_self, List.mem_cons_self⟩
    · obtain ⟨a, b, c⟩ := zip_lt pw'.2 p h
      exact ⟨a, List.mem_cons_of_mem _ b, List.mem_cons_of_mem _ c⟩
/-- a part of several is shorter than all -/
theorem seg_lt {α : Type} : ∀ {G : List (List α)}, (∀ g, g ∈ G → g ≠ []) → 2 ≤ G.length → ∀ g, g ∈ G → g.length < G.flatten.length := fun {G} h h2 g hg => by
  obtain ⟨l1, l2, rfl⟩ := List.append_of_mem hg
  rw [List.flatten_append, List.flatten_cons, List.length_append, List.length_append]
  rw [List.length_append, List.length_cons] at h2
  rcases l1 with _ | ⟨v, l1⟩
  · rcases l2 with _ | ⟨v, l2⟩
    · simp at h2
    · have := List.length_pos_iff.mpr (h v (by simp))
      rw [List.flatten_cons, List.length_append]
      omega
  · have := List.length_pos_iff.mpr (h v (by simp))
    rw [List.flatten_cons, List.length_append]
    omega
theorem cutL_nat {α : Type} (xs : List α) {a b : Nat} (h : a ≤ b) (hb : b ≤ xs.length) : cutL xs (some (a : Int)) (some (b : Int)) = (xs.drop a).take (b - a) := by
  unfold cutL
  rw [HT.sIx_nat, HT.sIx_nat]
  have e1 : min a xs.length = a := by omega
  have e2 : min b xs.length = b := by omega
  rw [e1, e2]
theorem cutL_to {α : Type} (xs : List α) {b : Nat} : cutL xs none (some (b : Int)) = xs.take b := by
  unfold cutL
  have h1 : HT.sIx xs.length 0 none = 0 := rfl
  rw [h1, HT.sIx_nat, List.drop_zero, Nat.sub_zero, List.take_eq_take_iff]
  omega
theorem cutL_from {α : Type} (xs : List α) {a : Nat} : cutL xs (some (a : Int)) none = xs.drop a := by
  unfold cutL
  have h1 : HT.sIx xs.length xs.length none = xs.length := rfl
  rw [h1, HT.sIx_nat]
  by_cases h : a ≤ xs.length
  · rw [Nat.min_eq_left h, List.take_of_length_le]
    rw [List.length_drop]
    exact Nat.le_refl _
  · rw [Nat.min_eq_right (by omega), List.drop_eq_nil_of_le (Nat.le_refl _), List.drop_eq_nil_of_le (by omega), List.take_nil]
theorem cutL_map {α β : Type} (f : α → β) (xs : List α) (lo hi : Option Int) : cutL (xs.map f) lo hi = (cutL xs lo hi).map f := by
  unfold cutL
  rw [List.length_map, List.map_take, List.map_drop]
/-! ### a node in order -/
def encP (p : Tr × Nat) : D := .tuple [.str (Tr.lst p.1), .int p.2]
theorem pair_le_all : (Lt.all fun a => Lt.all fun b => (List.range 8).all fun i => (List.range 8).all fun j => !leD (.tuple [.str a, .int (i : Nat)]) (.tuple [.str b, .int (j : Nat)]) || leD (.str a) (.str b)) = true := by kernel_rfl
theorem pair_le {a b : Str} {i j : Nat} (ha : a ∈ Lt) (hb : b ∈ Lt) (hi : i < 8) (hj : j < 8) (h : leD (.tuple [.str a, .int i]) (.tuple [.str b, .int j]) = true) : leD (.str a) (.str b) = true := by
  have := List.all_eq_true.mp (List.all_eq_true.mp (List.all_eq_true.mp (List.all_eq_true.mp pair_le_all a ha) b hb) i (List.mem_range.mpr hi)) j (List.mem_range.mpr hj)
  simpa [h] using this
theorem srt_pairs {ts : List Tr} (h : ∀ t, t ∈ ts → TrS t) (hl : ts.length ≤ 8) (g : Bool) : ∃ l : List (Tr × Nat), bltD g .sorted [.list (ts.zipIdx.map encP)] = some (.fresh (l.map encP)) ∧ l.Perm ts.zipIdx ∧ (l.map (·.1)).Pairwise Tr.lstLt := by
  obtain ⟨m, pm, e⟩ := perm_map_inv (sortD_perm (ts.zipIdx.map encP)) rfl
  have mem : ∀ p, p ∈ m → p.1 ∈ ts ∧ p.2 < ts.length := fun p hp => by
    have := pm.mem_iff.mp hp
    obtain ⟨x, i⟩ := p
    have := List.mem_zipIdx' this
    exact ⟨by rw [this.2]; exact List.getElem_mem _, this.1⟩
  refine ⟨m, ?_, pm, ?_⟩
  · show (if _ then some (R.fresh (sortD _)) else none) = _
    have : sortOk (ts.zipIdx.map encP) = true := by
      refine sortOk_by (fun a ha b hb => ?_) (fun a ha => ?_) (by rw [List.length_map, List.length_zipIdx]; exact Nat.le_trans hl (by decide)) fun a ha => ?_
      · obtain ⟨x, _, rfl⟩ := List.mem_map.mp ha
        obtain ⟨y, _, rfl⟩ := List.mem_map.mp hb
        rfl
      · obtain ⟨x, _, rfl⟩ := List.mem_map.mp ha
        rfl
      · obtain ⟨x, _, rfl⟩ := List.mem_map.mp ha
        exact show 1 ≤ 60 by decide
    rw [this, e]
    rfl
  · have := sortD_pw (ts.zipIdx.map encP)
    rw [e, List.pairwise_map] at this
    rw [List.pairwise_map]
    refine this.imp_of_mem fun {a b} ha hb q => ?_
    have h1 := mem a ha
    have h2 := mem b hb
    have s1 := h _ h1.1
    have s2 := h _ h2.1
    exact pair_le (s1.lt _ (Tr.lst_mem s1.ok)) (s2.lt _ (Tr.lst_mem s2.ok)) (by omega) (by omega) q
theorem lst_head {t : Tr} (h : TrS t) : ∃ r, (sortS t.leaves).map PyData.str = .str (Tr.lst t) :: r := by
  obtain ⟨x, hx⟩ := Tr.ok_some h.ok
  unfold Tr.lst
  cases q : sortS t.leaves with
  | nil =>
    have : x ∈ sortS t.leaves := (List.mergeSort_perm _ _).mem_iff.mpr hx
    rw [q] at this
    cases this
  | cons a r => exact ⟨r.map .str, rfl⟩
/-- the tree of parts -/
def nodeOf : List Tr → Tr
  | [t] => t
  | ts => .node ts
theorem node_ok {G : List (List Str)} {ts us : List Tr} {l : List Str} (h2 : 2 ≤ ts.length) (pm : us.Perm ts) (pw : us.Pairwise Tr.lstLt) (ok : ∀ t, t ∈ ts → t.Ok) (lv : (ts.flatMap Tr.leaves).Perm l) : TrOk l (.node us) :=
  ⟨Tr.ok_node.mpr ⟨by rw [pm.length_eq]; exact h2, pw, fun t ht => ok t (pm.mem_iff.mp ht)⟩, by rw [Tr.leaves_node]; exact (pm.flatMap_right _).trans lv⟩
end Mn
set_option Elab.async false
set_option linter.all false
set_option maxRecDepth 100000
set_option maxHeartbeats 4000000
namespace Mn
open PySem
theorem weightAll_le {c : Nat} : ∀ {xs : List D}, (∀ x, x ∈ xs → x.weight ≤ c) → PyData.weightAll xs ≤ xs.length * (c + 1)
  | [], _ => by simp [PyData.weightAll]
  | x :: xs, h => by
    have h1 := h x List.mem_cons_self
    have h2 := weightAll_le fun y hy => h y (List.mem_cons_of_mem _ hy)
    simp only [PyData.weightAll, List.length_cons, Nat.add_mul]
    omega
theorem weight_lt {a : Str} (h : a ∈ Lt) : (PyData.str a).weight ≤ 1 := by
  have : (Lt.all fun a => decide ((PyData.str a).weight ≤ 1)) = true := by decide +kernel
  simpa using List.all_eq_true.mp this a h
theorem weight_sD {s : Sy} (h : SyOk s) : (sD s).weight ≤ 6 := by
  have : PyData.weightAll ((sL s).map .str) ≤ ((sL s).map PyData.str).length * (1 + 1) := weightAll_le fun x hx => by
    obtain ⟨a, ha, rfl⟩ := List.mem_map.mp hx
    exact weight_lt (h.lt a ha)
  exact this
/-- what repr tells whole -/
structure Al (c : Nat) (w : Nat) (d : D) : Prop where
  n : Tame' c d
  w : d.weight ≤ w
theorem al_sD {s : Sy} (h : SyOk s) : Al 1 6 (sD s) := ⟨(nice_sD h).tame, weight_sD h⟩
theorem al_none {c w : Nat} : Al c w .none := ⟨nice_none.tame, Nat.zero_le _⟩
theorem al_bool (b : Bool) {c w : Nat} : Al c w (.bool b) := ⟨tame_bool b, Nat.zero_le _⟩
theorem Al.mono {c c' w w' : Nat} {d : D} (h : Al c w d) (l : c ≤ c') (l' : w ≤ w') : Al c' w' d := ⟨⟨h.n.p, Nat.le_trans h.n.d l⟩, Nat.le_trans h.w l'⟩
theorem al_tup {c w k : Nat} {xs : List D} (h : ∀ x, x ∈ xs → Al c w x) (hl : xs.length ≤ k) : Al (c + 1) (k * (w + 1)) (.tuple xs) :=
  ⟨tame_tup fun x hx => (h x hx).n, by
    have := weightAll_le (xs := xs) fun x hx => (h x hx).w
    exact Nat.le_trans (show PyData.weightAll xs ≤ _ from this) (Nat.mul_le_mul_right _ hl)⟩
theorem al_list {c w k : Nat} {xs : List D} (h : ∀ x, x ∈ xs → Al c w x) (hl : xs.length ≤ k) : Al (c + 1) (k * (w + 1)) (.list xs) :=
  ⟨tame_list fun x hx => (h x hx).n, by
    have := weightAll_le (xs := xs) fun x hx => (h x hx).w
    exact Nat.le_trans (show PyData.weightAll xs ≤ _ from this) (Nat.mul_le_mul_right _ hl)⟩
theorem al_sDs {l : List Sy} (h : ∀ s, s ∈ l → SyOk s) (hl : l.length ≤ 60) : Al 2 420 (.tuple (l.map sD)) :=
  al_tup (k := 60) (fun x hx => by
    obtain ⟨s, hs, rfl⟩ := List.mem_map.mp hx
    exact al_sD (h s hs)) (by rw [List.length_map]; exact hl)
theorem al_two {c w : Nat} {a b : D} (ha : Al c w a) (hb : Al c w b) : Al (c + 1) (2 * (w + 1)) (.list [a, b]) := al_list (fun x hx => by
  simp only [List.mem_cons, List.not_mem_nil, or_false] at hx
  rcases hx with rfl | rfl
  · exact ha
  · exact hb) (Nat.le_refl _)
theorem okW_noOwn {w : Option W} (h : noOwn w = w) : okW w = true := by
  cases w with
  | none => rfl
  | some w => cases w with
    | own l xs => cases h
    | _ => rfl
/-- the first of what a filter leaves -/
theorem head_find {α : Type} (p : α → Bool) : ∀ l : List α, (l.filter p).head? = l.find? p
  | [] => rfl
  | x :: l => by
    cases q : p x with
    | true => rw [List.filter_cons_of_pos q, List.find?_cons_of_pos q]; rfl
    | false => rw [List.filter_cons_of_neg (by rw [q]; exact Bool.false_ne_true), List.find?_cons_of_neg (by rw [q]; exact Bool.false_ne_true)]; exact head_find p l
theorem all_filter {α : Type} (p : α → Bool) (l : List α) : (l.filter fun x => !p x).isEmpty = l.all p := by
  induction l with
  | nil => rfl
  | cons x l ih =>
    cases q : p x with
    | true => rw [List.filter_cons_of_neg (by rw [q]; decide), ih, List.all_cons, q]; rfl
    | false => rw [List.filter_cons_of_pos (by rw [q]; rfl), List.all_cons, q]; rfl
theorem srt_tS {k : List Str} (hk : k.length ≤ LIM) (g : Bool) : bltD g .sorted [tS k] = some (.fresh ((sortS k).map .str)) := by
  show (if _ then some (R.fresh (sortD _)) else none) = _
  rw [sortOk_strs hk, sortD_strs]
  rfl
/-- filtering with a first turn that freezes a list -/
theorem lcf2 {α : Type} (enc : α → D) {f : D → Env → Res (Option D × Env)} {ρ ρ' : Env} (p : α → Bool) {l : List α} (hn : l ≠ []) (h0 : ∀ s, s ∈ l → f (enc s) ρ = .ok (if p s then some (enc s) else none, ρ')) (h : ∀ s, s ∈ l → f (enc s) ρ' = .ok (if p s then some (enc s) else none, ρ')) (hl : l.length ≤ LIM) : lcLoop f (l.map enc) [] ρ = .ok ((l.filter p).map enc, ρ') := by
  cases l with
  | nil => exact absurd rfl hn
  | cons s l =>
    rw [List.length_cons] at hl
    rw [List.map_cons]
    cases q : p s with
    | true =>
      have e := lcf enc (ρ := ρ') (acc := [enc s]) p (fun y hy => h y (List.mem_cons_of_mem _ hy)) (by rw [List.length_singleton]; omega)
      rw [List.filter_cons_of_pos q, List.map_cons]
      unfold lcLoop
      rw [h0 s List.mem_cons_self, q]
      have le0 : ([] : List D).length < LIM := by show 0 < LIM; decide
      simp only [if_true]
      rw [if_pos le0]
      simpa using e
    | false =>
      have e := lcf enc (ρ := ρ') (acc := []) p (fun y hy => h y (List.mem_cons_of_mem _ hy)) (by rw [List.length_nil]; omega)
      rw [List.filter_cons_of_neg (by rw [q]; exact Bool.false_ne_true)]
      unfold lcLoop
      rw [h0 s List.mem_cons_self, q]
      simpa using e
theorem row3 {ρ : Env} {i j k : Nat} {x y z : D} {ρ1 ρ2 ρ3 : Env} (h1 : (R.d x).into i ρ = some ρ1) (h2 : (R.d y).into j ρ1 = some ρ2) (h3 : (R.d z).into k ρ2 = some ρ3) : Tg.set.setRow [i, j, k] [x, y, z] ρ = some ρ3 := by
  simp only [Tg.set.setRow, h1, h2, h3]
end Mn
set_option Elab.async false
set_option linter.all false
set_option maxRecDepth 100000
set_option maxHeartbeats 4000000
namespace K26
open PySem PySem.Spec PyProof.Rows L2 LamX He Mn
def b_x_law_lots : Ss := .cons (.par 1 2 (.lst .nil) (.lst (.cons (.var 0) .nil))) (.cons (.whil (.cmp .ne (.var 2) (.lst .nil)) (.cons (.set 3 (.pop 2)) (.cons (.expr (.app 1 (.call "_law_of" (.cons (.var 3) .nil)))) (.cons (.expr (.ext 2 (.ite (.tru (.blt .isTup (.cons (.var 3) .nil))) (.blt .list (.cons (.var 3) .nil)) (.lst .nil)))) (.nil))))) (.cons (.ret (.lc (.var 5) (.row [4, 5]) (.seq (.blt .sset (.cons (.lc (.tup (.cons (.blt .len (.cons (.var 5) .nil)) (.cons (.var 5) .nil))) (.one 5) (.seq (.var 1)) .yes [5]) .nil))) .yes [4, 5])) (.nil)))
def b_is_sized : Ss := .cons (.ret (.andV (.blt .isTup (.cons (.var 0) .nil)) (.ofC (.cmp .eq (.blt .len (.cons (.var 0) .nil)) (.var 1))))) (.nil)
def b_is_name : Ss := .cons (.iff (.or (.not (.tru (.blt .isStr (.cons (.var 0) .nil)))) (.not (.chain .le .le (.int 1) (.blt .len (.cons (.var 0) .nil)) (.glo "MOST_LETTERS")))) (.cons (.ret (.bl false)) (.nil)) (.nil)) (.cons (.iff (.or (.cmp .notin (.idx (.var 0) (.int 0)) (.glo "LETTERS")) (.cmp .isin (.var 0) (.glo "RESERVED"))) (.cons (.ret (.bl false)) (.nil)) (.nil)) (.cons (.ret (.blt .all (.cons (.lc (.ofC (.cmp .isin (.var 1) (.op .add (.glo "LETTERS") (.glo "DIGITS")))) (.one 1) (.seq (.var 0)) .yes [1]) .nil))) (.nil)))
def b_is_tuple_of : Ss := .cons (.ret (.andV (.blt .isTup (.cons (.var 0) .nil)) (.blt .all (.cons (.lc (.callV 1 (.cons (.var 2) .nil)) (.one 2) (.seq (.var 0)) .yes [2]) .nil)))) (.nil)
def b_names_in : Ss := .cons (.ret (.lc (.var 1) (.one 1) (.seq (.call "all_parts" (.cons (.var 0) .nil))) (.some (.tru (.blt .isStr (.cons (.var 1) .nil)))) [1])) (.nil)
def b_all_parts : Ss := .cons (.par 1 2 (.lst (.cons (.var 0) .nil)) (.int 0)) (.cons (.whil (.cmp .lt (.var 2) (.blt .len (.cons (.var 1) .nil))) (.cons (.iff (.tru (.blt .isTup (.cons (.idx (.var 1) (.var 2)) .nil))) (.cons (.expr (.ext 1 (.idx (.var 1) (.var 2)))) (.nil)) (.nil)) (.cons (.aug 2 .add (.int 1)) (.nil)))) (.cons (.ret (.var 1)) (.nil)))
def b_lot_key : Ss := .cons (.ret (.tup (.cons (.blt .len (.cons (.var 0) .nil)) (.cons (.var 0) .nil)))) (.nil)
def b_three_sayings : Ss := .cons (.unp [1, 2, 3] false (.var 0)) (.cons (.ret (.lst (.cons (.tup (.cons (.var 1) (.cons (.var 2) (.cons (.var 3) .nil)))) (.cons (.tup (.cons (.var 1) (.cons (.var 3) (.cons (.var 2) .nil)))) (.cons (.tup (.cons (.var 2) (.cons (.var 3) (.cons (.var 1) .nil)))) .nil))))) (.nil))
def b_x_law_put : Ss := .cons (.set 1 (.blt .sorted (.cons (.lc (.tup (.cons (.idx (.call "_law_of" (.cons (.var 3) .nil)) (.int 0)) (.cons (.var 2) .nil))) (.row [2, 3]) (.enum (.var 0)) .yes [2, 3]) .nil))) (.cons (.ret (.ite (.cmp .gt (.blt .len (.cons (.var 0) .nil)) (.int 1)) (.blt .tuple (.cons (.lc (.idx (.var 0) (.var 2)) (.row [4, 2]) (.seq (.var 1)) .yes [4, 2]) .nil)) (.idx (.var 0) (.int 0)))) (.nil))
def b_x_law_has : Ss := .cons (.unp [2, 3, 4] false (.var 1)) (.cons (.ret (.ofC (.cmp .ne (.lc (.var 5) (.one 5) (.seq (.call "_law_lots" (.cons (.var 0) .nil))) (.some (.and (.cmp .isin (.var 2) (.var 5)) (.and (.cmp .isin (.var 3) (.var 5)) (.cmp .notin (.var 4) (.var 5))))) [5]) (.lst .nil)))) (.nil))
def b_x_law_of : Ss := .cons (.par 1 2 (.lst .nil) (.lst (.cons (.var 0) .nil))) (.cons (.whil (.cmp .ne (.var 2) (.lst .nil)) (.cons (.set 3 (.pop 2)) (.cons (.iff (.tru (.blt .isTup (.cons (.var 3) .nil))) (.cons (.expr (.ext 2 (.blt .list (.cons (.var 3) .nil)))) (.nil)) (.cons (.expr (.app 1 (.var 3))) (.nil))) (.nil)))) (.cons (.ret (.blt .tuple (.cons (.blt .sorted (.cons (.var 1) .nil)) .nil))) (.nil)))
def b_all_threes : Ss := .cons (.set 1 (.lst .nil)) (.cons (.for_ (.row [2, 3]) (.enum (.var 0)) (.cons (.for_ (.row [4, 5]) (.enum (.slc (.var 0) (.some (.op .add (.var 2) (.int 1))) .none)) (.cons (.expr (.ext 1 (.lc (.tup (.cons (.var 3) (.cons (.var 5) (.cons (.var 6) .nil)))) (.one 6) (.seq (.slc (.var 0) (.some (.op .add (.op .add (.var 2) (.var 4)) (.int 2))) .none)) .yes [6]))) (.nil))) (.nil))) (.cons (.ret (.var 1)) (.nil)))
def b_x_law_take : Ss := .cons (.iff (.cmp .eq (.idx (.var 0) (.int 0)) (.int 0)) (.cons (.set 4 (.idx (.op .add (.slc (.idx (.var 0) (.int 3)) (.some (.idx (.var 0) (.int 2))) .none) (.lst (.cons (.int 0) .nil))) (.int 0))) (.cons (.augX 0 (.int 2) .add (.int 1)) (.cons (.iff (.cmp .ge (.var 4) (.op .pow (.int 10) (.int 18))) (.cons (.setX 0 (.int 0) (.var 4)) (.nil)) (.nil)) (.cons (.set 5 (.op .add (.op .add (.op .mul (.idx (.var 0) (.int 1)) (.int 48271)) (.op .mod (.blt .int (.cons (.var 4) .nil)) (.int 2147483647))) (.op .mul (.int 7919) (.idx (.var 0) (.int 2))))) (.cons (.setX 0 (.int 1) (.op .mod (.blt .int (.cons (.var 5) .nil)) (.int 2147483647))) (.nil)))))) (.nil)) (.cons (.iff (.cmp .gt (.idx (.var 0) (.int 0)) (.int 0)) (.cons (.set 6 (.op .mod (.blt .int (.cons (.idx (.var 0) (.int 0)) .nil)) (.var 1))) (.cons (.setX 0 (.int 0) (.op .fdiv (.blt .int (.cons (.idx (.var 0) (.int 0)) .nil)) (.var 1))) (.cons (.ret (.var 6)) (.nil)))) (.nil)) (.cons (.set 2 (.op .mod (.blt .int (.cons (.op .mul (.op .add (.idx (.var 0) (.int 1)) (.int 1)) (.int 39373)) .nil)) (.int 1000000007))) (.cons (.set 3 (.op .mod (.blt .int (.cons (.op .mul (.op .mod (.blt .int (.cons (.op .mul (.var 2) (.var 2)) .nil)) (.int 998244353)) (.int 30011)) .nil)) (.int 998244353))) (.cons (.ret (.op .mod (.blt .int (.cons (.op .fdiv (.var 3) (.int 7)) .nil)) (.var 1))) (.nil)))))
def b_fault_of : Ss := .cons (.unp [2, 3, 4] false (.var 1)) (.cons (.iff (.not (.tru (.blt .all (.cons (.lc (.ofC (.cmp .isin (.var 5) (.var 0))) (.one 5) (.seq (.var 1)) .yes [5]) .nil)))) (.cons (.ret (.str "things")) (.nil)) (.nil)) (.cons (.iff (.or (.cmp .eq (.var 2) (.var 3)) (.or (.cmp .eq (.var 3) (.var 4)) (.cmp .eq (.var 2) (.var 4)))) (.cons (.ret (.str "same")) (.nil)) (.nil)) (.cons (.ret (.ite (.cmp .lt (.var 3) (.var 2)) (.str "order") .non)) (.nil))))
def b_is_saying_form : Ss := .cons (.ret (.andV (.call "is_sized" (.cons (.var 0) (.cons (.int 3) .nil))) (.call "is_names" (.cons (.var 0) .nil)))) (.nil)
def b_has_in : Ss := .cons (.unp [2, 3, 4] false (.var 1)) (.cons (.ret (.blt .any (.cons (.lc (.andV (.ofC (.cmp .isin (.var 2) (.var 5))) (.andV (.ofC (.cmp .isin (.var 3) (.var 5))) (.ofC (.cmp .notin (.var 4) (.var 5))))) (.one 5) (.seq (.var 0)) .yes [5]) .nil))) (.nil))
def b_are_rising : Ss := .cons (.ret (.blt .all (.cons (.lc (.ofC (.cmp .lt (.var 1) (.var 2))) (.row [1, 2]) (.zip (.var 0) (.slc (.var 0) (.some (.int 1)) .none)) .yes [1, 2]) .nil))) (.nil)
def b_is_names : Ss := .cons (.ret (.call "is_tuple_of" (.cons (.var 0) (.cons (.fn "is_name") .nil)))) (.nil)
def b_things_of : Ss := .cons (.ret (.blt .tuple (.cons (.blt .sorted (.cons (.call "names_in" (.cons (.var 0) .nil)) .nil)) .nil))) (.nil)
def b_lots : Ss := .cons (.ret (.blt .tuple (.cons (.sortK "lot_key" (.lc (.call "things_of" (.cons (.var 1) .nil)) (.one 1) (.seq (.call "all_parts" (.cons (.var 0) .nil))) .yes [1])) .nil))) (.nil)
def b_saying_in : Ss := .cons (.set 2 (.lc (.var 3) (.one 3) (.seq (.call "three_sayings" (.cons (.var 1) .nil))) (.some (.tru (.call "has_in" (.cons (.var 0) (.cons (.var 3) .nil))))) [3])) (.cons (.ret (.ite (.cmp .ne (.var 2) (.lst .nil)) (.idx (.var 2) (.int 0)) .non)) (.nil))
def b_x_law_bag : Ss := .cons (.ret (.lst (.cons (.int 0) (.cons (.int 1234567891) (.cons (.int 0) (.cons (.lc (.blt .abs (.cons (.var 1) .nil)) (.one 1) (.seq (.slc (.var 0) .none (.some (.int 63)))) .yes [1]) .nil)))))) (.nil)
def b_x_law_things : Ss := .cons (.ret (.slc (.tup (.cons (.str "a") (.cons (.str "b") (.cons (.str "c") (.cons (.str "d") (.cons (.str "e") (.cons (.str "f") .nil))))))) .none (.some (.op .add (.int 3) (.call "_law_take" (.cons (.var 0) (.cons (.op .sub (.var 1) (.int 2)) .nil))))))) (.nil)
def b_x_law_forked_tree : Ss := .cons (.iff (.cmp .eq (.blt .len (.cons (.var 1) .nil)) (.int 1)) (.cons (.ret (.idx (.var 1) (.int 0))) (.nil)) (.nil)) (.cons (.set 2 (.call "_law_mixed" (.cons (.var 0) (.cons (.blt .list (.cons (.var 1) .nil)) .nil)))) (.cons (.set 3 (.op .add (.int 1) (.call "_law_take" (.cons (.var 0) (.cons (.op .sub (.blt .len (.cons (.var 1) .nil)) (.int 1)) .nil))))) (.cons (.ret (.call "_law_put" (.cons (.lst (.cons (.call "_law_forked_tree" (.cons (.var 0) (.cons (.blt .tuple (.cons (.blt .sorted (.cons (.slc (.var 2) .none (.some (.var 3))) .nil)) .nil)) .nil))) (.cons (.call "_law_forked_tree" (.cons (.var 0) (.cons (.blt .tuple (.cons (.blt .sorted (.cons (.slc (.var 2) (.some (.var 3)) .none) .nil)) .nil)) .nil))) .nil))) .nil))) (.nil))))
def b_x_law_some : Ss := .cons (.ret (.idx (.var 1) (.call "_law_take" (.cons (.var 0) (.cons (.blt .len (.cons (.var 1) .nil)) .nil))))) (.nil)
def b_x_law_tree : Ss := .cons (.iff (.cmp .eq (.blt .len (.cons (.var 1) .nil)) (.int 1)) (.cons (.ret (.idx (.var 1) (.int 0))) (.nil)) (.nil)) (.cons (.set 2 (.blt .min2 (.cons (.blt .len (.cons (.var 1) .nil)) (.cons (.op .add (.int 2) (.call "_law_some" (.cons (.var 0) (.cons (.lst (.cons (.int 0) (.cons (.int 0) (.cons (.int 0) (.cons (.int 1) .nil))))) .nil)))) .nil)))) (.cons (.set 3 (.call "_law_mixed" (.cons (.var 0) (.cons (.blt .list (.cons (.var 1) .nil)) .nil)))) (.cons (.set 4 (.blt .sorted (.cons (.slc (.call "_law_mixed" (.cons (.var 0) (.cons (.blt .rngL2 (.cons (.int 1) (.cons (.blt .len (.cons (.var 1) .nil)) .nil))) .nil))) .none (.some (.op .sub (.var 2) (.int 1)))) .nil))) (.cons (.set 5 (.op .add (.op .add (.lst (.cons (.int 0) .nil)) (.var 4)) (.lst (.cons (.blt .len (.cons (.var 1) .nil)) .nil)))) (.cons (.ret (.call "_law_put" (.cons (.lc (.call "_law_tree" (.cons (.var 0) (.cons (.blt .tuple (.cons (.blt .sorted (.cons (.slc (.var 3) (.some (.var 6)) (.some (.var 7))) .nil)) .nil)) .nil))) (.row [6, 7]) (.zip (.var 5) (.slc (.var 5) (.some (.int 1)) .none)) .yes [6, 7]) .nil))) (.nil))))))
def b_x_law_sayings_of : Ss := .cons (.ret (.lc (.var 1) (.one 1) (.seq (.call "_law_all_sayings" (.cons (.call "_law_of" (.cons (.var 0) .nil)) .nil))) (.some (.tru (.call "_law_has" (.cons (.var 0) (.cons (.var 1) .nil))))) [1])) (.nil)
def b_x_law_all_sayings : Ss := .cons (.set 1 (.lst .nil)) (.cons (.for_ (.one 2) (.seq (.var 0)) (.cons (.for_ (.one 3) (.seq (.var 0)) (.cons (.expr (.ext 1 (.lc (.tup (.cons (.var 2) (.cons (.var 3) (.cons (.var 4) .nil)))) (.one 4) (.seq (.var 0)) (.some (.and (.cmp .lt (.var 2) (.var 3)) (.cmp .notin (.var 4) (.tup (.cons (.var 2) (.cons (.var 3) .nil)))))) [4]))) (.nil))) (.nil))) (.cons (.ret (.blt .sorted (.cons (.var 1) .nil))) (.nil)))
def b_unparted_of : Ss := .cons (.set 1 (.call "lots" (.cons (.var 0) .nil))) (.cons (.ret (.blt .tuple (.cons (.lc (.var 2) (.one 2) (.seq (.call "all_threes" (.cons (.call "things_of" (.cons (.var 0) .nil)) .nil))) (.some (.isN (.call "saying_in" (.cons (.var 1) (.cons (.var 2) .nil))))) [2]) .nil))) (.nil))
def b_sayings_of : Ss := .cons (.set 1 (.call "lots" (.cons (.var 0) .nil))) (.cons (.set 2 (.lc (.call "saying_in" (.cons (.var 1) (.cons (.var 3) .nil))) (.one 3) (.seq (.call "all_threes" (.cons (.call "things_of" (.cons (.var 0) .nil)) .nil))) .yes [3])) (.cons (.ret (.blt .tuple (.cons (.blt .sorted (.cons (.lc (.var 4) (.one 4) (.seq (.var 2)) (.some (.notN (.var 4))) [4]) .nil)) .nil))) (.nil)))
def b_x_law_threes : Ss := .cons (.set 1 (.lst .nil)) (.cons (.for_ (.row [2, 3]) (.enum (.var 0)) (.cons (.for_ (.row [4, 5]) (.enum (.var 0)) (.cons (.expr (.ext 1 (.lc (.tup (.cons (.var 3) (.cons (.var 5) (.cons (.var 6) .nil)))) (.one 6) (.seq (.slc (.var 0) (.some (.op .add (.var 4) (.int 1))) .none)) (.some (.cmp .lt (.var 2) (.var 4))) [6]))) (.nil))) (.nil))) (.cons (.ret (.var 1)) (.nil)))
def b_x_law_mixed : Ss := .cons (.set 2 (.lst .nil)) (.cons (.for_ (.one 3) (.seq (.var 1)) (.cons (.expr (.ins 2 (.call "_law_take" (.cons (.var 0) (.cons (.op .add (.blt .len (.cons (.var 2) .nil)) (.int 1)) .nil))) (.var 3))) (.nil))) (.cons (.ret (.var 2)) (.nil)))
def b_x_law_said : Ss := .cons (.set 2 (.call "_law_all_sayings" (.cons (.var 1) .nil))) (.cons (.iff (.cmp .gt (.call "_law_take" (.cons (.var 0) (.cons (.int 3) .nil))) (.int 0)) (.cons (.set 2 (.call "_law_sayings_of" (.cons (.call "_law_tree" (.cons (.var 0) (.cons (.var 1) .nil))) .nil))) (.nil)) (.nil)) (.cons (.set 3 (.slc (.call "_law_mixed" (.cons (.var 0) (.cons (.var 2) .nil))) .none (.some (.call "_law_take" (.cons (.var 0) (.cons (.int 5) .nil)))))) (.cons (.iff (.cmp .eq (.call "_law_take" (.cons (.var 0) (.cons (.int 4) .nil))) (.int 0)) (.cons (.set 3 (.op .add (.var 3) (.lst (.cons (.call "_law_some" (.cons (.var 0) (.cons (.call "_law_all_sayings" (.cons (.var 1) .nil)) .nil))) .nil)))) (.nil)) (.nil)) (.cons (.ret (.blt .tuple (.cons (.blt .sset (.cons (.var 3) .nil)) .nil))) (.nil)))))
def b_first_lacking : Ss := .cons (.for_ (.one 2) (.seq (.var 1)) (.cons (.iff (.not (.tru (.call "has" (.cons (.var 0) (.cons (.var 2) .nil))))) (.cons (.ret (.var 2)) (.nil)) (.nil)) (.nil))) (.cons (.ret .non) (.nil))
def b_has_all : Ss := .cons (.ret (.ofC (.isN (.call "first_lacking" (.cons (.var 0) (.cons (.var 1) .nil)))))) (.nil)
def b_x_law_alike : Ss := .cons (.ret (.andV (.ofC (.cmp .eq (.blt .repr (.cons (.var 0) .nil)) (.blt .repr (.cons (.var 1) .nil)))) (.ofC (.cmp .eq (.var 0) (.var 1))))) (.nil)
def b_has : Ss := .cons (.iff (.or (.not (.tru (.call "is_saying_form" (.cons (.var 1) .nil)))) (.notN (.call "fault_of" (.cons (.call "things_of" (.cons (.var 0) .nil)) (.cons (.var 1) .nil))))) (.cons (.raise "Nothing") (.nil)) (.nil)) (.cons (.ret (.call "has_in" (.cons (.call "lots" (.cons (.var 0) .nil)) (.cons (.var 1) .nil)))) (.nil))
def b_saying_of : Ss := .cons (.iff (.or (.not (.tru (.call "is_names" (.cons (.var 1) .nil)))) (.or (.cmp .ne (.blt .len (.cons (.var 1) .nil)) (.int 3)) (.not (.tru (.call "are_rising" (.cons (.var 1) .nil)))))) (.cons (.raise "Nothing") (.nil)) (.nil)) (.cons (.iff (.not (.tru (.blt .all (.cons (.lc (.ofC (.cmp .isin (.var 2) (.call "things_of" (.cons (.var 0) .nil)))) (.one 2) (.seq (.var 1)) .yes [2]) .nil)))) (.cons (.raise "Nothing") (.nil)) (.nil)) (.cons (.ret (.call "saying_in" (.cons (.call "lots" (.cons (.var 0) .nil)) (.cons (.var 1) .nil)))) (.nil)))
def b_law : Ss := .cons (.set 1 (.call "_law_bag" (.cons (.var 0) .nil))) (.cons (.for_ (.one 2) (.rng1 (.int 4)) (.cons (.set 3 (.call "_law_things" (.cons (.var 1) (.cons (.int 6) .nil)))) (.cons (.par 10 11 (.call "_law_tree" (.cons (.var 1) (.cons (.var 3) .nil))) (.call "_law_some" (.cons (.var 1) (.cons (.lst (.cons (.call "_law_tree" (.cons (.var 1) (.cons (.var 3) .nil))) (.cons (.call "_law_forked_tree" (.cons (.var 1) (.cons (.var 3) .nil))) .nil))) .nil)))) (.cons (.par 12 13 (.call "_law_all_sayings" (.cons (.var 3) .nil)) (.call "_law_sayings_of" (.cons (.var 10) .nil))) (.cons (.set 4 (.lc (.var 6) (.one 6) (.seq (.call "_law_threes" (.cons (.var 3) .nil))) (.some (.cmp .eq (.lc (.var 5) (.one 5) (.seq (.var 13)) (.some (.cmp .eq (.blt .tuple (.cons (.blt .sorted (.cons (.var 5) .nil)) .nil)) (.var 6))) [5]) (.lst .nil))) [6])) (.cons (.iff (.or (.not (.tru (.call "_law_alike" (.cons (.lst (.cons (.call "sayings_of" (.cons (.var 10) .nil)) (.cons (.call "unparted_of" (.cons (.var 10) .nil)) .nil))) (.cons (.lst (.cons (.blt .tuple (.cons (.var 13) .nil)) (.cons (.blt .tuple (.cons (.var 4) .nil)) .nil))) .nil))))) (.cmp .ne (.op .add (.blt .len (.cons (.var 13) .nil)) (.blt .len (.cons (.var 4) .nil))) (.blt .len (.cons (.call "_law_threes" (.cons (.var 3) .nil)) .nil)))) (.cons (.ret (.bl false)) (.nil)) (.nil)) (.cons (.iff (.cmp .ne (.ofC (.cmp .eq (.call "sayings_of" (.cons (.var 10) .nil)) (.call "sayings_of" (.cons (.var 11) .nil)))) (.ofC (.cmp .eq (.var 10) (.var 11)))) (.cons (.ret (.bl false)) (.nil)) (.nil)) (.cons (.for_ (.one 5) (.seq (.slc (.call "_law_mixed" (.cons (.var 1) (.cons (.var 12) .nil))) .none (.some (.int 6)))) (.cons (.iff (.not (.tru (.call "_law_alike" (.cons (.call "has" (.cons (.var 10) (.cons (.var 5) .nil))) (.cons (.ofC (.cmp .isin (.var 5) (.var 13))) .nil))))) (.cons (.ret (.bl false)) (.nil)) (.nil)) (.nil))) (.cons (.for_ (.one 6) (.seq (.slc (.call "_law_mixed" (.cons (.var 1) (.cons (.call "_law_threes" (.cons (.var 3) .nil)) .nil))) .none (.some (.int 4)))) (.cons (.set 14 (.lc (.var 5) (.one 5) (.seq (.var 13)) (.some (.cmp .eq (.blt .tuple (.cons (.blt .sorted (.cons (.var 5) .nil)) .nil)) (.var 6))) [5])) (.cons (.iff (.not (.tru (.call "_law_alike" (.cons (.call "saying_of" (.cons (.var 10) (.cons (.var 6) .nil))) (.cons (.idx (.op .add (.var 14) (.lst (.cons .non .nil))) (.int 0)) .nil))))) (.cons (.ret (.bl false)) (.nil)) (.nil)) (.nil)))) (.cons (.set 7 (.call "_law_said" (.cons (.var 1) (.cons (.var 3) .nil)))) (.cons (.set 8 (.lc (.var 5) (.one 5) (.seq (.var 7)) (.some (.cmp .notin (.var 5) (.var 13))) [5])) (.cons (.iff (.not (.tru (.call "_law_alike" (.cons (.lst (.cons (.call "first_lacking" (.cons (.var 10) (.cons (.var 7) .nil))) (.cons (.call "has_all" (.cons (.var 10) (.cons (.var 7) .nil))) .nil))) (.cons (.lst (.cons (.idx (.op .add (.var 8) (.lst (.cons .non .nil))) (.int 0)) (.cons (.ofC (.cmp .eq (.var 8) (.lst .nil))) .nil))) .nil))))) (.cons (.ret (.bl false)) (.nil)) (.nil)) (.cons (.unp [15, 16, 17] false (.slc (.var 3) .none (.some (.int 3)))) (.cons (.for_ (.one 9) (.seq (.lst (.cons .non (.cons (.tup (.cons (.var 15) (.cons (.var 16) .nil))) (.cons (.tup (.cons (.var 16) (.cons (.var 15) (.cons (.var 17) .nil)))) (.cons (.tup (.cons (.var 15) (.cons (.var 15) (.cons (.var 16) .nil)))) (.cons (.tup (.cons (.var 15) (.cons (.var 16) (.cons (.var 15) .nil)))) (.cons (.tup (.cons (.var 15) (.cons (.var 16) (.cons (.str "zz") .nil)))) (.cons (.tup (.cons (.var 15) (.cons (.var 16) (.cons .non .nil)))) (.cons (.lst (.cons (.var 15) (.cons (.var 16) (.cons (.var 17) .nil)))) (.cons (.str "abc") .nil))))))))))) (.cons (.iff (.cmp .ne (.heard "_law_heard" (.call "has" (.cons (.var 10) (.cons (.var 9) .nil)))) (.tup (.cons (.str "nothing") .nil))) (.cons (.ret (.bl false)) (.nil)) (.nil)) (.nil))) (.cons (.for_ (.one 9) (.seq (.lst (.cons .non (.cons (.tup (.cons (.var 15) (.cons (.var 16) .nil))) (.cons (.tup (.cons (.var 16) (.cons (.var 15) (.cons (.var 17) .nil)))) (.cons (.tup (.cons (.var 15) (.cons (.var 15) (.cons (.var 16) .nil)))) (.cons (.tup (.cons (.var 15) (.cons (.var 16) (.cons (.str "zz") .nil)))) (.cons (.lst (.cons (.var 15) (.cons (.var 16) (.cons (.var 17) .nil)))) (.cons (.op .add (.slc (.var 3) .none (.some (.int 3))) (.slc (.var 3) .none (.some (.int 1)))) (.cons (.tup (.cons (.var 15) (.cons (.var 17) (.cons (.var 16) .nil)))) .nil)))))))))) (.cons (.iff (.cmp .ne (.heard "_law_heard" (.call "saying_of" (.cons (.var 10) (.cons (.var 9) .nil)))) (.tup (.cons (.str "nothing") .nil))) (.cons (.ret (.bl false)) (.nil)) (.nil)) (.nil))) (.nil)))))))))))))))) (.cons (.ret (.bl true)) (.nil)))
def P : Prg where
  fns := [
    ⟨"_law_lots", ["tree", "found", "line", "part", "size", "lot"], ["tree"], false, false, b_x_law_lots⟩,
    ⟨"is_sized", ["thing", "many"], ["thing", "many"], false, false, b_is_sized⟩,
    ⟨"is_name", ["thing", "sign"], ["thing"], false, false, b_is_name⟩,
    ⟨"is_tuple_of", ["thing", "is_one", "one"], ["thing", "is_one"], false, false, b_is_tuple_of⟩,
    ⟨"names_in", ["tree", "part"], ["tree"], false, false, b_names_in⟩,
    ⟨"all_parts", ["tree", "found", "at"], ["tree"], false, false, b_all_parts⟩,
    ⟨"lot_key", ["lot"], ["lot"], false, false, b_lot_key⟩,
    ⟨"three_sayings", ["three", "a", "b", "c"], ["three"], false, false, b_three_sayings⟩,
    ⟨"_law_put", ["parts", "order", "k", "part", "thing"], ["parts"], false, false, b_x_law_put⟩,
    ⟨"_law_has", ["tree", "saying", "a", "b", "c", "lot"], ["tree", "saying"], false, false, b_x_law_has⟩,
    ⟨"_law_of", ["tree", "found", "line", "part"], ["tree"], false, false, b_x_law_of⟩,
    ⟨"all_threes", ["things", "found", "at", "a", "later", "b", "c"], ["things"], false, false, b_all_threes⟩,
    ⟨"_law_take", ["bag", "many", "begin", "second", "cell", "stirred", "value"], ["bag", "many"], true, false, b_x_law_take⟩,
    ⟨"fault_of", ["things", "saying", "a", "b", "c", "one"], ["things", "saying"], false, false, b_fault_of⟩,
    ⟨"is_saying_form", ["thing"], ["thing"], false, false, b_is_saying_form⟩,
    ⟨"has_in", ["some", "saying", "a", "b", "c", "lot"], ["some", "saying"], false, false, b_has_in⟩,
    ⟨"are_rising", ["things", "one", "other"], ["things"], false, false, b_are_rising⟩,
    ⟨"is_names", ["thing"], ["thing"], false, false, b_is_names⟩,
    ⟨"things_of", ["tree"], ["tree"], false, false, b_things_of⟩,
    ⟨"lots", ["tree", "part"], ["tree"], false, false, b_lots⟩,
    ⟨"saying_in", ["some", "three", "found", "saying"], ["some", "three"], false, false, b_saying_in⟩,
    ⟨"_law_bag", ["script", "cell"], ["script"], false, false, b_x_law_bag⟩,
    ⟨"_law_things", ["bag", "most"], ["bag", "most"], true, false, b_x_law_things⟩,
    ⟨"_law_forked_tree", ["bag", "things", "order", "k"], ["bag", "things"], true, false, b_x_law_forked_tree⟩,
    ⟨"_law_some", ["bag", "things"], ["bag", "things"], true, false, b_x_law_some⟩,
    ⟨"_law_tree", ["bag", "things", "many", "order", "cuts", "ends", "a", "b"], ["bag", "things"], true, false, b_x_law_tree⟩,
    ⟨"_law_sayings_of", ["tree", "saying"], ["tree"], false, false, b_x_law_sayings_of⟩,
    ⟨"_law_all_sayings", ["things", "found", "a", "b", "c"], ["things"], false, false, b_x_law_all_sayings⟩,
    ⟨"unparted_of", ["tree", "some", "three"], ["tree"], false, false, b_unparted_of⟩,
    ⟨"sayings_of", ["tree", "some", "found", "three", "saying"], ["tree"], false, false, b_sayings_of⟩,
    ⟨"_law_threes", ["things", "found", "i", "a", "j", "b", "c"], ["things"], false, false, b_x_law_threes⟩,
    ⟨"_law_mixed", ["bag", "things", "found", "thing"], ["bag", "things"], true, false, b_x_law_mixed⟩,
    ⟨"_law_said", ["bag", "things", "every", "some"], ["bag", "things"], true, false, b_x_law_said⟩,
    ⟨"first_lacking", ["tree", "sayings", "saying"], ["tree", "sayings"], false, false, b_first_lacking⟩,
    ⟨"has_all", ["tree", "sayings"], ["tree", "sayings"], false, false, b_has_all⟩,
    ⟨"_law_alike", ["found", "due"], ["found", "due"], false, false, b_x_law_alike⟩,
    ⟨"has", ["tree", "saying"], ["tree", "saying"], false, false, b_has⟩,
    ⟨"saying_of", ["tree", "three", "one"], ["tree", "three"], false, false, b_saying_of⟩,
    ⟨"law", ["script", "bag", "lap", "things", "free", "saying", "three", "sayings", "lacking", "odd", "tree", "other", "every", "its", "found", "a", "b", "c"], ["script"], false, true, b_law⟩]
  glo := [("DIGITS", (.str "0123456789")), ("LETTERS", (.str "abcdefghijklmnopqrstuvwxyz")), ("MOST_LETTERS", (.int 8)), ("RESERVED", (.tuple [(.str "all"), (.str "and"), (.str "by"), (.str "closer"), (.str "distance"), (.str "from"), (.str "height"), (.str "not"), (.str "of"), (.str "parted"), (.str "saying"), (.str "some"), (.str "than"), (.str "things"), (.str "to"), (.str "tree"), (.str "unparted")]))]
  told := [("_law_heard", [("Nothing", .tuple [.str "nothing"])])]
  wf := 200
  bl := ["abs", "all", "any", "enumerate", "int", "isinstance", "len", "list", "min", "range", "repr", "set", "sorted", "str", "tuple", "zip"]
  exn := ["Nothing"]
abbrev pw : Program := PySem.Challenge.pw_lastparted_k26_whole_sayings_of_trees
def isDef (f : Str) : Stmt → Bool
  | .FunctionDef n _ _ _ _ _ _ _ _ _ => n == f
  | _ => false
def st (f : Str) : Stmt := (pw.main.body.find? (isDef f)).getD (.Pass ⟨0, 0, 0, 0⟩)
end K26
set_option Elab.async false
set_option linter.all false
set_option maxRecDepth 100000
set_option maxHeartbeats 0
namespace K26
open PySem PySem.Spec PyProof.Rows L2 LamX He Mn
abbrev Rw : PySem.W.OpenRow := PySem.W.OpenLaw.row PySem.Challenge.rw_lastparted_k26_whole_sayings_of_trees
abbrev hk : PySem.W.Hook := P.hook st 4
def ob (s : PySem.W.SharedT) : AlX := obsX 4 (P.fa st) (P.fd st) [] P.tf P.ex (HandSHeadRun.getT s)
theorem ob_eq (s : PySem.W.SharedT) : ob s = hk.obs s.abs := obsX_eq (HandSHeadRun.getT_eq s)
def loose : List PySem.Str := (["_wall", "__name__", "PartedError", "Nothing", "LETTERS", "DIGITS", "MOST_LETTERS", "RESERVED", "is_name", "is_sized", "is_tuple_of", "is_names", "is_saying_form", "are_rising", "all_parts", "names_in", "things_of", "lot_key", "lots", "fault_of"] : List PySem.Str) ++ ((["has_in", "has", "first_lacking", "has_all", "three_sayings", "saying_in", "saying_of", "all_threes", "sayings_of", "unparted_of", "_law_bag", "_law_take", "_law_some", "_law_mixed", "_law_alike", "_law_things", "_law_of", "_law_put", "_law_tree", "_law_lots"] : List PySem.Str) ++ ((["_law_all_sayings", "_law_has", "_law_sayings_of", "_law_said", "_law_threes", "_law_forked_tree", "_law_heard"] : List PySem.Str)))
theorem run (w : World) : HandSHeadRun.RunEq Rw (PySem.W.view Rw.prog [51]) hk ob 4000 loose w := by
  intro os
  kernel_rfl
end K26
set_option Elab.async false
set_option linter.all false
set_option maxRecDepth 100000
set_option maxHeartbeats 0
namespace K26
open PySem PySem.Spec PyProof.Rows L2 LamX He Mn
theorem b1 {f a : Str} (h : ∀ (kV doc pm : Value) (an : Option Addr) (cdv ct : Value) (u : Value), bindArgs (PySem.W.fnOf f f (defArgs (st f)) (defBody (st f)) (defScope (st f)) .none kV doc pm an cdv ct) ⟨[u], []⟩ = pure [(a, u)]) : Bnd st f [a] :=
  fun kV doc pm an cdv ct us hl => match us, hl with | [u], _ => h kV doc pm an cdv ct u
theorem b2 {f a b : Str} (h : ∀ (kV doc pm : Value) (an : Option Addr) (cdv ct : Value) (u v : Value), bindArgs (PySem.W.fnOf f f (defArgs (st f)) (defBody (st f)) (defScope (st f)) .none kV doc pm an cdv ct) ⟨[u, v], []⟩ = pure [(a, u), (b, v)]) : Bnd st f [a, b] :=
  fun kV doc pm an cdv ct us hl => match us, hl with | [u, v], _ => h kV doc pm an cdv ct u v
theorem b3 {f a b c : Str} (h : ∀ (kV doc pm : Value) (an : Option Addr) (cdv ct : Value) (u v x : Value), bindArgs (PySem.W.fnOf f f (defArgs (st f)) (defBody (st f)) (defScope (st f)) .none kV doc pm an cdv ct) ⟨[u, v, x], []⟩ = pure [(a, u), (b, v), (c, x)]) : Bnd st f [a, b, c] :=
  fun kV doc pm an cdv ct us hl => match us, hl with | [u, v, x], _ => h kV doc pm an cdv ct u v x
theorem b4 {f a b c d : Str} (h : ∀ (kV doc pm : Value) (an : Option Addr) (cdv ct : Value) (u v x y : Value), bindArgs (PySem.W.fnOf f f (defArgs (st f)) (defBody (st f)) (defScope (st f)) .none kV doc pm an cdv ct) ⟨[u, v, x, y], []⟩ = pure [(a, u), (b, v), (c, x), (d, y)]) : Bnd st f [a, b, c, d] :=
  fun kV doc pm an cdv ct us hl => match us, hl with | [u, v, x, y], _ => h kV doc pm an cdv ct u v x y
theorem b5 {f a b c d e : Str} (h : ∀ (kV doc pm : Value) (an : Option Addr) (cdv ct : Value) (u v x y z : Value), bindArgs (PySem.W.fnOf f f (defArgs (st f)) (defBody (st f)) (defScope (st f)) .none kV doc pm an cdv ct) ⟨[u, v, x, y, z], []⟩ = pure [(a, u), (b, v), (c, x), (d, y), (e, z)]) : Bnd st f [a, b, c, d, e] :=
  fun kV doc pm an cdv ct us hl => match us, hl with | [u, v, x, y, z], _ => h kV doc pm an cdv ct u v x y z
theorem b6 {f a b c d e g : Str} (h : ∀ (kV doc pm : Value) (an : Option Addr) (cdv ct : Value) (u v x y z t : Value), bindArgs (PySem.W.fnOf f f (defArgs (st f)) (defBody (st f)) (defScope (st f)) .none kV doc pm an cdv ct) ⟨[u, v, x, y, z, t], []⟩ = pure [(a, u), (b, v), (c, x), (d, y), (e, z), (g, t)]) : Bnd st f [a, b, c, d, e, g] :=
  fun kV doc pm an cdv ct us hl => match us, hl with | [u, v, x, y, z, t], _ => h kV doc pm an cdv ct u v x y z t
theorem b0 {f : Str} (h : ∀ (kV doc pm : Value) (an : Option Addr) (cdv ct : Value), bindArgs (PySem.W.fnOf f f (defArgs (st f)) (defBody (st f)) (defScope (st f)) .none kV doc pm an cdv ct) ⟨[], []⟩ = pure []) : Bnd st f [] :=
  fun kV doc pm an cdv ct us hl => match us, hl with | [], _ => h kV doc pm an cdv ct
theorem bn : ∀ d, d ∈ P.fns → Bnd st d.name d.ps := by
  have go : ∀ {l : List Fd} {d : Fd}, Bnd st d.name d.ps → (∀ e, e ∈ l → Bnd st e.name e.ps) → ∀ e, e ∈ d :: l → Bnd st e.name e.ps := fun h1 h2 e he => (List.mem_cons.mp he).elim (fun z => z ▸ h1) (h2 e)
  unfold P
  repeat' first
    | exact fun e he => absurd he (List.not_mem_nil)
    | refine go ?_ ?_
  all_goals first
    | (refine b1 fun _ _ _ _ _ _ _ => ?_; kernel_rfl)
    | (refine b2 fun _ _ _ _ _ _ _ _ => ?_; kernel_rfl)
    | (refine b3 fun _ _ _ _ _ _ _ _ _ => ?_; kernel_rfl)
    | (refine b4 fun _ _ _ _ _ _ _ _ _ _ => ?_; kernel_rfl)
    | (refine b5 fun _ _ _ _ _ _ _ _ _ _ _ => ?_; kernel_rfl)
    | (refine b6 fun _ _ _ _ _ _ _ _ _ _ _ _ => ?_; kernel_rfl)
    | (refine b0 fun _ _ _ _ _ _ => ?_; kernel_rfl)
theorem bt : ∀ t, t ∈ P.told → ∀ a e no, toldShape (defBody (st t.1)) = some (a, e, no) → Bnd st t.1 [a] := by
  intro t ht a e no h
  have : t = (("_law_heard" : Str), [(("Nothing" : Str), (PyData.tuple [.str "nothing"] : D))]) := by simpa [P] using ht
  subst this
  have h2 : toldShape (defBody (st "_law_heard")) = some (("act" : Str), ("Nothing" : Str), ("nothing" : Str)) := by kernel_rfl
  rw [h2] at h
  cases h
  exact b1 fun _ _ _ _ _ _ _ => by kernel_rfl
theorem to : P.toldB st = true := by decide +kernel
theorem one : ∀ d e, d ∈ P.fns → d.lm = true → e ∈ P.fns → e.lm = true → d.name = e.name := by
  have h : ∀ d, d ∈ P.fns → d.lm = true → d.name = "law" := by
    intro d hd hl
    have : (P.fns.all fun d => !d.lm || d.name == "law") = true := by decide +kernel
    have := List.all_eq_true.mp this d hd
    rw [hl] at this
    simpa using this
  exact fun d e h1 h2 h3 h4 => (h d h1 h2).trans (h e h3 h4).symm
theorem tx : P.txtB st = true := by decide +kernel
def lawD : Fd := (P.fn "law").getD ⟨"", [], [], false, false, .nil⟩
theorem lawD_eq : P.fn "law" = some lawD := by kernel_rfl
theorem lawD_ps : lawD.ps = [("script" : Str)] := by kernel_rfl
end K26
set_option Elab.async false
set_option linter.all false
set_option maxRecDepth 100000
set_option maxHeartbeats 4000000
namespace K26
open PySem Mn
abbrev Γn (n : Nat) (g : Bool) : Mn.Ctx := P.ctx (P.call n) g
def pIn (w : Option W) : Prop := w = none ∨ ∃ x, w = some (W.d x)
/-! ### draws -/
theorem ld_take (n : Nat) (g : Bool) : (Γn n g).lend "_law_take" = true := by kernel_rfl
theorem cq_take (n : Nat) (g : Bool) (ws : List W) : P.call (n + 1) g "_law_take" ws = runB (Γn n g) 2 7 b_x_law_take ws := by kernel_rfl
def BagOk (bag : List D) : Prop := ∃ (a b c : Int) (cs : List Int), bag = [.int a, .int b, .int c, .list (cs.map .int)] ∧ cs.length ≤ 63
def tkEnv (bag : List D) (m : Int) (w4 w5 : Option W) : Mn.Env := [some (.own true bag), some (.d (.int m)), none, none, w4, w5, none]
def firstS : S := .iff (.cmp .eq (.idx (.var 0) (.int 0)) (.int 0)) (.cons (.set 4 (.idx (.op .add (.slc (.idx (.var 0) (.int 3)) (.some (.idx (.var 0) (.int 2))) .none) (.lst (.cons (.int 0) .nil))) (.int 0))) (.cons (.augX 0 (.int 2) .add (.int 1)) (.cons (.iff (.cmp .ge (.var 4) (.op .pow (.int 10) (.int 18))) (.cons (.setX 0 (.int 0) (.var 4)) (.nil)) (.nil)) (.cons (.set 5 (.op .add (.op .add (.op .mul (.idx (.var 0) (.int 1)) (.int 48271)) (.op .mod (.blt .int (.cons (.var 4) .nil)) (.int 2147483647))) (.op .mul (.int 7919) (.idx (.var 0) (.int 2))))) (.cons (.setX 0 (.int 1) (.op .mod (.blt .int (.cons (.var 5) .nil)) (.int 2147483647))) (.nil)))))) (.nil)
theorem mul_ok {i j : Int} (h : bigOk i j = true) : opD .mul (.int i) (.int j) = some (.d (.int (i * j))) := if_pos h
theorem mod_ok {i j : Int} (h : j ≠ 0) : opD .mod (.int i) (.int j) = some (.d (.int (i.fmod j))) := if_pos h
theorem fdiv_ok {i j : Int} (h : j ≠ 0 ∧ j.natAbs < 1073741824) : opD .fdiv (.int i) (.int j) = some (.d (.int (i.fdiv j))) := if_pos h
theorem pow_ok {i j : Int} (h : 0 ≤ j ∧ j ≤ 1000000 ∧ i.natAbs < 2 ^ 64) : opD .pow (.int i) (.int j) = some (.d (.int (i ^ j.toNat))) := if_pos h
theorem big_r (i : Int) {j : Int} (h : -(2 ^ 64) < j ∧ j < 2 ^ 64) : bigOk i j = true := by
  unfold bigOk
  rw [decide_eq_true h, Bool.or_true]
theorem big_l {i : Int} (j : Int) (h : -(2 ^ 64) < i ∧ i < 2 ^ 64) : bigOk i j = true := by
  unfold bigOk
  rw [decide_eq_true h, Bool.true_or]
theorem c_if {t : Bool} {Γ : Mn.Ctx} {a b : Ss} {ρ : Mn.Env} {p : Mn.Env → Prop} (ha : t = true → ∃ ρ1, evSs Γ a ρ = .nx ρ1 ∧ p ρ1) (hb : t = false → ∃ ρ1, evSs Γ b ρ = .nx ρ1 ∧ p ρ1) : ∃ ρ1, (if t then evSs Γ a ρ else evSs Γ b ρ) = .nx ρ1 ∧ p ρ1 := by
  cases t
  · exact hb rfl
  · exact ha rfl
theorem first_ok {bag : List D} (hb : BagOk bag) (m : Int) (Γ : Mn.Ctx) : ∃ bag' w4 w5, evS Γ firstS (tkEnv bag m none none) = .nx (tkEnv bag' m w4 w5) ∧ BagOk bag' := by
  obtain ⟨a, b, c, cs, rfl, hc⟩ := hb
  by_cases q : a = 0
  · -- the cell
    have cut : ∃ z : Int, idxD (.list (cutL (cs.map PyData.int) (some c) none ++ [.int 0])) (.int 0) = some (.int z) ∧ (cutL (cs.map PyData.int) (some c) none).length ≤ 63 := by
      unfold cutL
      have e : ∃ l : List Int, ((cs.map PyData.int).drop (HT.sIx (cs.map PyData.int).length 0 (some c))).take (HT.sIx (cs.map PyData.int).length (cs.map PyData.int).length none - HT.sIx (cs.map PyData.int).length 0 (some c)) = l.map .int ∧ l.length ≤ 63 := by
        refine ⟨(cs.drop (HT.sIx (cs.map PyData.int).length 0 (some c))).take (HT.sIx (cs.map PyData.int).length (cs.map PyData.int).length none - HT.sIx (cs.map PyData.int).length 0 (some c)), ?_, ?_⟩
        · rw [List.map_take, List.map_drop]
        · rw [List.length_take, List.length_drop]
          omega
      obtain ⟨l, e1, e2⟩ := e
      rw [e1]
      cases l with
      | nil => exact ⟨0, rfl, Nat.zero_le _⟩
      | cons z l => exact ⟨z, by simp [idxD, L2.atI, L2.ixN]; rw [if_pos (by omega)]; rfl, by rw [List.length_map]; exact e2⟩
    obtain ⟨z, cut1, cut2⟩ := cut
    have s1 : evS Γ (.set 4 (.idx (.op .add (.slc (.idx (.var 0) (.int 3)) (.some (.idx (.var 0) (.int 2))) .none) (.lst (.cons (.int 0) .nil))) (.int 0))) (tkEnv [.int a, .int b, .int c, .list (cs.map .int)] m none none) = .nx (tkEnv [.int a, .int b, .int c, .list (cs.map .int)] m (some (.d (.int z))) none) := by
      refine s_set (e_idx (e_op (r := .fresh (cutL (cs.map PyData.int) (some c) none ++ [.int 0])) (e_slc (e_idx (e_vo rfl) e_int rfl rfl rfl) (o_some (e_idx (e_vo rfl) e_int rfl rfl rfl)) o_none rfl rfl) (e_lst (es_cons e_int es_nil) rfl (show 1 ≤ LIM by decide)) rfl rfl ?_) e_int rfl rfl cut1) rfl
      show (if _ then some (R.fresh _) else none) = _
      rw [if_pos (show _ + [PyData.int 0].length ≤ LIM from Nat.le_trans (Nat.add_le_add_right cut2 1) (by decide))]
    have s2 : evS Γ (.augX 0 (.int 2) .add (.int 1)) (tkEnv [.int a, .int b, .int c, .list (cs.map .int)] m (some (.d (.int z))) none) = .nx (tkEnv [.int a, .int b, .int (c + 1), .list (cs.map .int)] m (some (.d (.int z))) none) :=
      s_augX rfl e_int rfl rfl e_int rfl rfl rfl (.inl rfl)
    have s3 : ∃ a', evS Γ (.iff (.cmp .ge (.var 4) (.op .pow (.int 10) (.int 18))) (.cons (.setX 0 (.int 0) (.var 4)) (.nil)) (.nil)) (tkEnv [.int a, .int b, .int (c + 1), .list (cs.map .int)] m (some (.d (.int z))) none) = .nx (tkEnv [.int a', .int b, .int (c + 1), .list (cs.map .int)] m (some (.d (.int z))) none) := by
      have t : evC Γ (.cmp .ge (.var 4) (.op .pow (.int 10) (.int 18))) (tkEnv [.int a, .int b, .int (c + 1), .list (cs.map .int)] m (some (.d (.int z))) none) = .ok (decide ((10 : Int) ^ (18 : Int).toNat ≤ z), tkEnv [.int a, .int b, .int (c + 1), .list (cs.map .int)] m (some (.d (.int z))) none) :=
        c_cmp (e_vd rfl) (e_op e_int e_int rfl rfl (pow_ok (by decide))) rfl rfl rfl
      by_cases w : (10 : Int) ^ (18 : Int).toNat ≤ z
      · rw [decide_eq_true w] at t
        exact ⟨z, s_if t (by rw [if_pos rfl]; exact ss_nx (s_setX (e_vd rfl) rfl rfl e_int rfl rfl) (evSs_nil _ _))⟩
      · rw [decide_eq_false w] at t
        exact ⟨a, s_if t (show evSs Γ .nil _ = _ from evSs_nil _ _)⟩
    obtain ⟨a', s3⟩ := s3
    have s4 : ∃ y, evS Γ (.set 5 (.op .add (.op .add (.op .mul (.idx (.var 0) (.int 1)) (.int 48271)) (.op .mod (.blt .int (.cons (.var 4) .nil)) (.int 2147483647))) (.op .mul (.int 7919) (.idx (.var 0) (.int 2))))) (tkEnv [.int a', .int b, .int (c + 1), .list (cs.map .int)] m (some (.d (.int z))) none) = .nx (tkEnv [.int a', .int b, .int (c + 1), .list (cs.map .int)] m (some (.d (.int z))) (some (.d (.int y)))) :=
      ⟨_, s_set (e_op (e_op (e_op (e_idx (e_vo rfl) e_int rfl rfl rfl) e_int rfl rfl (mul_ok (big_r b (by decide)))) (e_op (e_blt (es_cons (e_vd rfl) es_nil) rfl rfl) e_int rfl rfl (mod_ok (by decide))) rfl rfl rfl) (e_op e_int (e_idx (e_vo rfl) e_int rfl rfl rfl) rfl rfl (mul_ok (big_l _ (by decide)))) rfl rfl rfl) rfl⟩
    obtain ⟨y, s4⟩ := s4
    have s5 : evS Γ (.setX 0 (.int 1) (.op .mod (.blt .int (.cons (.var 5) .nil)) (.int 2147483647))) (tkEnv [.int a', .int b, .int (c + 1), .list (cs.map .int)] m (some (.d (.int z))) (some (.d (.int y)))) = .nx (tkEnv [.int a', .int (y.fmod 2147483647), .int (c + 1), .list (cs.map .int)] m (some (.d (.int z))) (some (.d (.int y)))) :=
      s_setX (e_op (e_blt (es_cons (e_vd rfl) es_nil) rfl rfl) e_int rfl rfl (mod_ok (by decide))) rfl rfl e_int rfl rfl
    have t := c_cmp (Γ := Γ) (o := .eq) (a := .idx (.var 0) (.int 0)) (b := .int 0) (ρ := tkEnv [.int a, .int b, .int c, .list (cs.map .int)] m none none) (e_idx (e_vo rfl) e_int rfl rfl rfl) e_int rfl rfl (int_eqb a 0)
    rw [decide_eq_true q] at t
    exact ⟨_, _, _, s_if t (show evSs Γ (.cons _ (.cons _ (.cons _ (.cons _ (.cons _ .nil))))) _ = _ from ss_nx s1 (ss_nx s2 (ss_nx s3 (ss_nx s4 (ss_nx s5 (evSs_nil _ _)))))), a', _, c + 1, cs, rfl, hc⟩
  · have t := c_cmp (Γ := Γ) (o := .eq) (a := .idx (.var 0) (.int 0)) (b := .int 0) (ρ := tkEnv [.int a, .int b, .int c, .list (cs.map .int)] m none none) (e_idx (e_vo rfl) e_int rfl rfl rfl) e_int rfl rfl (int_eqb a 0)
    rw [decide_eq_false q] at t
    exact ⟨_, none, none, s_if t (show evSs Γ .nil _ = _ from evSs_nil _ _), a, b, c, cs, rfl, hc⟩
theorem fmod_in (i : Int) {m : Int} (h : 0 < m) : 0 ≤ i.fmod m ∧ i.fmod m < m := ⟨Int.fmod_nonneg_of_pos _ h, Int.fmod_lt_of_pos _ h⟩
theorem c_take {bag : List D} (hb : BagOk bag) {m : Int} (h1 : 0 < m) (h2 : m < 1000000) (n : Nat) (g : Bool) :
    ∃ v bag', P.call (n + 1) g "_law_take" [.own true bag, .d (.int m)] = .ret (.d (.int v)) (some bag') ∧ BagOk bag' ∧ 0 ≤ v ∧ v < m := by
  rw [cq_take]
  obtain ⟨bag1, w4, w5, f1, hb1⟩ := first_ok hb m (Γn n g)
  obtain ⟨a, b, c, cs, rfl, hc⟩ := hb1
  have m0 : m ≠ 0 := by omega
  have mb : m.natAbs < 1073741824 := by omega
  have t := c_cmp (Γ := Γn n g) (o := .gt) (a := .idx (.var 0) (.int 0)) (b := .int 0) (ρ := tkEnv [.int a, .int b, .int c, .list (cs.map .int)] m w4 w5) (e_idx (e_vo rfl) e_int rfl rfl rfl) e_int rfl rfl (t := decide (0 < a)) rfl
  by_cases q : 0 < a
  · rw [decide_eq_true q] at t
    refine ⟨a.fmod m, [.int (a.fdiv m), .int b, .int c, .list (cs.map .int)], runB_rt rfl rfl (ss_nx f1 (ss_rt (s_if t (show evSs (Γn n g) (.cons _ (.cons _ (.cons _ .nil))) _ = _ from
      ss_nx (s_set (e_op (e_blt (es_cons (e_idx (e_vo rfl) e_int rfl rfl rfl) es_nil) rfl rfl) (e_vd rfl) rfl rfl (mod_ok m0)) rfl)
      (ss_nx (s_setX (e_op (e_blt (es_cons (e_idx (e_vo rfl) e_int rfl rfl rfl) es_nil) rfl rfl) (e_vd rfl) rfl rfl (fdiv_ok ⟨m0, mb⟩)) rfl rfl e_int rfl rfl) (ss_rt (s_ret (e_vd rfl)))))))) rfl, ⟨_, b, c, cs, rfl, hc⟩, fmod_in a h1⟩
  · rw [decide_eq_false q] at t
    have r1 := fmod_in ((b + 1) * 39373) (show (0 : Int) < 1000000007 by decide)
    have r2 := fmod_in ((((b + 1) * 39373).fmod 1000000007) * (((b + 1) * 39373).fmod 1000000007)) (show (0 : Int) < 998244353 by decide)
    refine ⟨_, [.int a, .int b, .int c, .list (cs.map .int)], runB_rt rfl rfl (ss_nx f1 (ss_nx (s_if t (show evSs (Γn n g) .nil _ = _ from evSs_nil _ _))
      (ss_nx (s_set (e_op (e_blt (es_cons (e_op (e_op (e_idx (e_vo rfl) e_int rfl rfl rfl) e_int rfl rfl rfl) e_int rfl rfl (mul_ok (big_r _ (by decide)))) es_nil) rfl rfl) e_int rfl rfl (mod_ok (by decide))) rfl)
      (ss_nx (s_set (e_op (e_blt (es_cons (e_op (e_op (e_blt (es_cons (e_op (e_vd rfl) (e_vd rfl) rfl rfl (mul_ok (big_r _ (by omega)))) es_nil) rfl rfl) e_int rfl rfl (mod_ok (by decide))) e_int rfl rfl (mul_ok (big_r _ (by decide)))) es_nil) rfl rfl) e_int rfl rfl (mod_ok (by decide))) rfl)
      (ss_rt (s_ret (e_op (e_blt (es_cons (e_op (e_vd rfl) e_int rfl rfl (fdiv_ok (by decide))) es_nil) rfl rfl) (e_vd rfl) rfl rfl (mod_ok m0)))))))) rfl, ⟨a, b, c, cs, rfl, hc⟩, fmod_in _ h1⟩
theorem ld_bag (n : Nat) (g : Bool) : (Γn n g).lend "_law_bag" = false := by kernel_rfl
theorem ld_some (n : Nat) (g : Bool) : (Γn n g).lend "_law_some" = true := by kernel_rfl
theorem ld_things (n : Nat) (g : Bool) : (Γn n g).lend "_law_things" = true := by kernel_rfl
theorem ld_mixed (n : Nat) (g : Bool) : (Γn n g).lend "_law_mixed" = true := by kernel_rfl
theorem ld_alike (n : Nat) (g : Bool) : (Γn n g).lend "_law_alike" = false := by kernel_rfl
theorem cq_bag (n : Nat) (g : Bool) (ws : List W) : P.call (n + 1) g "_law_bag" ws = runB (Γn n g) 1 2 b_x_law_bag ws := by kernel_rfl
theorem cq_some (n : Nat) (g : Bool) (ws : List W) : P.call (n + 1) g "_law_some" ws = runB (Γn n g) 2 2 b_x_law_some ws := by kernel_rfl
theorem cq_things (n : Nat) (g : Bool) (ws : List W) : P.call (n + 1) g "_law_things" ws = runB (Γn n g) 2 2 b_x_law_things ws := by kernel_rfl
theorem cq_mixed (n : Nat) (g : Bool) (ws : List W) : P.call (n + 1) g "_law_mixed" ws = runB (Γn n g) 2 4 b_x_law_mixed ws := by kernel_rfl
theorem cq_alike (n : Nat) (g : Bool) (ws : List W) : P.call (n + 1) g "_law_alike" ws = runB (Γn n g) 2 2 b_x_law_alike ws := by kernel_rfl
def absD : D → D
  | .int i => .int (if i < 0 then -i else i)
  | _ => .none
theorem c_bag (ns : List Int) (n : Nat) (g : Bool) : ∃ bag, P.call (n + 1) g "_law_bag" [.d (.list (ns.map .int))] = .ret (.fresh bag) none ∧ BagOk bag := by
  rw [cq_bag]
  have e : cutL (ns.map PyData.int) none (some 63) = (ns.take 63).map .int := by
    unfold cutL
    have h1 : HT.sIx (ns.map PyData.int).length 0 none = 0 := rfl
    have h2 : HT.sIx (ns.map PyData.int).length (ns.map PyData.int).length (some 63) = min 63 ns.length := by
      rw [List.length_map]
      exact HT.sIx_nat _ _ 63
    rw [h1, h2, List.drop_zero, Nat.sub_zero, List.map_take]
    rw [List.take_eq_take_iff, List.length_map]
    omega
  have tl : (ns.take 63).length ≤ 63 := by rw [List.length_take]; omega
  have l1 : lcLoop (lcTurn (.one 1) (evOc (Γn n g) .yes) (evE (Γn n g) (.blt .abs (.cons (.var 1) .nil))) [1]) ((ns.take 63).map .int) [] [some (.d (.list (ns.map .int))), none] = .ok (((ns.take 63).map .int).map absD, [some (.d (.list (ns.map .int))), none]) := by
    refine lc_map _ (fun x hx => ?_) (by rw [List.length_map]; exact Nat.le_trans tl (by decide))
    obtain ⟨i, _, rfl⟩ := List.mem_map.mp hx
    exact turn_yes rfl oc_yes (e_blt (es_cons (e_vd rfl) es_nil) rfl rfl) rfl
  have e2 : ((ns.take 63).map PyData.int).map absD = ((ns.take 63).map fun i => if i < 0 then -i else i).map .int := by
    rw [List.map_map, List.map_map]
    rfl
  rw [e2, ← e] at l1
  exact ⟨_, runB_rt rfl rfl (ss_rt (s_ret (e_lst (es_cons e_int (es_cons e_int (es_cons e_int (es_cons (e_lc (i_seq (e_slc (e_vd rfl) o_none (o_some e_int) rfl rfl) rfl rfl) l1) es_nil)))) rfl (show 4 ≤ LIM by decide)))) rfl, _, _, _, _, rfl, by rw [List.length_map]; exact tl⟩
theorem at_mem {xs : List D} {v : Int} (h0 : 0 ≤ v) (h1 : v < xs.length) : ∃ x, x ∈ xs ∧ L2.atI xs v = some x := by
  obtain ⟨k, rfl⟩ := Int.eq_ofNat_of_zero_le h0
  have h2 : k < xs.length := by omega
  refine ⟨xs[k], List.getElem_mem h2, ?_⟩
  unfold L2.atI L2.ixN
  simp [h2]
theorem c_some {bag : List D} (hb : BagOk bag) {xs : List D} (h0 : 0 < xs.length) (hl : xs.length < 1000) (n : Nat) (g : Bool) :
    ∃ x bag', P.call (n + 2) g "_law_some" [.own true bag, .d (.list xs)] = .ret (.d x) (some bag') ∧ BagOk bag' ∧ x ∈ xs := by
  rw [cq_some]
  obtain ⟨v, bag', e, hb', v0, v1⟩ := c_take hb (m := xs.length) (by omega) (by omega) n g
  obtain ⟨x, hx, ex⟩ := at_mem v0 v1
  exact ⟨x, bag', runB_rt rfl rfl (ss_rt (s_ret (e_idx (u := .list xs) (v := .int v) (d := x) (e_vd rfl) (e_pl (es_cons (e_vo rfl) (es_cons (e_blt (es_cons (e_vd rfl) es_nil) rfl rfl) es_nil)) (ld_take _ _) rfl rfl rfl e) rfl rfl ex))) rfl, hb', hx⟩
theorem cut_lt : ∀ k : Nat, k ≤ 6 → cutL ((Lt.take 6).map PyData.str) none (some (k : Int)) = (Lt.take k).map .str := fun k h => by
  have : k = 0 ∨ k = 1 ∨ k = 2 ∨ k = 3 ∨ k = 4 ∨ k = 5 ∨ k = 6 := by omega
  rcases this with rfl | rfl | rfl | rfl | rfl | rfl | rfl <;> rfl
theorem c_things {bag : List D} (hb : BagOk bag) (n : Nat) (g : Bool) :
    ∃ k bag', P.call (n + 2) g "_law_things" [.own true bag, .d (.int 6)] = .ret (.d (tS (Lt.take k))) (some bag') ∧ BagOk bag' ∧ 3 ≤ k ∧ k ≤ 6 := by
  rw [cq_things]
  obtain ⟨v, bag', e, hb', v0, v1⟩ := c_take hb (m := 6 - 2) (by decide) (by decide) n g
  have ek : (3 : Int) + v = ((3 + v.toNat : Nat) : Int) := by omega
  have kl : 3 + v.toNat ≤ 6 := by omega
  refine ⟨3 + v.toNat, bag', runB_rt rfl rfl (ss_rt (s_ret (e_slc (u := .tuple ((Lt.take 6).map .str)) (r := .d (tS (Lt.take (3 + v.toNat)))) (e_tup (es_cons e_str (es_cons e_str (es_cons e_str (es_cons e_str (es_cons e_str (es_cons e_str es_nil)))))) rfl (show 6 ≤ LIM by decide)) o_none (o_some (e_op e_int (e_pl (es_cons (e_vo rfl) (es_cons (e_op (e_vd rfl) e_int rfl rfl rfl) es_nil)) (ld_take _ _) rfl rfl rfl e) rfl rfl rfl)) rfl ?_))) rfl, hb', by omega, kl⟩
  show some (R.d (.tuple (cutL ((Lt.take 6).map PyData.str) none (some ((3 : Int) + v))))) = _
  rw [ek, cut_lt _ kl]
  rfl
theorem c_alike {d : D} (h : plainD d = true) (hd : d.depth ≤ 60) (hw : d.weight ≤ 2 ^ 18) (n : Nat) : P.call (n + 1) true "_law_alike" [.d d, .d d] = .ret (.d (.bool true)) none := by
  rw [cq_alike]
  obtain ⟨r1, r2, r3⟩ := repr_ok h hd hw
  exact runB_rt rfl rfl (ss_rt (s_ret (e_andV (e_ofC (c_cmp (e_blt (es_cons (e_vd rfl) es_nil) rfl r1) (e_blt (es_cons (e_vd rfl) es_nil) rfl r1) rfl rfl r2)) (e_ofC (c_cmp (e_vd rfl) (e_vd rfl) rfl rfl r3))))) rfl
/-! ### mixed -/
abbrev MSt := List D × List D × Option W
def mEnv (xs : List D) (a : MSt) : Mn.Env := [some (.own true a.1), some (.d (.list xs)), some (.own false a.2.1), a.2.2]
def bodyM : Ss := .cons (.expr (.ins 2 (.call "_law_take" (.cons (.var 0) (.cons (.op .add (.blt .len (.cons (.var 2) .nil)) (.int 1)) .nil))) (.var 3))) (.nil)
theorem setM (xs : List D) (a : MSt) (h : pIn a.2.2) (x : D) : Tg.set (mEnv xs a) x (.one 3) = some (mEnv xs (a.1, a.2.1, some (.d x))) := by
  obtain ⟨b, f, p⟩ := a
  rcases h with h | ⟨x, h⟩ <;> (cases h; rfl)
theorem turnM {xs : List D} {bag f : List D} (hb : BagOk bag) (hl : f.length < 1000) (x : D) (n : Nat) (g : Bool) : ∃ bag' f', evSs (Γn (n + 1) g) bodyM (mEnv xs (bag, f, some (.d x))) = .nx (mEnv xs (bag', f', some (.d x))) ∧ BagOk bag' ∧ f'.Perm (x :: f) := by
  obtain ⟨v, bag', e, hb', v0, v1⟩ := c_take hb (m := f.length + 1) (by omega) (by omega) n g
  refine ⟨bag', f.take v.toNat ++ [x] ++ f.drop v.toNat, ss_nx (s_expr (e_ins rfl (e_pl (es_cons (e_vo rfl) (es_cons (e_op (e_blt (es_cons (e_vo rfl) es_nil) rfl rfl) e_int rfl rfl rfl) es_nil)) (ld_take _ _) rfl rfl rfl e) (e_vd rfl) rfl rfl ⟨v0, ?_, ?_⟩)) (evSs_nil _ _), hb', ?_⟩
  · have : LIM = 1000000 := rfl
    omega
  · show f.length < LIM
    have : LIM = 1000000 := rfl
    omega
  · have := List.perm_middle (a := x) (l₁ := f.take v.toNat) (l₂ := f.drop v.toNat)
    rw [List.take_append_drop] at this
    rw [List.append_assoc]
    exact this
theorem c_mixed {bag : List D} (hb : BagOk bag) {xs : List D} (hl : xs.length < 1000) (n : Nat) (g : Bool) :
    ∃ ys bag', P.call (n + 2) g "_law_mixed" [.own true bag, .d (.list xs)] = .ret (.fresh ys) (some bag') ∧ BagOk bag' ∧ ys.Perm xs := by
  rw [cq_mixed]
  obtain ⟨a', f1, ⟨x1, x2, x3, x4⟩⟩ := for_inv (f := fun x ρ => match Tg.set ρ x (.one 3) with
      | some ρ => evSs (Γn (n + 1) g) bodyM ρ
      | none => .stuck) (mEnv xs)
    (fun rest a => BagOk a.1 ∧ (rest ++ a.2.1).Perm xs ∧ pIn a.2.2 ∧ a.2.1.length + rest.length = xs.length)
    (xs := xs) (a := (bag, [], none))
    ⟨hb, by rw [List.append_nil], .inl rfl, by simp⟩
    fun x rest a ⟨y1, y2, y3, y4⟩ => by
      obtain ⟨bag, f, p⟩ := a
      have y2' : (x :: rest ++ f).Perm xs := y2
      have y4' : f.length + (rest.length + 1) = xs.length := y4
      obtain ⟨bag', f', e, hb', pm⟩ := turnM (xs := xs) y1 (show f.length < 1000 by omega) x n g
      refine ⟨(bag', f', some (.d x)), ?_, hb', ?_, .inr ⟨_, rfl⟩, ?_⟩
      · show (match Tg.set (mEnv xs (bag, f, p)) x (.one 3) with
          | some ρ => evSs (Γn (n + 1) g) bodyM ρ
          | none => .stuck) = _
        rw [setM xs _ y3]
        exact e
      · exact ((pm.append_left rest).trans List.perm_middle).trans y2'
      · have := pm.length_eq
        show f'.length + _ = _
        rw [this, List.length_cons]
        omega
  obtain ⟨bag', f, p⟩ := a'
  exact ⟨f, bag', runB_rt rfl rfl (ss_nx (s_set (e_lst es_nil rfl (show 0 ≤ LIM by decide)) rfl) (ss_nx (s_for (i_seq (e_vd rfl) rfl rfl) f1) (ss_rt (s_ret (e_vo rfl))))) rfl, x1, x2⟩
end K26
set_option Elab.async false
set_option linter.all false
set_option maxRecDepth 100000
set_option maxHeartbeats 4000000
namespace K26
open PySem Mn
/-! ### forms -/
def isRet (c : CRes) (d : Bool) : Bool := match c with
  | .ret (.d (.bool b)) none => b == d
  | _ => false
theorem isRet_ok {c : CRes} {d : Bool} (h : isRet c d = true) : c = .ret (.d (.bool d)) none := by
  unfold isRet at h
  split at h
  · rw [eq_of_beq h]
  · cases h
theorem name_all (n : Nat) (g : Bool) : (Lt.all fun a => isRet (P.call (n + 1) g "is_name" [.d (.str a)]) true) = true := by kernel_rfl
theorem c_name {a : Str} (h : a ∈ Lt) (n : Nat) (g : Bool) : P.call (n + 1) g "is_name" [.d (.str a)] = .ret (.d (.bool true)) none := isRet_ok (List.all_eq_true.mp (name_all n g) a h)
theorem ld_name (n : Nat) (g : Bool) : (Γn n g).lend "is_name" = false := by kernel_rfl
theorem cq_tupof (n : Nat) (g : Bool) (ws : List W) : P.call (n + 1) g "is_tuple_of" ws = runB (Γn n g) 2 3 b_is_tuple_of ws := by kernel_rfl
theorem c_tupof {l : List Str} (h : ∀ a, a ∈ l → a ∈ Lt) (hl : l.length ≤ 1000) (n : Nat) (g : Bool) : P.call (n + 2) g "is_tuple_of" [.d (tS l), .fn "is_name"] = .ret (.d (.bool true)) none := by
  rw [cq_tupof]
  have lc : lcLoop (lcTurn (.one 2) (evOc (Γn (n + 1) g) .yes) (evE (Γn (n + 1) g) (.callV 1 (.cons (.var 2) .nil))) [2]) (l.map PyData.str) [] [some (.d (tS l)), some (.fn "is_name"), none] = .ok ((l.map PyData.str).map (fun _ => PyData.bool true), [some (.d (tS l)), some (.fn "is_name"), none]) := by
    refine lc_map _ (fun x hx => ?_) (by rw [List.length_map]; exact Nat.le_trans hl (by decide))
    obtain ⟨a, ha, rfl⟩ := List.mem_map.mp hx
    exact turn_yes rfl oc_yes (e_callV rfl rfl (es_cons (e_vd rfl) es_nil) (ld_name _ _) rfl (c_name (h a ha) n g) rfl) rfl
  refine runB_rt rfl rfl (ss_rt (s_ret (e_andP (t := true) (u := true) (e_blt (es_cons (e_vd rfl) es_nil) rfl rfl) fun _ => e_blt (es_cons (e_lc (i_seq (e_vd rfl) rfl rfl) lc) es_nil) rfl ?_))) rfl
  have e : (l.map PyData.str).map (fun _ => PyData.bool true) = (l.map fun _ => true).map .bool := by rw [List.map_map, List.map_map]; rfl
  rw [e]
  show (boolsD _).map _ = _
  rw [bools_map]
  have : (l.map fun _ => true).all id = true := by rw [List.all_map]; exact List.all_eq_true.mpr fun _ _ => rfl
  rw [Option.map_some, this]
theorem ld_tupof (n : Nat) (g : Bool) : (Γn n g).lend "is_tuple_of" = false := by kernel_rfl
theorem cq_names (n : Nat) (g : Bool) (ws : List W) : P.call (n + 1) g "is_names" ws = runB (Γn n g) 1 1 b_is_names ws := by kernel_rfl
theorem c_names {l : List Str} (h : ∀ a, a ∈ l → a ∈ Lt) (hl : l.length ≤ 1000) (n : Nat) (g : Bool) : P.call (n + 3) g "is_names" [.d (tS l)] = .ret (.d (.bool true)) none := by
  rw [cq_names]
  exact runB_rt rfl rfl (ss_rt (s_ret (e_pw (es_cons (e_vd rfl) (es_cons (e_fn (by kernel_rfl)) es_nil)) (ld_tupof _ _) rfl (c_tupof h hl n g) rfl))) rfl
theorem ld_names (n : Nat) (g : Bool) : (Γn n g).lend "is_names" = false := by kernel_rfl
theorem ld_sized (n : Nat) (g : Bool) : (Γn n g).lend "is_sized" = false := by kernel_rfl
theorem cq_form (n : Nat) (g : Bool) (ws : List W) : P.call (n + 1) g "is_saying_form" ws = runB (Γn n g) 1 1 b_is_saying_form ws := by kernel_rfl
theorem c_form {s : Sy} (h : SyOk s) (n : Nat) (g : Bool) : P.call (n + 4) g "is_saying_form" [.d (sD s)] = .ret (.d (.bool true)) none := by
  rw [cq_form]
  have sz : P.call (n + 3) g "is_sized" [.d (sD s), .d (.int 3)] = .ret (.d (.bool true)) none := by kernel_rfl
  exact runB_rt rfl rfl (ss_rt (s_ret (e_andP (t := true) (u := true) (e_p (es_cons (e_vd rfl) (es_cons e_int es_nil)) (ld_sized _ _) rfl sz) fun _ => e_p (es_cons (e_vd rfl) es_nil) (ld_names _ _) rfl (c_names (l := sL s) h.lt (show 3 ≤ 1000 by decide) n g)))) rfl
theorem ld_form (n : Nat) (g : Bool) : (Γn n g).lend "is_saying_form" = false := by kernel_rfl
/-! ### faults, threes, sayings of the first things -/
def isNon (c : CRes) : Bool := match c with
  | .ret (.d .none) none => true
  | _ => false
theorem isNon_ok {c : CRes} (h : isNon c = true) : c = .ret (.d .none) none := by
  unfold isNon at h
  split at h
  · rfl
  · cases h
theorem k_cases {k : Nat} (h1 : 3 ≤ k) (h2 : k ≤ 6) {p : Nat → Prop} (p3 : p 3) (p4 : p 4) (p5 : p 5) (p6 : p 6) : p k := by
  have : k = 3 ∨ k = 4 ∨ k = 5 ∨ k = 6 := by omega
  rcases this with rfl | rfl | rfl | rfl <;> assumption
def fltB (n : Nat) (g : Bool) (k : Nat) : Bool := (sayAll (Lt.take k)).all fun s => isNon (P.call (n + 1) g "fault_of" [.d (tS (Lt.take k)), .d (sD s)])
theorem flt_all {k : Nat} (h1 : 3 ≤ k) (h2 : k ≤ 6) (n : Nat) (g : Bool) : fltB n g k = true := k_cases (p := fun k => fltB n g k = true) h1 h2 (by kernel_rfl) (by kernel_rfl) (by kernel_rfl) (by kernel_rfl)
theorem c_fault {k : Nat} (h1 : 3 ≤ k) (h2 : k ≤ 6) {s : Sy} (hs : s ∈ sayAll (Lt.take k)) (n : Nat) (g : Bool) : P.call (n + 1) g "fault_of" [.d (tS (Lt.take k)), .d (sD s)] = .ret (.d .none) none :=
  isNon_ok (List.all_eq_true.mp (flt_all h1 h2 n g) s hs)
theorem ld_fault (n : Nat) (g : Bool) : (Γn n g).lend "fault_of" = false := by kernel_rfl
theorem c_threes {k : Nat} (h1 : 3 ≤ k) (h2 : k ≤ 6) (n : Nat) (g : Bool) : P.call (n + 1) g "all_threes" [.d (tS (Lt.take k))] = .ret (.fresh ((thr (Lt.take k)).map sD)) none :=
  k_cases (p := fun k => P.call (n + 1) g "all_threes" [.d (tS (Lt.take k))] = .ret (.fresh ((thr (Lt.take k)).map sD)) none) h1 h2 (by kernel_rfl) (by kernel_rfl) (by kernel_rfl) (by kernel_rfl)
theorem ld_threes (n : Nat) (g : Bool) : (Γn n g).lend "all_threes" = false := by kernel_rfl
theorem c_lthrees {k : Nat} (h1 : 3 ≤ k) (h2 : k ≤ 6) (n : Nat) (g : Bool) : P.call (n + 1) g "_law_threes" [.d (tS (Lt.take k))] = .ret (.fresh ((thr (Lt.take k)).map sD)) none :=
  k_cases (p := fun k => P.call (n + 1) g "_law_threes" [.d (tS (Lt.take k))] = .ret (.fresh ((thr (Lt.take k)).map sD)) none) h1 h2 (by kernel_rfl) (by kernel_rfl) (by kernel_rfl) (by kernel_rfl)
theorem ld_lthrees (n : Nat) (g : Bool) : (Γn n g).lend "_law_threes" = false := by kernel_rfl
theorem c_lall {k : Nat} (h1 : 3 ≤ k) (h2 : k ≤ 6) (n : Nat) (g : Bool) : P.call (n + 1) g "_law_all_sayings" [.d (tS (Lt.take k))] = .ret (.fresh ((sayAll (Lt.take k)).map sD)) none :=
  k_cases (p := fun k => P.call (n + 1) g "_law_all_sayings" [.d (tS (Lt.take k))] = .ret (.fresh ((sayAll (Lt.take k)).map sD)) none) h1 h2 (by kernel_rfl) (by kernel_rfl) (by kernel_rfl) (by kernel_rfl)
theorem ld_lall (n : Nat) (g : Bool) : (Γn n g).lend "_law_all_sayings" = false := by kernel_rfl
end K26
set_option Elab.async false
set_option linter.all false
set_option maxRecDepth 100000
set_option maxHeartbeats 4000000
namespace K26
open PySem Mn
/-! ### all parts -/
theorem cq_parts (n : Nat) (g : Bool) (ws : List W) : P.call (n + 1) g "all_parts" ws = runB (Γn n g) 1 3 b_all_parts ws := by kernel_rfl
theorem ld_parts (n : Nat) (g : Bool) : (Γn n g).lend "all_parts" = false := by kernel_rfl
def apEnv (t : Tr) (a : List Tr × Nat) : Mn.Env := [some (.d t.dat), some (.own false (a.1.map Tr.dat)), some (.d (.int (a.2 : Nat)))]
theorem at_nat' {xs : List D} {k : Nat} {x : D} (h : xs[k]? = some x) : L2.atI xs (k : Nat) = some x := by
  have h2 : k < xs.length := (List.getElem?_eq_some_iff.mp h).1
  unfold L2.atI L2.ixN
  simp [h2, h]
  exact (List.getElem?_eq_some_iff.mp h).2
theorem lim_le {n : Nat} (h : n ≤ 100000) : n ≤ LIM := Nat.le_trans h (by decide)
theorem lt_int (i j : Int) : cmpD .lt (.int i) (.int j) = some (decide (i < j)) := rfl
theorem tup_tr (ts : List Tr) : (Tr.node ts).dat = .tuple (ts.map Tr.dat) := Tr.dat_node ts
theorem c_parts {t : Tr} (h : TrS t) (n : Nat) (g : Bool) : ∃ L : List Tr, P.call (n + 1) g "all_parts" [.d t.dat] = .ret (.fresh (L.map Tr.dat)) none ∧ L.Perm t.parts := by
  rw [cq_parts]
  have hp := h.parts_le
  obtain ⟨a', w1, ⟨j1, j2, j3⟩, d⟩ := wh_inv (t := evC (Γn n g) (.cmp .lt (.var 2) (.blt .len (.cons (.var 1) .nil)))) (f := evSs (Γn n g) (.cons (.iff (.tru (.blt .isTup (.cons (.idx (.var 1) (.var 2)) .nil))) (.cons (.expr (.ext 1 (.idx (.var 1) (.var 2)))) (.nil)) (.nil)) (.cons (.aug 2 .add (.int 1)) (.nil)))) (apEnv t)
    (fun a => a.2 ≤ a.1.length ∧ (a.1.take a.2 ++ (a.1.drop a.2).flatMap Tr.parts).Perm t.parts ∧ a.1.length ≤ t.parts.length) (fun a => a.2 = a.1.length) (fun a => ((a.1.drop a.2).flatMap Tr.parts).length) (k := 200) (a := ([t], 0))
    (fun a ⟨j1, j2, j3⟩ => by
      obtain ⟨L, i⟩ := a
      have j1 : i ≤ L.length := j1
      have j2 : (L.take i ++ (L.drop i).flatMap Tr.parts).Perm t.parts := j2
      have j3 : L.length ≤ t.parts.length := j3
      have test : evC (Γn n g) (.cmp .lt (.var 2) (.blt .len (.cons (.var 1) .nil))) (apEnv t (L, i)) = .ok (decide ((i : Int) < ((L.map Tr.dat).length : Nat)), apEnv t (L, i)) := c_cmp (e_vd rfl) (e_blt (es_cons (e_vo rfl) es_nil) rfl rfl) rfl rfl rfl
      rw [List.length_map] at test
      by_cases q : i < L.length
      · refine .inr ?_
        rw [decide_eq_true (by omega)] at test
        obtain ⟨x, hx, hd⟩ : ∃ x, L[i]? = some x ∧ L.drop i = x :: L.drop (i + 1) := ⟨L[i], by simp [q], List.drop_eq_getElem_cons q⟩
        have hx' : (L.map Tr.dat)[i]? = some x.dat := by rw [List.getElem?_map, hx]; rfl
        have et : L.take (i + 1) = L.take i ++ [x] := by rw [List.take_succ, hx]; rfl
        rw [hd, List.flatMap_cons] at j2
        have tl : i + 1 ≤ L.length := q
        cases x with
        | leaf s =>
          refine ⟨(L, i + 1), test, ?_, ⟨q, ?_, j3⟩, ?_⟩
          · refine ss_F (c_tru (e_blt (es_cons (e_idx (u := .list (L.map Tr.dat)) (v := .int (i : Nat)) (e_vo rfl) (e_vd rfl) rfl rfl (at_nat' hx')) es_nil) rfl rfl) rfl rfl) (evSs_nil _ _) ?_
            exact ss_nx (show evS (Γn n g) (.aug 2 .add (.int 1)) (apEnv t (L, i)) = .nx (apEnv t (L, i + 1)) from s_aug (u := (i : Nat)) (v := 1) (z := ((i + 1 : Nat) : Int)) rfl e_int rfl rfl rfl) (evSs_nil _ _)
          · show (L.take (i + 1) ++ (L.drop (i + 1)).flatMap Tr.parts).Perm t.parts
            rw [et]
            rw [Tr.parts] at j2
            simpa using j2
          · show ((L.drop (i + 1)).flatMap Tr.parts).length < ((L.drop i).flatMap Tr.parts).length
            rw [hd, List.flatMap_cons, List.length_append, Tr.parts, List.length_singleton]
            omega
        | node ts =>
          have hts : L.length + ts.length ≤ t.parts.length := by
            have := j2.length_eq
            rw [List.length_append, List.length_append, List.length_take, Tr.parts_node, List.length_cons] at this
            have e1 : ts.length ≤ (ts.flatMap Tr.parts).length := by
              clear hx' hx hd et j2 test this
              induction ts with
              | nil => exact Nat.zero_le _
              | cons u ts ih =>
                rw [List.flatMap_cons, List.length_append, List.length_cons]
                have : 1 ≤ u.parts.length := List.length_pos_of_mem (Tr.mem_self u)
                omega
            have e2 : L.length - (i + 1) ≤ ((L.drop (i + 1)).flatMap Tr.parts).length := by
              have : ∀ us : List Tr, us.length ≤ (us.flatMap Tr.parts).length := by
                intro us
                induction us with
                | nil => exact Nat.zero_le _
                | cons u us ih =>
                  rw [List.flatMap_cons, List.length_append, List.length_cons]
                  have : 1 ≤ u.parts.length := List.length_pos_of_mem (Tr.mem_self u)
                  omega
              have := this (L.drop (i + 1))
              rwa [List.length_drop] at this
            omega
          refine ⟨(L ++ ts, i + 1), test, ?_, ⟨?_, ?_, ?_⟩, ?_⟩
          · rw [tup_tr] at hx'
            refine ss_T (c_tru (e_blt (es_cons (e_idx (u := .list (L.map Tr.dat)) (v := .int (i : Nat)) (e_vo rfl) (e_vd rfl) rfl rfl (at_nat' hx')) es_nil) rfl rfl) rfl rfl) (ss_nx (s_expr (e_extT (ys := ts.map Tr.dat) rfl (e_idx (u := .list (L.map Tr.dat)) (v := .int (i : Nat)) (e_vo rfl) (e_vd rfl) rfl rfl (at_nat' hx')) rfl rfl (by rw [List.length_map, List.length_map]; exact lim_le (by omega)) rfl)) (evSs_nil _ _)) ?_
            rw [← List.map_append]
            exact ss_nx (show evS (Γn n g) (.aug 2 .add (.int 1)) (apEnv t (L ++ ts, i)) = .nx (apEnv t (L ++ ts, i + 1)) from s_aug (u := (i : Nat)) (v := 1) (z := ((i + 1 : Nat) : Int)) rfl e_int rfl rfl rfl) (evSs_nil _ _)
          · show i + 1 ≤ (L ++ ts).length
            rw [List.length_append]; omega
          · show ((L ++ ts).take (i + 1) ++ ((L ++ ts).drop (i + 1)).flatMap Tr.parts).Perm t.parts
            rw [List.take_append_of_le_length tl, List.drop_append_of_le_length tl, et, List.flatMap_append]
            rw [Tr.parts_node] at j2
            refine List.Perm.trans ?_ j2
            rw [List.append_assoc]
            refine List.Perm.append_left _ ?_
            show (Tr.node ts :: ((L.drop (i + 1)).flatMap Tr.parts ++ ts.flatMap Tr.parts)).Perm (Tr.node ts :: (ts.flatMap Tr.parts ++ (L.drop (i + 1)).flatMap Tr.parts))
            exact List.Perm.cons _ List.perm_append_comm
          · show (L ++ ts).length ≤ _
            rw [List.length_append]; exact hts
          · show (((L ++ ts).drop (i + 1)).flatMap Tr.parts).length < ((L.drop i).flatMap Tr.parts).length
            rw [List.drop_append_of_le_length tl, hd, List.flatMap_append, List.flatMap_cons, List.length_append, List.length_append, Tr.parts_node, List.length_cons]
            omega
      · refine .inl ⟨?_, show i = L.length by omega⟩
        rw [decide_eq_false (by omega)] at test
        exact test)
    ⟨Nat.zero_le _, by simp, by show 1 ≤ _; exact List.length_pos_of_mem (Tr.mem_self t)⟩ (by show (([t].drop 0).flatMap Tr.parts).length < 200; simp; omega)
  obtain ⟨L, i⟩ := a'
  have d : i = L.length := d
  have j2 : (L.take i ++ (L.drop i).flatMap Tr.parts).Perm t.parts := j2
  rw [d, List.take_length, List.drop_length, List.flatMap_nil, List.append_nil] at j2
  refine ⟨L, runB_rt rfl rfl (ss_nx (s_par (e_lst (es_cons (e_vd rfl) es_nil) rfl (show 1 ≤ LIM by decide)) e_int (by decide) rfl rfl rfl rfl rfl) (ss_nx (s_whil w1) (ss_rt (s_ret (e_vo rfl))))) rfl, j2⟩
/-! ### things -/
theorem cq_namesin (n : Nat) (g : Bool) (ws : List W) : P.call (n + 1) g "names_in" ws = runB (Γn n g) 1 2 b_names_in ws := by kernel_rfl
theorem ld_namesin (n : Nat) (g : Bool) : (Γn n g).lend "names_in" = false := by kernel_rfl
def nmD (x : D) : Option D := match x with
  | .str s => some (.str s)
  | _ => none
theorem nm_dat (u : Tr) : nmD u.dat = (Tr.nm u).map .str := by
  cases u with
  | leaf s => rw [Tr.dat]; rfl
  | node ts => rw [tup_tr]; rfl
theorem c_namesin {t : Tr} (h : TrS t) (n : Nat) (g : Bool) : ∃ ns : List Str, P.call (n + 2) g "names_in" [.d t.dat] = .ret (.fresh (ns.map .str)) none ∧ ns.Perm t.leaves := by
  rw [cq_namesin]
  obtain ⟨L, e, pm⟩ := c_parts h n g
  have ll : L.length ≤ 15 := by rw [pm.length_eq]; exact h.parts_le
  have lc : lcLoop (lcTurn (.one 1) (evOc (Γn (n + 1) g) (.some (.tru (.blt .isStr (.cons (.var 1) .nil))))) (evE (Γn (n + 1) g) (.var 1)) [1]) (L.map Tr.dat) [] [some (.d t.dat), none] = .ok ([] ++ (L.map Tr.dat).filterMap nmD, [some (.d t.dat), none]) := by
    refine lc_pure nmD (fun x hx => ?_) (by rw [List.length_map]; exact lim_le (by show 0 + _ ≤ _; omega))
    obtain ⟨u, _, rfl⟩ := List.mem_map.mp hx
    cases u with
    | leaf s =>
      rw [Tr.dat]
      exact turn_yes rfl (oc_some (c_tru (e_blt (es_cons (e_vd rfl) es_nil) rfl rfl) rfl rfl)) (e_vd rfl) rfl
    | node ts =>
      rw [tup_tr]
      exact turn_no rfl (oc_some (c_tru (e_blt (es_cons (e_vd rfl) es_nil) rfl rfl) rfl rfl))
  have e2 : (L.map Tr.dat).filterMap nmD = (L.filterMap Tr.nm).map .str := by
    rw [List.filterMap_map, List.map_filterMap]
    congr 1
    funext u
    exact nm_dat u
  rw [List.nil_append, e2] at lc
  refine ⟨L.filterMap Tr.nm, runB_rt rfl rfl (ss_rt (s_ret (e_lc (i_seq (e_p (es_cons (e_vd rfl) es_nil) (ld_parts _ _) rfl e) rfl rfl) lc))) rfl, ?_⟩
  rw [← Tr.parts_names t]
  exact pm.filterMap _
theorem cq_things_of (n : Nat) (g : Bool) (ws : List W) : P.call (n + 1) g "things_of" ws = runB (Γn n g) 1 1 b_things_of ws := by kernel_rfl
theorem ld_things_of (n : Nat) (g : Bool) : (Γn n g).lend "things_of" = false := by kernel_rfl
theorem c_things_of {t : Tr} (h : TrS t) (n : Nat) (g : Bool) : P.call (n + 3) g "things_of" [.d t.dat] = .ret (.d (tS (sortS t.leaves))) none := by
  rw [cq_things_of]
  obtain ⟨ns, e, pm⟩ := c_namesin h n g
  have nl : ns.length ≤ 8 := by rw [pm.length_eq]; exact h.len
  rw [← sortS_eq pm]
  exact runB_rt rfl rfl (ss_rt (s_ret (e_blt (es_cons (e_blt (es_cons (e_p (es_cons (e_vd rfl) es_nil) (ld_namesin _ _) rfl e) es_nil) rfl (srt_strs ns (lim_le (by omega)) _)) es_nil) rfl rfl))) rfl
/-! ### lots -/
theorem ld_lotkey (n : Nat) (g : Bool) : (Γn n g).lend "lot_key" = false := by kernel_rfl
theorem cq_lotkey (n : Nat) (g : Bool) (ws : List W) : P.call (n + 1) g "lot_key" ws = runB (Γn n g) 1 1 b_lot_key ws := by kernel_rfl
theorem c_lotkey (l : List Str) (n : Nat) (g : Bool) : P.call (n + 1) g "lot_key" [.d (tS l)] = .ret (.d (lkD (tS l))) none := by
  rw [cq_lotkey]
  exact runB_rt rfl rfl (ss_rt (s_ret (e_tup (es_cons (e_blt (es_cons (e_vd rfl) es_nil) rfl rfl) (es_cons (e_vd rfl) es_nil)) rfl (show 2 ≤ LIM by decide)))) rfl
theorem cq_lots (n : Nat) (g : Bool) (ws : List W) : P.call (n + 1) g "lots" ws = runB (Γn n g) 1 2 b_lots ws := by kernel_rfl
theorem ld_lots (n : Nat) (g : Bool) : (Γn n g).lend "lots" = false := by kernel_rfl
theorem c_lots {t : Tr} (h : TrS t) (n : Nat) (g : Bool) : ∃ G : List (List Str), P.call (n + 4) g "lots" [.d t.dat] = .ret (.d (.tuple (G.map tS))) none ∧ G.Perm (lotsT t) := by
  rw [cq_lots]
  obtain ⟨L, e, pm⟩ := c_parts h (n + 2) g
  have ll : L.length ≤ 15 := by rw [pm.length_eq]; exact h.parts_le
  have lcl : ∀ us : List Tr, (∀ u, u ∈ us → TrS u) → ∀ acc : List D, acc.length + us.length ≤ LIM → lcLoop (lcTurn (.one 1) (evOc (Γn (n + 3) g) .yes) (evE (Γn (n + 3) g) (.call "things_of" (.cons (.var 1) .nil))) [1]) (us.map Tr.dat) acc [some (.d t.dat), none] = .ok (acc ++ (us.map fun u => tS (sortS u.leaves)), [some (.d t.dat), none]) := by
    intro us
    induction us with
    | nil => intro _ acc _; simp [lcLoop]
    | cons u us ih =>
      intro hu acc hl
      rw [List.length_cons] at hl
      have tn : lcTurn (.one 1) (evOc (Γn (n + 3) g) .yes) (evE (Γn (n + 3) g) (.call "things_of" (.cons (.var 1) .nil))) [1] u.dat [some (.d t.dat), none] = .ok (some (tS (sortS u.leaves)), [some (.d t.dat), none]) :=
        turn_yes rfl oc_yes (e_p (es_cons (e_vd rfl) es_nil) (ld_things_of _ _) rfl (c_things_of (hu u List.mem_cons_self) n g)) rfl
      rw [List.map_cons]
      simp only [lcLoop, tn]
      rw [if_pos (by omega), ih (fun v hv => hu v (List.mem_cons_of_mem _ hv)) _ (by rw [List.length_append, List.length_singleton]; omega), List.map_cons, List.append_assoc]
      rfl
  have lc := lcl L (fun u hu => h.part (pm.mem_iff.mp hu)) [] (lim_le (by show 0 + _ ≤ _; omega))
  rw [List.nil_append] at lc
  have e1 : (L.map fun u => tS (sortS u.leaves)) = (L.map fun u => sortS u.leaves).map tS := by rw [List.map_map]; rfl
  rw [e1] at lc
  generalize hG : (L.map fun u => sortS u.leaves) = G0 at lc
  have g0 : G0.Perm (lotsT t) := by rw [← hG]; exact pm.map _
  have gl : G0.length ≤ 15 := by rw [← hG, List.length_map]; exact ll
  have ks : keysBy (P.call (n + 3) g "lot_key") (G0.map tS) = some ((G0.map tS).map lkD) := keysBy_map fun x hx => by
    obtain ⟨l, _, rfl⟩ := List.mem_map.mp hx
    exact c_lotkey l (n + 2) g
  have sp := sortByK_perm (xs := G0.map tS) (ks := (G0.map tS).map lkD) (by simp)
  obtain ⟨G, gp, eG⟩ := perm_map_inv sp rfl
  refine ⟨G, ?_, gp.trans g0⟩
  rw [← eG]
  exact runB_rt rfl rfl (ss_rt (s_ret (e_blt (es_cons (e_sortK (e_lc (i_seq (e_p (es_cons (e_vd rfl) es_nil) (ld_parts _ _) rfl e) rfl rfl) lc) rfl ks (lks_ok (lim_le (by omega)))) es_nil) rfl rfl))) rfl
/-! ### has_in -/
theorem cq_hasin (n : Nat) (g : Bool) (ws : List W) : P.call (n + 1) g "has_in" ws = runB (Γn n g) 2 6 b_has_in ws := by kernel_rfl
theorem ld_hasin (n : Nat) (g : Bool) : (Γn n g).lend "has_in" = false := by kernel_rfl
theorem c_hasin {G : List (List Str)} (hG : ∀ l, l ∈ G → ∀ a, a ∈ l → a ∈ Lt) (gl : G.length ≤ 1000) {s : Sy} (hs : SyOk s) (n : Nat) (g : Bool) : P.call (n + 1) g "has_in" [.d (.tuple (G.map tS)), .d (sD s)] = .ret (.d (.bool (hadIn G s))) none := by
  rw [cq_hasin]
  obtain ⟨o1, o2, o3⟩ := hs
  have lc : ∀ G' : List (List Str), (∀ l, l ∈ G' → ∀ a, a ∈ l → a ∈ Lt) → ∀ acc : List D, acc.length + G'.length ≤ LIM → lcLoop (lcTurn (.one 5) (evOc (Γn n g) .yes) (evE (Γn n g) (.andV (.ofC (.cmp .isin (.var 2) (.var 5))) (.andV (.ofC (.cmp .isin (.var 3) (.var 5))) (.ofC (.cmp .notin (.var 4) (.var 5)))))) [5]) (G'.map tS) acc [some (.d (.tuple (G.map tS))), some (.d (sD s)), some (.d (.str s.1)), some (.d (.str s.2.1)), some (.d (.str s.2.2)), none] =
      .ok (acc ++ (G'.map fun l => decide (s.1 ∈ l) && (decide (s.2.1 ∈ l) && !decide (s.2.2 ∈ l))).map .bool, [some (.d (.tuple (G.map tS))), some (.d (sD s)), some (.d (.str s.1)), some (.d (.str s.2.1)), some (.d (.str s.2.2)), none]) := by
    intro G'
    induction G' with
    | nil => intro _ acc _; simp [lcLoop]
    | cons l G' ih =>
      intro hG' acc hl
      rw [List.length_cons] at hl
      have hl' := hG' l List.mem_cons_self
      have tn : lcTurn (.one 5) (evOc (Γn n g) .yes) (evE (Γn n g) (.andV (.ofC (.cmp .isin (.var 2) (.var 5))) (.andV (.ofC (.cmp .isin (.var 3) (.var 5))) (.ofC (.cmp .notin (.var 4) (.var 5)))))) [5] (tS l) [some (.d (.tuple (G.map tS))), some (.d (sD s)), some (.d (.str s.1)), some (.d (.str s.2.1)), some (.d (.str s.2.2)), none] =
          .ok (some (.bool (decide (s.1 ∈ l) && (decide (s.2.1 ∈ l) && !decide (s.2.2 ∈ l)))), [some (.d (.tuple (G.map tS))), some (.d (sD s)), some (.d (.str s.1)), some (.d (.str s.2.1)), some (.d (.str s.2.2)), none]) :=
        turn_yes rfl oc_yes (e_andP (e_ofC (c_cmp (e_vd rfl) (e_vd rfl) rfl rfl (in_tS o1 hl'))) fun _ => e_andP (e_ofC (c_cmp (e_vd rfl) (e_vd rfl) rfl rfl (in_tS o2 hl'))) fun _ => e_ofC (c_cmp (e_vd rfl) (e_vd rfl) rfl rfl (notin_tS o3 hl'))) rfl
      rw [List.map_cons]
      simp only [lcLoop, tn]
      rw [if_pos (by omega), ih (fun v hv => hG' v (List.mem_cons_of_mem _ hv)) _ (by rw [List.length_append, List.length_singleton]; omega), List.map_cons, List.map_cons, List.append_assoc]
      rfl
  have lc := lc G hG [] (lim_le (by show 0 + _ ≤ _; omega))
  rw [List.nil_append] at lc
  refine runB_rt rfl rfl (ss_nx (s_unpT (e_vd rfl) rfl rfl) (ss_rt (s_ret (e_blt (r := .d (.bool (hadIn G s))) (es_cons (e_lc (i_seq (e_vd rfl) rfl rfl) lc) es_nil) rfl ?_)))) rfl
  show (boolsD _).map _ = _
  rw [bools_map, Option.map_some, List.any_map]
  rfl
theorem c_three (s : Sy) (n : Nat) (g : Bool) : P.call (n + 1) g "three_sayings" [.d (sD s)] = .ret (.fresh ((threeSay s).map sD)) none := by kernel_rfl
theorem ld_three (n : Nat) (g : Bool) : (Γn n g).lend "three_sayings" = false := by kernel_rfl
def optD : Option Sy → D
  | some s => sD s
  | none => .none
theorem cq_sayin (n : Nat) (g : Bool) (ws : List W) : P.call (n + 1) g "saying_in" ws = runB (Γn n g) 2 4 b_saying_in ws := by kernel_rfl
theorem ld_sayin (n : Nat) (g : Bool) : (Γn n g).lend "saying_in" = false := by kernel_rfl
theorem three_ok {t : Sy} (h : SyOk t) : ∀ s, s ∈ threeSay t → SyOk s := fun s hs => by
  obtain ⟨x, y, z⟩ := t
  obtain ⟨h1, h2, h3⟩ := h
  simp only [threeSay, List.mem_cons, List.not_mem_nil, or_false] at hs
  rcases hs with rfl | rfl | rfl
  · exact ⟨h1, h2, h3⟩
  · exact ⟨h1, h3, h2⟩
  · exact ⟨h2, h3, h1⟩
/-- a comprehension that keeps some sayings -/
theorem lc_says {f : D → Mn.Env → Res (Option D × Mn.Env)} {ρ : Mn.Env} (p : Sy → Bool) : ∀ {l : List Sy} {acc : List D}, (∀ s, s ∈ l → f (sD s) ρ = .ok (if p s then some (sD s) else none, ρ)) → acc.length + l.length ≤ LIM → lcLoop f (l.map sD) acc ρ = .ok (acc ++ (l.filter p).map sD, ρ)
  | [], acc, _, _ => by simp [lcLoop]
  | s :: l, acc, h, hl => by
    rw [List.length_cons] at hl
    have hs := h s List.mem_cons_self
    have hr := fun y hy => h y (List.mem_cons_of_mem _ hy)
    rw [List.map_cons]
    cases q : p s with
    | true =>
      rw [q] at hs
      simp only [lcLoop, hs, if_true]
      rw [if_pos (by omega), lc_says p hr (by rw [List.length_append, List.length_singleton]; omega), List.filter_cons_of_pos q, List.map_cons, List.append_assoc]
      rfl
    | false =>
      rw [q] at hs
      simp only [lcLoop, hs, Bool.false_eq_true, if_false]
      rw [lc_says p hr (by omega), List.filter_cons_of_neg (by rw [q]; exact Bool.false_ne_true)]
theorem c_sayin {G : List (List Str)} (hG : ∀ l, l ∈ G → ∀ a, a ∈ l → a ∈ Lt) (gl : G.length ≤ 1000) {t : Sy} (ht : SyOk t) (n : Nat) (g : Bool) : P.call (n + 2) g "saying_in" [.d (.tuple (G.map tS)), .d (sD t)] = .ret (.d (optD (sayIn (hadIn G) t))) none := by
  rw [cq_sayin]
  have lc : lcLoop (lcTurn (.one 3) (evOc (Γn (n + 1) g) (.some (.tru (.call "has_in" (.cons (.var 0) (.cons (.var 3) .nil)))))) (evE (Γn (n + 1) g) (.var 3)) [3]) ((threeSay t).map sD) [] [some (.d (.tuple (G.map tS))), some (.d (sD t)), none, none] = .ok ([] ++ ((threeSay t).filter (hadIn G)).map sD, [some (.d (.tuple (G.map tS))), some (.d (sD t)), none, none]) := by
    refine lc_says (hadIn G) (fun s hs => ?_) (show 0 + 3 ≤ LIM by decide)
    have e := c_hasin hG gl (three_ok ht s hs) n g
    cases q : hadIn G s with
    | true =>
      rw [q] at e
      exact turn_yes rfl (oc_some (c_tru (e_p (es_cons (e_vd rfl) (es_cons (e_vd rfl) es_nil)) (ld_hasin _ _) rfl e) rfl rfl)) (e_vd rfl) rfl
    | false =>
      rw [q] at e
      exact turn_no rfl (oc_some (c_tru (e_p (es_cons (e_vd rfl) (es_cons (e_vd rfl) es_nil)) (ld_hasin _ _) rfl e) rfl rfl))
  rw [List.nil_append] at lc
  have hd : ((threeSay t).filter (hadIn G)).head? = sayIn (hadIn G) t := List.head?_filter
  have fl : ∀ s, s ∈ (threeSay t).filter (hadIn G) → SyOk s := fun s hs => three_ok ht s (List.mem_filter.mp hs).1
  generalize (threeSay t).filter (hadIn G) = fs at lc hd fl
  rw [← hd]
  cases fs with
  | nil =>
    exact runB_rt rfl rfl (ss_nx (s_set (e_lc (i_seq (e_p (es_cons (e_vd rfl) es_nil) (ld_three _ _) rfl (c_three t n g)) rfl rfl) lc) rfl) (ss_rt (s_ret (e_iteF (c_cmp (e_vo rfl) (e_lst es_nil rfl (show 0 ≤ LIM by decide)) rfl rfl rfl) e_non)))) rfl
  | cons s fs =>
    have tc : cmpD .ne (.list ((s :: fs).map sD)) (.list []) = some true := ne_nil (nice_list (nice_sDs fl))
    exact runB_rt rfl rfl (ss_nx (s_set (e_lc (i_seq (e_p (es_cons (e_vd rfl) es_nil) (ld_three _ _) rfl (c_three t n g)) rfl rfl) lc) rfl) (ss_rt (s_ret (e_iteT (c_cmp (e_vo rfl) (e_lst es_nil rfl (show 0 ≤ LIM by decide)) rfl rfl tc) (e_idx (u := .list ((s :: fs).map sD)) (v := .int 0) (e_vo rfl) e_int rfl rfl (at_nat' (k := 0) rfl)))))) rfl
end K26
set_option Elab.async false
set_option linter.all false
set_option maxRecDepth 100000
set_option maxHeartbeats 4000000
namespace K26
open PySem Mn
/-! ### the law's own things of a tree -/
def oW (o : Option D) : Option W := o.map W.d
theorem ok_oW (o : Option D) : okW (oW o) = true := by cases o <;> rfl
theorem cq_lof (n : Nat) (g : Bool) (ws : List W) : P.call (n + 1) g "_law_of" ws = runB (Γn n g) 1 4 b_x_law_of ws := by kernel_rfl
theorem ld_lof (n : Nat) (g : Bool) : (Γn n g).lend "_law_of" = false := by kernel_rfl
abbrev OSt := List Str × List Tr × Option D
def ofEnv (t : Tr) (a : OSt) : Mn.Env := [some (.d t.dat), some (.own false (a.1.map .str)), some (.own false (a.2.1.map Tr.dat)), oW a.2.2]
theorem nice_trs {us : List Tr} (h : ∀ u, u ∈ us → TrS u) : Nice 9 (.list (us.map Tr.dat)) := nice_list fun x hx => by
  obtain ⟨u, hu, rfl⟩ := List.mem_map.mp hx
  exact (h u hu).nice
theorem flat_ge {α β : Type} {f : α → List β} : ∀ {us : List α}, (∀ u, u ∈ us → 1 ≤ (f u).length) → us.length ≤ (us.flatMap f).length
  | [], _ => Nat.zero_le _
  | u :: us, h => by
    rw [List.flatMap_cons, List.length_append, List.length_cons]
    have h1 := h u List.mem_cons_self
    have h2 := flat_ge (f := f) (us := us) fun v hv => h v (List.mem_cons_of_mem _ hv)
    omega
theorem last_map (us : List Tr) (x : Tr) : ((us ++ [x]).map Tr.dat).getLast? = some x.dat ∧ ((us ++ [x]).map Tr.dat).dropLast = us.map Tr.dat := by
  rw [List.map_append]
  exact ⟨by simp, by simp⟩
theorem c_lof {t : Tr} (h : TrS t) (n : Nat) (g : Bool) : P.call (n + 1) g "_law_of" [.d t.dat] = .ret (.d (tS (sortS t.leaves))) none := by
  rw [cq_lof]
  obtain ⟨a', w1, ⟨j1, j2⟩, d⟩ := wh_inv (t := evC (Γn n g) (.cmp .ne (.var 2) (.lst .nil))) (f := evSs (Γn n g) (.cons (.set 3 (.pop 2)) (.cons (.iff (.tru (.blt .isTup (.cons (.var 3) .nil))) (.cons (.expr (.ext 2 (.blt .list (.cons (.var 3) .nil)))) (.nil)) (.cons (.expr (.app 1 (.var 3))) (.nil))) (.nil)))) (ofEnv t)
    (fun a => (∀ u, u ∈ a.2.1 → TrS u) ∧ (a.1 ++ a.2.1.flatMap Tr.leaves).Perm t.leaves) (fun a => a.2.1 = []) (fun a => (a.2.1.flatMap Tr.parts).length) (k := 200) (a := ([], [t], none))
    (fun a ⟨j1, j2⟩ => by
      obtain ⟨fd, line, o⟩ := a
      have j1 : ∀ u, u ∈ line → TrS u := j1
      have j2 : (fd ++ line.flatMap Tr.leaves).Perm t.leaves := j2
      have jl := j2.length_eq
      rw [List.length_append] at jl
      have tl := h.len
      have test : evC (Γn n g) (.cmp .ne (.var 2) (.lst .nil)) (ofEnv t (fd, line, o)) = .ok (!(line.map Tr.dat).isEmpty, ofEnv t (fd, line, o)) := c_cmp (e_vo rfl) (e_lst es_nil rfl (show 0 ≤ LIM by decide)) rfl rfl (ne_nil (nice_trs j1))
      rcases List.eq_nil_or_concat line with rfl | ⟨us, x, rfl⟩
      · exact .inl ⟨test, rfl⟩
      · refine .inr ?_
        rw [List.concat_eq_append] at *
        obtain ⟨m1, m2⟩ := last_map us x
        have test' : evC (Γn n g) (.cmp .ne (.var 2) (.lst .nil)) (ofEnv t (fd, us ++ [x], o)) = .ok (true, ofEnv t (fd, us ++ [x], o)) := by
          rw [test]
          congr 2
          rw [List.map_append]
          cases us <;> rfl
        have s1 : evS (Γn n g) (.set 3 (.pop 2)) (ofEnv t (fd, us ++ [x], o)) = .nx (ofEnv t (fd, us, some x.dat)) := by
          refine s_set (e_pop rfl m1 rfl) ?_
          rw [m2]
          exact intoW_d (w := oW o) rfl (ok_oW o)
        have hx := j1 x (by simp)
        have hu : ∀ u, u ∈ us → TrS u := fun u hu => j1 u (by simp [hu])
        rw [List.flatMap_append, List.flatMap_cons, List.flatMap_nil, List.append_nil] at j2 jl
        rw [List.length_append] at jl
        have ul := flat_ge (f := Tr.leaves) (us := us) fun u m => Tr.leaf_pos (hu u m).ok
        cases x with
        | leaf s =>
          refine ⟨(fd ++ [s], us, some (Tr.leaf s).dat), test', ?_, ⟨hu, ?_⟩, ?_⟩
          · refine ss_nx s1 (ss_F (c_tru (e_blt (es_cons (e_vd rfl) es_nil) rfl rfl) rfl rfl) (ss_nx (s_expr (e_app rfl (e_vd rfl) rfl rfl (by rw [List.length_map]; exact Nat.lt_of_le_of_lt (show fd.length ≤ 8 by omega) (by decide)) rfl)) (evSs_nil _ _)) ?_)
            show evSs (Γn n g) .nil _ = _
            rw [evSs_nil]
            show Fl.nx _ = Fl.nx _
            congr 1
            simp [ofEnv, Tr.dat]
          · show ((fd ++ [s]) ++ us.flatMap Tr.leaves).Perm t.leaves
            rw [Tr.leaves] at j2
            refine List.Perm.trans ?_ j2
            rw [List.append_assoc]
            exact List.Perm.append_left _ List.perm_append_comm
          · show (us.flatMap Tr.parts).length < ((us ++ [Tr.leaf s]).flatMap Tr.parts).length
            rw [List.flatMap_append, List.length_append, List.flatMap_cons, List.flatMap_nil, Tr.parts]
            simp
        | node ts =>
          have hts : ∀ u, u ∈ ts → TrS u := fun u m => hx.child m
          have tsl := flat_ge (f := Tr.leaves) (us := ts) fun u m => Tr.leaf_pos (hts u m).ok
          rw [← Tr.leaves_node] at tsl
          refine ⟨(fd, us ++ ts, some (Tr.node ts).dat), test', ?_, ⟨fun u m => (List.mem_append.mp m).elim (hu u) (hts u), ?_⟩, ?_⟩
          · refine ss_nx s1 ?_
            have eD : ofEnv t (fd, us, some (Tr.node ts).dat) = [some (.d t.dat), some (.own false (fd.map .str)), some (.own false (us.map Tr.dat)), some (.d (.tuple (ts.map Tr.dat)))] := by rw [tup_tr]; rfl
            rw [eD]
            refine ss_T (c_tru (e_blt (es_cons (e_vd rfl) es_nil) rfl rfl) rfl rfl) (ss_nx (s_expr (e_ext (ys := ts.map Tr.dat) rfl (e_blt (es_cons (e_vd rfl) es_nil) rfl rfl) rfl rfl rfl (by rw [List.length_map, List.length_map]; exact lim_le (by omega)))) (evSs_nil _ _)) ?_
            show evSs (Γn n g) .nil _ = _
            rw [evSs_nil]
            show Fl.nx _ = Fl.nx _
            congr 1
            simp [ofEnv, oW, tup_tr]
          · show (fd ++ (us ++ ts).flatMap Tr.leaves).Perm t.leaves
            rw [Tr.leaves_node] at j2
            rw [List.flatMap_append]
            exact j2
          · show ((us ++ ts).flatMap Tr.parts).length < ((us ++ [Tr.node ts]).flatMap Tr.parts).length
            rw [List.flatMap_append, List.flatMap_append, List.length_append, List.length_append, List.flatMap_cons, List.flatMap_nil, Tr.parts_node]
            simp)
    ⟨fun u hu => by rw [List.mem_singleton.mp hu]; exact h, by simp⟩ (by show (([t]).flatMap Tr.parts).length < 200; have := h.parts_le; simp; omega)
  obtain ⟨fd, line, o⟩ := a'
  have d : line = [] := d
  subst d
  have j2 : (fd ++ [].flatMap Tr.leaves).Perm t.leaves := j2
  rw [List.flatMap_nil, List.append_nil] at j2
  rw [← sortS_eq j2]
  have fl : fd.length ≤ 8 := by rw [j2.length_eq]; exact h.len
  exact runB_rt rfl rfl (ss_nx (s_par (e_lst es_nil rfl (show 0 ≤ LIM by decide)) (e_lst (es_cons (e_vd rfl) es_nil) rfl (show 1 ≤ LIM by decide)) (by decide) rfl rfl rfl rfl rfl) (ss_nx (s_whil w1) (ss_rt (s_ret (e_blt (es_cons (e_blt (es_cons (e_vo rfl) es_nil) rfl (srt_strs fd (lim_le (by omega)) _)) es_nil) rfl rfl))))) rfl
/-! ### the law's lots -/
theorem cq_llots (n : Nat) (g : Bool) (ws : List W) : P.call (n + 1) g "_law_lots" ws = runB (Γn n g) 1 6 b_x_law_lots ws := by kernel_rfl
theorem ld_llots (n : Nat) (g : Bool) : (Γn n g).lend "_law_lots" = false := by kernel_rfl
abbrev LoSt := List (List Str) × List Tr × Option D
def loEnv (t : Tr) (a : LoSt) : Mn.Env := [some (.d t.dat), some (.own false (a.1.map tS)), some (.own false (a.2.1.map Tr.dat)), oW a.2.2, none, none]
def szD (x : D) : D := lkD x
theorem lotsT_node (ts : List Tr) : lotsT (.node ts) = sortS (Tr.node ts).leaves :: ts.flatMap lotsT := by
  unfold lotsT
  rw [Tr.parts_node, List.map_cons]
  congr 1
  induction ts with
  | nil => rfl
  | cons u ts ih => rw [List.flatMap_cons, List.map_append, ih, List.flatMap_cons]
theorem keys_ok {G : List (List Str)} : ((G.map tS).map lkD).all setKey = true := by
  rw [List.all_eq_true]
  intro x hx
  obtain ⟨y, hy, rfl⟩ := List.mem_map.mp hx
  obtain ⟨l, _, rfl⟩ := List.mem_map.mp hy
  rw [lkD_tS, setKey, areKeysD, areKeysD, areKeysD]
  have h1 : isKeyD (tS l) = true := by unfold tS; rw [isKeyD, areKeys_strs]
  have h2 : (PyData.tuple [.int l.length, tS l]).depth = 2 := by
    have := tS_depth l
    simp [PyData.depth, PyData.depthAll, this]
  rw [h1, h2]
  rfl
theorem lkD_inj {a b : List Str} (h : lkD (tS a) = lkD (tS b)) : a = b := by
  rw [lkD_tS, lkD_tS] at h
  have := (List.cons.inj (List.cons.inj (PyData.tuple.inj h)).2).1
  exact tS_inj.mp this
theorem txt_tS (l : List Str) : txtD (tS l) = true := by
  unfold tS
  rw [txtD, txtDs_all, List.all_map]
  exact List.all_eq_true.mpr fun _ _ => rfl
theorem txt_lk (l : List Str) : txtD (lkD (tS l)) = true := by
  rw [lkD_tS, txtD, txtDs, txtDs, txtDs, txt_tS]
  rfl
/-- sorted(set([(len(l), l) ..])), its second parts -/
theorem sset_lots {G : List (List Str)} (hl : G.length < 64) (g : Bool) : ∃ G' : List (List Str), bltD g .sset [.list ((G.map tS).map lkD)] = some (.fresh ((G'.map tS).map lkD)) ∧ (∀ l, l ∈ G' ↔ l ∈ G) ∧ G'.length ≤ G.length := by
  have so := (Bool.and_eq_true_iff.mp (lks_ok (G := G) (lim_le (by omega)))).1
  have tx : ∀ x, x ∈ (G.map tS).map lkD → txtD x = true := fun x hx => by
    obtain ⟨y, hy, rfl⟩ := List.mem_map.mp hx
    obtain ⟨l, _, rfl⟩ := List.mem_map.mp hy
    exact txt_lk l
  obtain ⟨d1, d2⟩ := dedup_txt tx
  have pm := sortD_perm (dedup ((G.map tS).map lkD))
  have mem : ∀ x, x ∈ sortD (dedup ((G.map tS).map lkD)) ↔ x ∈ (G.map tS).map lkD := fun x => by rw [pm.mem_iff, d1]
  have ln : (sortD (dedup ((G.map tS).map lkD))).length ≤ G.length := by
    rw [sortD_len]
    exact Nat.le_trans (dedup_len _) (by simp)
  have ev : bltD g .sset [.list ((G.map tS).map lkD)] = some (.fresh (sortD (dedup ((G.map tS).map lkD)))) := by
    show (if _ then some (R.fresh _) else none) = _
    rw [so, keys_ok, decide_eq_true (by simpa using hl)]
    rfl
  generalize sortD (dedup ((G.map tS).map lkD)) = xs at mem ln ev
  have : ∃ G' : List (List Str), xs = (G'.map tS).map lkD := by
    have go : ∀ ys : List D, (∀ y, y ∈ ys → y ∈ (G.map tS).map lkD) → ∃ G' : List (List Str), ys = (G'.map tS).map lkD := by
      intro ys
      induction ys with
      | nil => exact fun _ => ⟨[], rfl⟩
      | cons y ys ih =>
        intro h
        obtain ⟨G', e⟩ := ih fun z hz => h z (List.mem_cons_of_mem _ hz)
        obtain ⟨z, hz, rfl⟩ := List.mem_map.mp (h y List.mem_cons_self)
        obtain ⟨l, _, rfl⟩ := List.mem_map.mp hz
        exact ⟨l :: G', by rw [e]; rfl⟩
    exact go xs fun y hy => (mem y).mp hy
  obtain ⟨G', rfl⟩ := this
  refine ⟨G', ev, fun l => ?_, by simpa using ln⟩
  have := mem (lkD (tS l))
  rw [List.mem_map, List.mem_map] at this
  constructor
  · intro hl'
    obtain ⟨y, hy, e⟩ := this.mp ⟨tS l, List.mem_map_of_mem hl', rfl⟩
    obtain ⟨m, hm, rfl⟩ := List.mem_map.mp hy
    rw [← lkD_inj e]
    exact hm
  · intro hl'
    obtain ⟨y, hy, e⟩ := this.mpr ⟨tS l, List.mem_map_of_mem hl', rfl⟩
    obtain ⟨m, hm, rfl⟩ := List.mem_map.mp hy
    rw [← lkD_inj e]
    exact hm
theorem c_llots {t : Tr} (h : TrS t) (n : Nat) (g : Bool) : ∃ G : List (List Str), P.call (n + 2) g "_law_lots" [.d t.dat] = .ret (.fresh (G.map tS)) none ∧ (∀ l, l ∈ G ↔ l ∈ lotsT t) ∧ G.length ≤ 15 := by
  rw [cq_llots]
  obtain ⟨a', w1, ⟨j1, j2⟩, d⟩ := wh_inv (t := evC (Γn (n + 1) g) (.cmp .ne (.var 2) (.lst .nil))) (f := evSs (Γn (n + 1) g) (.cons (.set 3 (.pop 2)) (.cons (.expr (.app 1 (.call "_law_of" (.cons (.var 3) .nil)))) (.cons (.expr (.ext 2 (.ite (.tru (.blt .isTup (.cons (.var 3) .nil))) (.blt .list (.cons (.var 3) .nil)) (.lst .nil)))) (.nil))))) (loEnv t)
    (fun a => (∀ u, u ∈ a.2.1 → TrS u) ∧ (a.1 ++ a.2.1.flatMap lotsT).Perm (lotsT t)) (fun a => a.2.1 = []) (fun a => (a.2.1.flatMap lotsT).length) (k := 200) (a := ([], [t], none))
    (fun a ⟨j1, j2⟩ => by
      obtain ⟨fd, line, o⟩ := a
      have j1 : ∀ u, u ∈ line → TrS u := j1
      have j2 : (fd ++ line.flatMap lotsT).Perm (lotsT t) := j2
      have jl := j2.length_eq
      rw [List.length_append] at jl
      have tl : (lotsT t).length ≤ 15 := by unfold lotsT; rw [List.length_map]; exact h.parts_le
      have test : evC (Γn (n + 1) g) (.cmp .ne (.var 2) (.lst .nil)) (loEnv t (fd, line, o)) = .ok (!(line.map Tr.dat).isEmpty, loEnv t (fd, line, o)) := c_cmp (e_vo rfl) (e_lst es_nil rfl (show 0 ≤ LIM by decide)) rfl rfl (ne_nil (nice_trs j1))
      rcases List.eq_nil_or_concat line with rfl | ⟨us, x, rfl⟩
      · exact .inl ⟨test, rfl⟩
      · refine .inr ?_
        rw [List.concat_eq_append] at *
        obtain ⟨m1, m2⟩ := last_map us x
        have test' : evC (Γn (n + 1) g) (.cmp .ne (.var 2) (.lst .nil)) (loEnv t (fd, us ++ [x], o)) = .ok (true, loEnv t (fd, us ++ [x], o)) := by
          rw [test]
          congr 2
          rw [List.map_append]
          cases us <;> rfl
        have s1 : evS (Γn (n + 1) g) (.set 3 (.pop 2)) (loEnv t (fd, us ++ [x], o)) = .nx (loEnv t (fd, us, some x.dat)) := by
          refine s_set (e_pop rfl m1 rfl) ?_
          rw [m2]
          exact intoW_d (w := oW o) rfl (ok_oW o)
        have hx := j1 x (by simp)
        have hu : ∀ u, u ∈ us → TrS u := fun u hu => j1 u (by simp [hu])
        rw [List.flatMap_append, List.flatMap_cons, List.flatMap_nil, List.append_nil] at j2 jl
        rw [List.length_append] at jl
        have pos : ∀ u : Tr, 1 ≤ (lotsT u).length := fun u => by unfold lotsT; rw [List.length_map]; exact List.length_pos_of_mem (Tr.mem_self u)
        have ul := flat_ge (f := lotsT) (us := us) fun u _ => pos u
        have s2 : evS (Γn (n + 1) g) (.expr (.app 1 (.call "_law_of" (.cons (.var 3) .nil)))) (loEnv t (fd, us, some x.dat)) = .nx (loEnv t (fd ++ [sortS x.leaves], us, some x.dat)) := by
          refine Eq.trans (show evS (Γn (n + 1) g) (.expr (.app 1 (.call "_law_of" (.cons (.var 3) .nil)))) (loEnv t (fd, us, some x.dat)) = _ from s_expr (e_app rfl (e_p (es_cons (e_vd rfl) es_nil) (ld_lof _ _) rfl (c_lof hx n g)) rfl rfl (by rw [List.length_map]; exact Nat.lt_of_le_of_lt (show fd.length ≤ 15 by omega) (by decide)) rfl)) ?_
          show Fl.nx _ = Fl.nx _
          congr 1
          simp [loEnv]
        cases x with
        | leaf s =>
          refine ⟨(fd ++ [sortS (Tr.leaf s).leaves], us, some (Tr.leaf s).dat), test', ?_, ⟨hu, ?_⟩, ?_⟩
          · refine ss_nx s1 (ss_nx s2 (ss_nx (s_expr (e_ext (ys := []) rfl (e_iteF (c_tru (e_blt (es_cons (e_vd rfl) es_nil) rfl rfl) rfl rfl) (e_lst es_nil rfl (show 0 ≤ LIM by decide))) rfl rfl rfl (by rw [List.length_map]; exact lim_le (by show us.length + 0 ≤ _; omega)))) ?_))
            rw [evSs_nil]
            show Fl.nx _ = Fl.nx _
            congr 1
            simp [loEnv]
          · show ((fd ++ [sortS (Tr.leaf s).leaves]) ++ us.flatMap lotsT).Perm _
            refine List.Perm.trans ?_ j2
            rw [List.append_assoc]
            refine List.Perm.append_left _ ?_
            have e : lotsT (Tr.leaf s) = [sortS (Tr.leaf s).leaves] := by unfold lotsT; rw [Tr.parts]; rfl
            rw [e]
            exact List.perm_append_comm
          · show (us.flatMap lotsT).length < ((us ++ [Tr.leaf s]).flatMap lotsT).length
            rw [List.flatMap_append, List.length_append, List.flatMap_cons, List.flatMap_nil, List.append_nil]
            have := pos (Tr.leaf s)
            omega
        | node ts =>
          have hts : ∀ u, u ∈ ts → TrS u := fun u m => hx.child m
          have tsl := flat_ge (f := lotsT) (us := ts) fun u _ => pos u
          rw [lotsT_node, List.length_cons] at jl
          refine ⟨(fd ++ [sortS (Tr.node ts).leaves], us ++ ts, some (Tr.node ts).dat), test', ?_, ⟨fun u m => (List.mem_append.mp m).elim (hu u) (hts u), ?_⟩, ?_⟩
          · refine ss_nx s1 (ss_nx s2 ?_)
            have eD : loEnv t (fd ++ [sortS (Tr.node ts).leaves], us, some (Tr.node ts).dat) = [some (.d t.dat), some (.own false ((fd ++ [sortS (Tr.node ts).leaves]).map tS)), some (.own false (us.map Tr.dat)), some (.d (.tuple (ts.map Tr.dat))), none, none] := by rw [tup_tr]; rfl
            rw [eD]
            refine ss_nx (s_expr (e_ext (ys := ts.map Tr.dat) rfl (e_iteT (c_tru (e_blt (es_cons (e_vd rfl) es_nil) rfl rfl) rfl rfl) (e_blt (es_cons (e_vd rfl) es_nil) rfl rfl)) rfl rfl rfl (by rw [List.length_map, List.length_map]; exact lim_le (by omega)))) ?_
            rw [evSs_nil]
            show Fl.nx _ = Fl.nx _
            congr 1
            simp [loEnv, oW, tup_tr]
          · show ((fd ++ [sortS (Tr.node ts).leaves]) ++ (us ++ ts).flatMap lotsT).Perm _
            refine List.Perm.trans ?_ j2
            rw [List.append_assoc, List.flatMap_append, lotsT_node]
            refine List.Perm.append_left _ ?_
            show (sortS (Tr.node ts).leaves :: (us.flatMap lotsT ++ ts.flatMap lotsT)).Perm _
            exact List.perm_middle.symm
          · show ((us ++ ts).flatMap lotsT).length < ((us ++ [Tr.node ts]).flatMap lotsT).length
            rw [List.flatMap_append, List.flatMap_append, List.length_append, List.length_append, List.flatMap_cons, List.flatMap_nil, List.append_nil, lotsT_node, List.length_cons]
            omega)
    ⟨fun u hu => by rw [List.mem_singleton.mp hu]; exact h, by simp⟩ (by
      show (([t]).flatMap lotsT).length < 200
      have q : (lotsT t).length ≤ 15 := by unfold lotsT; rw [List.length_map]; exact h.parts_le
      rw [List.flatMap_cons, List.flatMap_nil, List.append_nil]
      omega)
  obtain ⟨fd, line, o⟩ := a'
  have d : line = [] := d
  subst d
  have j2 : (fd ++ [].flatMap lotsT).Perm (lotsT t) := j2
  rw [List.flatMap_nil, List.append_nil] at j2
  have fl : fd.length ≤ 15 := by rw [j2.length_eq]; unfold lotsT; rw [List.length_map]; exact h.parts_le
  have l1 : lcLoop (lcTurn (.one 5) (evOc (Γn (n + 1) g) .yes) (evE (Γn (n + 1) g) (.tup (.cons (.blt .len (.cons (.var 5) .nil)) (.cons (.var 5) .nil)))) [5]) (fd.map tS) [] [some (.d t.dat), some (.d (.list (fd.map tS))), some (.own false []), oW o, none, none] = .ok ((fd.map tS).map lkD, [some (.d t.dat), some (.d (.list (fd.map tS))), some (.own false []), oW o, none, none]) := by
    refine lc_map _ (fun x hx => ?_) (by rw [List.length_map]; exact lim_le (by omega))
    obtain ⟨l, _, rfl⟩ := List.mem_map.mp hx
    exact turn_yes rfl oc_yes (e_tup (xs := [.int (l.map PyData.str).length, tS l]) (es_cons (e_blt (es_cons (e_vd rfl) es_nil) rfl rfl) (es_cons (e_vd rfl) es_nil)) rfl (show 2 ≤ LIM by decide)) rfl
  obtain ⟨G, e1, e2, e3⟩ := sset_lots (G := fd) (by omega) g
  have l2 : lcLoop (lcTurn (.row [4, 5]) (evOc (Γn (n + 1) g) .yes) (evE (Γn (n + 1) g) (.var 5)) [4, 5]) ((G.map tS).map lkD) [] [some (.d t.dat), some (.d (.list (fd.map tS))), some (.own false []), oW o, none, none] = .ok (((G.map tS).map lkD).map (fun x => match x with | .tuple [_, y] => y | _ => .none), [some (.d t.dat), some (.d (.list (fd.map tS))), some (.own false []), oW o, none, none]) := by
    refine lc_map _ (fun x hx => ?_) (by rw [List.length_map, List.length_map]; exact lim_le (by omega))
    obtain ⟨y, hy, rfl⟩ := List.mem_map.mp hx
    obtain ⟨l, _, rfl⟩ := List.mem_map.mp hy
    rw [lkD_tS]
    exact turn_yes rfl oc_yes (e_vd rfl) rfl
  have eG : ((G.map tS).map lkD).map (fun x => match x with | .tuple [_, y] => y | _ => PyData.none) = G.map tS := by
    rw [List.map_map, List.map_map]
    exact List.map_congr_left fun l _ => by show (match lkD (tS l) with | .tuple [_, y] => y | _ => PyData.none) = _; rw [lkD_tS]
  rw [eG] at l2
  have bk : backE [4, 5] 0 [some (.d t.dat), some (.d (.list (fd.map tS))), some (.own false []), oW o, none, none] [some (.d t.dat), some (.d (.list (fd.map tS))), some (.own false []), oW o, none, none] = [some (.d t.dat), some (.d (.list (fd.map tS))), some (.own false []), oW o, none, none] := by cases o <;> rfl
  have bk1 : backE [5] 0 [some (.d t.dat), some (.d (.list (fd.map tS))), some (.own false []), oW o, none, none] [some (.d t.dat), some (.d (.list (fd.map tS))), some (.own false []), oW o, none, none] = [some (.d t.dat), some (.d (.list (fd.map tS))), some (.own false []), oW o, none, none] := by cases o <;> rfl
  refine ⟨G, runB_rt rfl rfl (ss_nx (s_par (e_lst es_nil rfl (show 0 ≤ LIM by decide)) (e_lst (es_cons (e_vd rfl) es_nil) rfl (show 1 ≤ LIM by decide)) (by decide) rfl rfl rfl rfl rfl) (ss_nx (s_whil w1) (ss_rt (s_ret (e_lc (i_seq (e_blt (es_cons (e_lc (i_seq (e_vo rfl) rfl rfl) l1 bk1) es_nil) rfl e1) rfl rfl) l2 bk))))) rfl, fun l => (e2 l).trans j2.mem_iff, Nat.le_trans e3 fl⟩
end K26
set_option Elab.async false
set_option linter.all false
set_option maxRecDepth 100000
set_option maxHeartbeats 4000000
namespace K26
open PySem Mn
theorem things_eq {l : List Str} {t : Tr} (T : ThOk l) (h : TrOk l t) : sortS t.leaves = l := by
  rw [sortS_eq h.pm, ← sortI_eq]
  exact T.f8
theorem hS_lots {t : Tr} {G : List (List Str)} (h : ∀ l, l ∈ G ↔ l ∈ lotsT t) : hadIn G = hasS t := funext fun s => had_lots h s
theorem lots_lt {t : Tr} (hs : TrS t) {G : List (List Str)} (h : ∀ l, l ∈ G ↔ l ∈ lotsT t) : ∀ l, l ∈ G → ∀ a, a ∈ l → a ∈ Lt := fun l hl => (lot_lt hs ((h l).mp hl)).1
theorem say_ok {l : List Str} (T : ThOk l) {s : Sy} (h : s ∈ sayAll l) : SyOk s := by
  obtain ⟨h1, h2, h3, _⟩ := mem_sayAll.mp h
  exact ⟨T.lt _ h1, T.lt _ h2, T.lt _ h3⟩
theorem thr_ok {l : List Str} (T : ThOk l) {s : Sy} (h : s ∈ thr l) : SyOk s := by
  have := say_ok T (T.f1 s h (s.1, s.2.1, s.2.2) List.mem_cons_self)
  exact this
/-! ### the law's has -/
theorem cq_lhas (n : Nat) (g : Bool) (ws : List W) : P.call (n + 1) g "_law_has" ws = runB (Γn n g) 2 6 b_x_law_has ws := by kernel_rfl
theorem ld_lhas (n : Nat) (g : Bool) : (Γn n g).lend "_law_has" = false := by kernel_rfl
theorem c_lhas {t : Tr} (ht : TrS t) {s : Sy} (hs : SyOk s) (n : Nat) (g : Bool) : P.call (n + 3) g "_law_has" [.d t.dat, .d (sD s)] = .ret (.d (.bool (hasS t s))) none := by
  rw [cq_lhas]
  obtain ⟨G, e, m, gl⟩ := c_llots ht n g
  have hG := lots_lt ht m
  obtain ⟨o1, o2, o3⟩ := hs
  have lc : lcLoop (lcTurn (.one 5) (evOc (Γn (n + 2) g) (.some (.and (.cmp .isin (.var 2) (.var 5)) (.and (.cmp .isin (.var 3) (.var 5)) (.cmp .notin (.var 4) (.var 5)))))) (evE (Γn (n + 2) g) (.var 5)) [5]) (G.map tS) [] [some (.d t.dat), some (.d (sD s)), some (.d (.str s.1)), some (.d (.str s.2.1)), some (.d (.str s.2.2)), none] =
      .ok ((G.filter fun l => decide (s.1 ∈ l) && (decide (s.2.1 ∈ l) && !decide (s.2.2 ∈ l))).map tS, [some (.d t.dat), some (.d (sD s)), some (.d (.str s.1)), some (.d (.str s.2.1)), some (.d (.str s.2.2)), none]) := by
    refine lcf0 tS _ (fun l hl => ?_) (lim_le (by omega))
    have hl' := hG l hl
    exact turn_if rfl (c_andP (c_cmp (e_vd rfl) (e_vd rfl) rfl rfl (in_tS o1 hl')) fun _ => c_andP (c_cmp (e_vd rfl) (e_vd rfl) rfl rfl (in_tS o2 hl')) fun _ => c_cmp (e_vd rfl) (e_vd rfl) rfl rfl (notin_tS o3 hl')) (e_vd rfl) rfl rfl rfl
  have nf : Nice 2 (.list ((G.filter fun l => decide (s.1 ∈ l) && (decide (s.2.1 ∈ l) && !decide (s.2.2 ∈ l))).map tS)) := nice_list fun x hx => by
    obtain ⟨l, hl, rfl⟩ := List.mem_map.mp hx
    exact nice_tS (hG l (List.mem_filter.mp hl).1)
  have eb : (!((G.filter fun l => decide (s.1 ∈ l) && (decide (s.2.1 ∈ l) && !decide (s.2.2 ∈ l))).map tS).isEmpty) = hasS t s := by
    rw [← had_lots m s]
    unfold hadIn
    rw [List.isEmpty_map]
    generalize (fun l : List Str => decide (s.1 ∈ l) && (decide (s.2.1 ∈ l) && !decide (s.2.2 ∈ l))) = p
    clear lc nf hG m gl e
    induction G with
    | nil => rfl
    | cons l G ih =>
      rw [List.any_cons]
      cases q : p l with
      | true => rw [List.filter_cons_of_pos q]; rfl
      | false => rw [List.filter_cons_of_neg (by rw [q]; exact Bool.false_ne_true), ih]; rfl
  rw [← eb]
  exact runB_rt rfl rfl (ss_nx (s_unpT (e_vd rfl) rfl rfl) (ss_rt (s_ret (e_ofC (c_cmp (e_lc (i_seq (e_p (es_cons (e_vd rfl) es_nil) (ld_llots _ _) rfl e) rfl rfl) lc) (e_lst es_nil rfl (show 0 ≤ LIM by decide)) rfl rfl (ne_nil nf)))))) rfl
theorem cq_lsays (n : Nat) (g : Bool) (ws : List W) : P.call (n + 1) g "_law_sayings_of" ws = runB (Γn n g) 1 2 b_x_law_sayings_of ws := by kernel_rfl
theorem ld_lsays (n : Nat) (g : Bool) : (Γn n g).lend "_law_sayings_of" = false := by kernel_rfl
theorem cq_has (n : Nat) (g : Bool) (ws : List W) : P.call (n + 1) g "has" ws = runB (Γn n g) 2 2 b_has ws := by kernel_rfl
theorem ld_has (n : Nat) (g : Bool) : (Γn n g).lend "has" = false := by kernel_rfl
theorem cq_says (n : Nat) (g : Bool) (ws : List W) : P.call (n + 1) g "sayings_of" ws = runB (Γn n g) 1 5 b_sayings_of ws := by kernel_rfl
theorem ld_says (n : Nat) (g : Bool) : (Γn n g).lend "sayings_of" = false := by kernel_rfl
theorem optD_nn (o : Option Sy) : (!isNoneD (optD o)) = o.isSome := by cases o <;> rfl
theorem cq_unp (n : Nat) (g : Bool) (ws : List W) : P.call (n + 1) g "unparted_of" ws = runB (Γn n g) 1 3 b_unparted_of ws := by kernel_rfl
theorem ld_unp (n : Nat) (g : Bool) : (Γn n g).lend "unparted_of" = false := by kernel_rfl
theorem optD_n (o : Option Sy) : isNoneD (optD o) = o.isNone := by cases o <;> rfl
theorem ld_rising (n : Nat) (g : Bool) : (Γn n g).lend "are_rising" = false := by kernel_rfl
theorem cq_sayof (n : Nat) (g : Bool) (ws : List W) : P.call (n + 1) g "saying_of" ws = runB (Γn n g) 2 3 b_saying_of ws := by kernel_rfl
theorem ld_sayof (n : Nat) (g : Bool) : (Γn n g).lend "saying_of" = false := by kernel_rfl
theorem cq_lack (n : Nat) (g : Bool) (ws : List W) : P.call (n + 1) g "first_lacking" ws = runB (Γn n g) 2 3 b_first_lacking ws := by kernel_rfl
theorem ld_lack (n : Nat) (g : Bool) : (Γn n g).lend "first_lacking" = false := by kernel_rfl
theorem cq_hall (n : Nat) (g : Bool) (ws : List W) : P.call (n + 1) g "has_all" ws = runB (Γn n g) 2 2 b_has_all ws := by kernel_rfl
theorem ld_hall (n : Nat) (g : Bool) : (Γn n g).lend "has_all" = false := by kernel_rfl
section
variable {k : Nat} {t : Tr} (h1 : 3 ≤ k) (h2 : k ≤ 6) (ht : TrOk (Lt.take k) t)
include h1 h2 ht
theorem c_lsays (n : Nat) (g : Bool) : P.call (n + 4) g "_law_sayings_of" [.d t.dat] = .ret (.fresh (((sayAll (Lt.take k)).filter (hasS t)).map sD)) none := by
  have T := th_take h1 h2
  have hs := ht.s T
  rw [cq_lsays]
  have e1 := c_lof hs (n + 2) g
  rw [things_eq T ht] at e1
  have lc : lcLoop (lcTurn (.one 1) (evOc (Γn (n + 3) g) (.some (.tru (.call "_law_has" (.cons (.var 0) (.cons (.var 1) .nil)))))) (evE (Γn (n + 3) g) (.var 1)) [1]) ((sayAll (Lt.take k)).map sD) [] [some (.d t.dat), none] = .ok (((sayAll (Lt.take k)).filter (hasS t)).map sD, [some (.d t.dat), none]) := by
    refine lcf0 sD _ (fun s m => ?_) (lim_le (by have := T.f7.1; omega))
    exact turn_if rfl (c_tru (e_p (es_cons (e_vd rfl) (es_cons (e_vd rfl) es_nil)) (ld_lhas _ _) rfl (c_lhas hs (say_ok T m) n g)) rfl rfl) (e_vd rfl) rfl rfl rfl
  exact runB_rt rfl rfl (ss_rt (s_ret (e_lc (i_seq (e_p (es_cons (e_p (es_cons (e_vd rfl) es_nil) (ld_lof _ _) rfl e1) es_nil) (ld_lall _ _) rfl (c_lall h1 h2 (n + 2) g)) rfl rfl) lc))) rfl
/-! ### has -/
theorem c_has {s : Sy} (m : s ∈ sayAll (Lt.take k)) (n : Nat) (g : Bool) : P.call (n + 5) g "has" [.d t.dat, .d (sD s)] = .ret (.d (.bool (hasS t s))) none := by
  have T := th_take h1 h2
  have hs := ht.s T
  rw [cq_has]
  have e1 := c_things_of hs (n + 1) g
  rw [things_eq T ht] at e1
  obtain ⟨G, e2, pm⟩ := c_lots hs n g
  have mG : ∀ l, l ∈ G ↔ l ∈ lotsT t := fun l => pm.mem_iff
  have gl : G.length ≤ 15 := by rw [pm.length_eq]; unfold lotsT; rw [List.length_map]; exact hs.parts_le
  have so := say_ok T m
  have tst : evC (Γn (n + 4) g) (.or (.not (.tru (.call "is_saying_form" (.cons (.var 1) .nil)))) (.notN (.call "fault_of" (.cons (.call "things_of" (.cons (.var 0) .nil)) (.cons (.var 1) .nil))))) [some (.d t.dat), some (.d (sD s))] = .ok (false, [some (.d t.dat), some (.d (sD s))]) :=
    c_orP (t := false) (u := false) (c_not (t := true) (c_tru (e_p (es_cons (e_vd rfl) es_nil) (ld_form _ _) rfl (c_form so n g)) rfl rfl)) fun _ => c_notN (u := .none) (e_p (es_cons (e_p (es_cons (e_vd rfl) es_nil) (ld_things_of _ _) rfl e1) (es_cons (e_vd rfl) es_nil)) (ld_fault _ _) rfl (c_fault h1 h2 m (n + 3) g)) rfl
  have e3 := c_hasin (lots_lt hs mG) (show G.length ≤ 1000 by omega) so (n + 3) g
  rw [had_lots mG s] at e3
  exact runB_rt rfl rfl (ss_F tst (evSs_nil _ _) (ss_rt (s_ret (e_p (es_cons (e_p (es_cons (e_vd rfl) es_nil) (ld_lots _ _) rfl e2) (es_cons (e_vd rfl) es_nil)) (ld_hasin _ _) rfl e3)))) rfl
/-! ### sayings_of, unparted_of -/
theorem c_says (n : Nat) (g : Bool) : P.call (n + 5) g "sayings_of" [.d t.dat] = .ret (.d (.tuple (((sayAll (Lt.take k)).filter (hasS t)).map sD))) none := by
  have T := th_take h1 h2
  have hs := ht.s T
  rw [cq_says]
  have e1 := c_things_of hs (n + 1) g
  rw [things_eq T ht] at e1
  obtain ⟨G, e2, pm⟩ := c_lots hs n g
  have mG : ∀ l, l ∈ G ↔ l ∈ lotsT t := fun l => pm.mem_iff
  have gl : G.length ≤ 15 := by rw [pm.length_eq]; unfold lotsT; rw [List.length_map]; exact hs.parts_le
  have l1 : lcLoop (lcTurn (.one 3) (evOc (Γn (n + 4) g) .yes) (evE (Γn (n + 4) g) (.call "saying_in" (.cons (.var 1) (.cons (.var 3) .nil)))) [3]) ((thr (Lt.take k)).map sD) [] [some (.d t.dat), some (.d (.tuple (G.map tS))), none, none, none] = .ok ((thr (Lt.take k)).map (fun u => optD (sayIn (hadIn G) u)), [some (.d t.dat), some (.d (.tuple (G.map tS))), none, none, none]) := by
    refine lcm0 sD _ (fun u m => ?_) (lim_le (by have := T.f7.2; omega))
    exact turn_yes rfl oc_yes (e_p (es_cons (e_vd rfl) (es_cons (e_vd rfl) es_nil)) (ld_sayin _ _) rfl (c_sayin (lots_lt hs mG) (by omega) (thr_ok T m) (n + 2) g)) rfl
  rw [hS_lots mG] at l1
  have l2 : lcLoop (lcTurn (.one 4) (evOc (Γn (n + 4) g) (.some (.notN (.var 4)))) (evE (Γn (n + 4) g) (.var 4)) [4]) ((thr (Lt.take k)).map (fun u => optD (sayIn (hasS t) u))) [] [some (.d t.dat), some (.d (.tuple (G.map tS))), some (.d (.list ((thr (Lt.take k)).map (fun u => optD (sayIn (hasS t) u))))), none, none] =
      .ok ((((thr (Lt.take k)).map (sayIn (hasS t))).filter (·.isSome)).map optD, [some (.d t.dat), some (.d (.tuple (G.map tS))), some (.d (.list ((thr (Lt.take k)).map (fun u => optD (sayIn (hasS t) u))))), none, none]) := by
    have em : (thr (Lt.take k)).map (fun u => optD (sayIn (hasS t) u)) = ((thr (Lt.take k)).map (sayIn (hasS t))).map optD := by rw [List.map_map]; rfl
    rw [em]
    refine lcf0 optD _ (fun o m => ?_) (by rw [List.length_map]; exact lim_le (by have := T.f7.2; omega))
    have c := c_notN (Γ := Γn (n + 4) g) (e := .var 4) (ρ := [some (.d t.dat), some (.d (.tuple (G.map tS))), some (.d (.list (((thr (Lt.take k)).map (sayIn (hasS t))).map optD))), none, some (.d (optD o))]) (e_vd rfl) rfl
    rw [optD_nn] at c
    exact turn_if rfl c (e_vd rfl) rfl rfl rfl
  have ef : (((thr (Lt.take k)).map (sayIn (hasS t))).filter (·.isSome)).map optD = ((thr (Lt.take k)).filterMap (sayIn (hasS t))).map sD := by
    generalize thr (Lt.take k) = us
    induction us with
    | nil => rfl
    | cons u us ih =>
      rw [List.map_cons]
      cases q : sayIn (hasS t) u with
      | none => rw [List.filter_cons_of_neg (by simp), ih, List.filterMap_cons_none q]
      | some s => rw [List.filter_cons_of_pos (by simp), List.map_cons, ih, List.filterMap_cons_some q, List.map_cons]; rfl
  rw [ef] at l2
  have ip := its_perm T (tr_one (l := Lt.take k) (ht.nd T))
  have ll : ((thr (Lt.take k)).filterMap (sayIn (hasS t))).length ≤ 20 := Nat.le_trans (List.length_filterMap_le _ _) T.f7.2
  have srt : bltD g .sorted [.list (((thr (Lt.take k)).filterMap (sayIn (hasS t))).map sD)] = some (.fresh (((sayAll (Lt.take k)).filter (hasS t)).map sD)) := by
    show (if _ then some (R.fresh (sortD _)) else none) = _
    rw [sDs_sortOk (lim_le (by omega))]
    have al : PySem.W.AllAlike (((thr (Lt.take k)).filterMap (sayIn (hasS t))).map sD) := fun a ha b hb => by
      obtain ⟨x, _, rfl⟩ := List.mem_map.mp ha
      obtain ⟨y, _, rfl⟩ := List.mem_map.mp hb
      exact tS_alike (sL x) (sL y)
    have tx : ∀ x, x ∈ ((thr (Lt.take k)).filterMap (sayIn (hasS t))).map sD → txtD x = true := fun x hx => by
      obtain ⟨y, _, rfl⟩ := List.mem_map.mp hx
      exact txt_tS (sL y)
    have pw : (((sayAll (Lt.take k)).filter (hasS t)).map sD).Pairwise fun a b => leD a b = true := by
      have := T.f6
      rw [List.pairwise_map] at this ⊢
      exact this.sublist List.filter_sublist
    rw [sortD_to (ip.map sD) al tx pw]
    rfl
  refine runB_rt rfl rfl (ss_nx (s_set (e_p (es_cons (e_vd rfl) es_nil) (ld_lots _ _) rfl e2) rfl) (ss_nx (s_set (e_lc (i_seq (e_p (es_cons (e_p (es_cons (e_vd rfl) es_nil) (ld_things_of _ _) rfl e1) es_nil) (ld_threes _ _) rfl (c_threes h1 h2 (n + 3) g)) rfl rfl) l1) rfl)
    (ss_rt (s_ret (e_blt (es_cons (e_blt (es_cons (e_lc (i_seq (e_vo rfl) rfl rfl) l2) es_nil) rfl srt) es_nil) rfl rfl))))) rfl
theorem c_unp (n : Nat) (g : Bool) : P.call (n + 5) g "unparted_of" [.d t.dat] = .ret (.d (.tuple (((thr (Lt.take k)).filter fun u => (sayIn (hasS t) u).isNone).map sD))) none := by
  have T := th_take h1 h2
  have hs := ht.s T
  rw [cq_unp]
  have e1 := c_things_of hs (n + 1) g
  rw [things_eq T ht] at e1
  obtain ⟨G, e2, pm⟩ := c_lots hs n g
  have mG : ∀ l, l ∈ G ↔ l ∈ lotsT t := fun l => pm.mem_iff
  have gl : G.length ≤ 15 := by rw [pm.length_eq]; unfold lotsT; rw [List.length_map]; exact hs.parts_le
  have l1 : lcLoop (lcTurn (.one 2) (evOc (Γn (n + 4) g) (.some (.isN (.call "saying_in" (.cons (.var 1) (.cons (.var 2) .nil)))))) (evE (Γn (n + 4) g) (.var 2)) [2]) ((thr (Lt.take k)).map sD) [] [some (.d t.dat), some (.d (.tuple (G.map tS))), none] = .ok (((thr (Lt.take k)).filter fun u => (sayIn (hadIn G) u).isNone).map sD, [some (.d t.dat), some (.d (.tuple (G.map tS))), none]) := by
    refine lcf0 sD _ (fun u m => ?_) (lim_le (by have := T.f7.2; omega))
    have c := c_isN (Γ := Γn (n + 4) g) (ρ := [some (.d t.dat), some (.d (.tuple (G.map tS))), some (.d (sD u))]) (e := .call "saying_in" (.cons (.var 1) (.cons (.var 2) .nil))) (e_p (es_cons (e_vd rfl) (es_cons (e_vd rfl) es_nil)) (ld_sayin _ _) rfl (c_sayin (lots_lt hs mG) (by omega) (thr_ok T m) (n + 2) g)) rfl
    rw [optD_n] at c
    exact turn_if rfl c (e_vd rfl) rfl rfl rfl
  rw [hS_lots mG] at l1
  exact runB_rt rfl rfl (ss_nx (s_set (e_p (es_cons (e_vd rfl) es_nil) (ld_lots _ _) rfl e2) rfl) (ss_rt (s_ret (e_blt (es_cons (e_lc (i_seq (e_p (es_cons (e_p (es_cons (e_vd rfl) es_nil) (ld_things_of _ _) rfl e1) es_nil) (ld_threes _ _) rfl (c_threes h1 h2 (n + 3) g)) rfl rfl) l1) es_nil) rfl rfl)))) rfl
/-! ### saying_of -/
def risB (n : Nat) (g : Bool) (k : Nat) : Bool := (thr (Lt.take k)).all fun s => isRet (P.call (n + 1) g "are_rising" [.d (sD s)]) true
theorem ris_all (n : Nat) (g : Bool) : risB n g k = true := k_cases (p := fun k => risB n g k = true) h1 h2 (by kernel_rfl) (by kernel_rfl) (by kernel_rfl) (by kernel_rfl)
theorem thr_in {u : Sy} (m : u ∈ thr (Lt.take k)) : ∀ a, a ∈ sL u → a ∈ Lt.take k := fun a ha => by
  have T := th_take h1 h2
  obtain ⟨a1, a2, a3, _⟩ := mem_sayAll.mp (T.f1 u m (u.1, u.2.1, u.2.2) List.mem_cons_self)
  simp only [sL, List.mem_cons, List.not_mem_nil, or_false] at ha
  rcases ha with rfl | rfl | rfl
  · exact a1
  · exact a2
  · exact a3
theorem c_sayof {u : Sy} (m : u ∈ thr (Lt.take k)) (n : Nat) (g : Bool) : P.call (n + 5) g "saying_of" [.d t.dat, .d (sD u)] = .ret (.d (optD (sayIn (hasS t) u))) none := by
  have T := th_take h1 h2
  have hs := ht.s T
  rw [cq_sayof]
  have e1 := c_things_of hs (n + 1) g
  rw [things_eq T ht] at e1
  obtain ⟨G, e2, pm⟩ := c_lots hs n g
  have mG : ∀ l, l ∈ G ↔ l ∈ lotsT t := fun l => pm.mem_iff
  have gl : G.length ≤ 15 := by rw [pm.length_eq]; unfold lotsT; rw [List.length_map]; exact hs.parts_le
  have uo := thr_ok T m
  have ris := isRet_ok (List.all_eq_true.mp (ris_all h1 h2 ht (n + 3) g) u m)
  have t1 : evC (Γn (n + 4) g) (.or (.not (.tru (.call "is_names" (.cons (.var 1) .nil)))) (.or (.cmp .ne (.blt .len (.cons (.var 1) .nil)) (.int 3)) (.not (.tru (.call "are_rising" (.cons (.var 1) .nil)))))) [some (.d t.dat), some (.d (sD u)), none] = .ok (false, [some (.d t.dat), some (.d (sD u)), none]) :=
    c_orP (t := false) (u := false) (c_not (t := true) (c_tru (e_p (es_cons (e_vd rfl) es_nil) (ld_names _ _) rfl (c_names (l := sL u) uo.lt (show 3 ≤ 1000 by decide) (n + 1) g)) rfl rfl)) fun _ =>
      c_orP (t := false) (u := false) (c_cmp (e_blt (es_cons (e_vd rfl) es_nil) rfl rfl) e_int rfl rfl rfl) fun _ => c_not (t := true) (c_tru (e_p (es_cons (e_vd rfl) es_nil) (ld_rising _ _) rfl ris) rfl rfl)
  have lc : lcLoop (lcTurn (.one 2) (evOc (Γn (n + 4) g) .yes) (evE (Γn (n + 4) g) (.ofC (.cmp .isin (.var 2) (.call "things_of" (.cons (.var 0) .nil))))) [2]) ((sL u).map PyData.str) [] [some (.d t.dat), some (.d (sD u)), none] = .ok ((sL u).map (fun _ => PyData.bool true), [some (.d t.dat), some (.d (sD u)), none]) := by
    refine lcm0 PyData.str _ (fun a ha => ?_) (show 3 ≤ LIM by decide)
    have q := in_tS (uo.lt a ha) T.lt
    rw [decide_eq_true (thr_in h1 h2 ht m a ha)] at q
    exact turn_yes rfl oc_yes (e_ofC (c_cmp (e_vd rfl) (e_p (es_cons (e_vd rfl) es_nil) (ld_things_of _ _) rfl e1) rfl rfl q)) rfl
  have t2 : evC (Γn (n + 4) g) (.not (.tru (.blt .all (.cons (.lc (.ofC (.cmp .isin (.var 2) (.call "things_of" (.cons (.var 0) .nil)))) (.one 2) (.seq (.var 1)) .yes [2]) .nil)))) [some (.d t.dat), some (.d (sD u)), none] = .ok (false, [some (.d t.dat), some (.d (sD u)), none]) :=
    c_not (t := true) (c_tru (r := .d (.bool true)) (e_blt (es_cons (e_lc (i_seq (e_vd rfl) rfl rfl) lc) es_nil) rfl rfl) rfl rfl)
  have e3 := c_sayin (lots_lt hs mG) (show G.length ≤ 1000 by omega) uo (n + 2) g
  rw [hS_lots mG] at e3
  exact runB_rt rfl rfl (ss_F t1 (evSs_nil _ _) (ss_F t2 (evSs_nil _ _) (ss_rt (s_ret (e_p (es_cons (e_p (es_cons (e_vd rfl) es_nil) (ld_lots _ _) rfl e2) (es_cons (e_vd rfl) es_nil)) (ld_sayin _ _) rfl e3))))) rfl
/-! ### first_lacking, has_all -/
theorem c_lack {ss : List Sy} (hm : ∀ s, s ∈ ss → s ∈ sayAll (Lt.take k)) (n : Nat) (g : Bool) : P.call (n + 6) g "first_lacking" [.d t.dat, .d (.tuple (ss.map sD))] = .ret (.d (optD (ss.find? fun s => !hasS t s))) none := by
  rw [cq_lack]
  have ff := for_find sD (f := fun x ρ => match Tg.set ρ x (.one 2) with
      | some ρ => evSs (Γn (n + 5) g) (.cons (.iff (.not (.tru (.call "has" (.cons (.var 0) (.cons (.var 2) .nil))))) (.cons (.ret (.var 2)) (.nil)) (.nil)) (.nil)) ρ
      | none => .stuck) (fun o => [some (.d t.dat), some (.d (.tuple (ss.map sD))), oW o]) (fun s => !hasS t s) (fun s => .d (sD s)) (fun s => [some (.d t.dat), some (.d (.tuple (ss.map sD))), some (.d (sD s))]) (l := ss) (o := none) fun s m o => by
    have st : Tg.set [some (.d t.dat), some (.d (.tuple (ss.map sD))), oW o] (sD s) (.one 2) = some [some (.d t.dat), some (.d (.tuple (ss.map sD))), some (.d (sD s))] := intoW_d (w := oW o) rfl (ok_oW o)
    simp only [st]
    have e := c_has h1 h2 ht (hm s m) n g
    have c : evC (Γn (n + 5) g) (.not (.tru (.call "has" (.cons (.var 0) (.cons (.var 2) .nil))))) [some (.d t.dat), some (.d (.tuple (ss.map sD))), some (.d (sD s))] = .ok (!hasS t s, [some (.d t.dat), some (.d (.tuple (ss.map sD))), some (.d (sD s))]) :=
      c_not (c_tru (e_p (es_cons (e_vd rfl) (es_cons (e_vd rfl) es_nil)) (ld_has _ _) rfl e) rfl rfl)
    cases q : hasS t s with
    | true =>
      rw [q] at c
      exact ss_F c (evSs_nil (Γn (n + 5) g) _) (evSs_nil (Γn (n + 5) g) _)
    | false =>
      rw [q] at c
      exact ss_T c (ss_rt (s_ret (e_vd rfl))) rfl
  cases q : ss.find? (fun s => !hasS t s) with
  | some s =>
    rw [q] at ff
    exact runB_rt rfl rfl (ss_rt (s_for (i_seq (e_vd rfl) rfl rfl) ff)) rfl
  | none =>
    rw [q] at ff
    obtain ⟨o, ff⟩ := ff
    exact runB_rt rfl rfl (ss_nx (s_for (i_seq (e_vd rfl) rfl rfl) ff) (ss_rt (s_ret e_non))) rfl
theorem c_hall {ss : List Sy} (hm : ∀ s, s ∈ ss → s ∈ sayAll (Lt.take k)) (n : Nat) (g : Bool) : P.call (n + 7) g "has_all" [.d t.dat, .d (.tuple (ss.map sD))] = .ret (.d (.bool (ss.all (hasS t)))) none := by
  rw [cq_hall]
  have e := c_lack h1 h2 ht hm n g
  have eq : isNoneD (optD (ss.find? fun s => !hasS t s)) = ss.all (hasS t) := by
    rw [optD_n, Bool.eq_iff_iff, Option.isNone_iff_eq_none, List.find?_eq_none, List.all_eq_true]
    exact ⟨fun z s hs => by simpa using z s hs, fun z s hs => by simp [z s hs]⟩
  rw [← eq]
  exact runB_rt rfl rfl (ss_rt (s_ret (e_ofC (c_isN (e_p (es_cons (e_vd rfl) (es_cons (e_vd rfl) es_nil)) (ld_lack _ _) rfl e) rfl)))) rfl
end
end K26
set_option Elab.async false
set_option linter.all false
set_option maxRecDepth 100000
set_option maxHeartbeats 4000000
namespace K26
open PySem Mn
/-! ### _law_put -/
theorem cq_put (n : Nat) (g : Bool) (ws : List W) : P.call (n + 1) g "_law_put" ws = runB (Γn n g) 1 5 b_x_law_put ws := by kernel_rfl
theorem ld_put (n : Nat) (g : Bool) : (Γn n g).lend "_law_put" = false := by kernel_rfl
theorem idx0 (x : D) (r : List D) : idxD (.tuple (x :: r)) (.int 0) = some x := by
  simp [idxD, L2.atI, L2.ixN]
theorem idx_nat {xs : List D} {i : Nat} {x : D} (h : xs[i]? = some x) : idxD (.list xs) (.int i) = some x := by
  have : i < xs.length := by
    rcases Nat.lt_or_ge i xs.length with q | q
    · exact q
    · rw [List.getElem?_eq_none q] at h; cases h
  rw [show idxD (.list xs) (.int i) = L2.atI xs i from rfl]
  unfold L2.atI L2.ixN
  simp [this]
  rw [List.getElem?_eq_getElem this] at h
  exact Option.some.inj h
def encI (p : Tr × Nat) : D := .tuple [.int p.2, p.1.dat]
theorem c_put {ts : List Tr} (h : ∀ t, t ∈ ts → TrS t) (h1 : 2 ≤ ts.length) (hl : ts.length ≤ 8) (n : Nat) (g : Bool) : ∃ us, P.call (n + 2) g "_law_put" [.d (.list (ts.map Tr.dat))] = .ret (.d (Tr.node us).dat) none ∧ us.Perm ts ∧ us.Pairwise Tr.lstLt := by
  rw [cq_put]
  obtain ⟨l, e, pm, pw⟩ := srt_pairs h hl g
  have lim : ts.length ≤ LIM := Nat.le_trans hl (by decide)
  have mem : ∀ p, p ∈ ts.zipIdx → p.1 ∈ ts ∧ ts[p.2]? = some p.1 := fun p hp => by
    obtain ⟨x, i⟩ := p
    have := List.mem_zipIdx' hp
    exact ⟨by rw [this.2]; exact List.getElem_mem _, by rw [List.getElem?_eq_getElem this.1]; exact congrArg some this.2.symm⟩
  have l1 : lcLoop (lcTurn (.row [2, 3]) (evOc (Γn (n + 1) g) .yes) (evE (Γn (n + 1) g) (.tup (.cons (.idx (.call "_law_of" (.cons (.var 3) .nil)) (.int 0)) (.cons (.var 2) .nil)))) [2, 3]) (ts.zipIdx.map encI) [] [some (.d (.list (ts.map Tr.dat))), none, none, none, none] = .ok (ts.zipIdx.map encP, [some (.d (.list (ts.map Tr.dat))), none, none, none, none]) := by
    refine lcm0 encI _ (fun p hp => ?_) (by rw [List.length_zipIdx]; exact lim)
    have s := h _ (mem p hp).1
    obtain ⟨r, er⟩ := lst_head s
    have ei : idxD (tS (sortS p.1.leaves)) (.int 0) = some (.str (Tr.lst p.1)) := by
      unfold tS
      rw [er]
      exact idx0 _ _
    exact turn_yes rfl oc_yes (e_tup (es_cons (e_idx (e_p (es_cons (e_vd rfl) es_nil) (ld_lof _ _) rfl (c_lof s n g)) e_int rfl rfl ei) (es_cons (e_vd rfl) es_nil)) rfl (show 2 ≤ LIM by decide)) rfl
  have ez : (ts.map Tr.dat).zipIdx.map (fun p => PyData.tuple [.int p.2, p.1]) = ts.zipIdx.map encI := by
    rw [List.zipIdx_map, List.map_map]
    rfl
  have i1 : evI (Γn (n + 1) g) (.enum (.var 0)) [some (.d (.list (ts.map Tr.dat))), none, none, none, none] = .ok (ts.zipIdx.map encI, [some (.d (.list (ts.map Tr.dat))), none, none, none, none]) := by
    rw [← ez]
    exact i_enumL (e_vd rfl) rfl
  have l2 : lcLoop (lcTurn (.row [4, 2]) (evOc (Γn (n + 1) g) .yes) (evE (Γn (n + 1) g) (.idx (.var 0) (.var 2))) [4, 2]) (l.map encP) [] [some (.d (.list (ts.map Tr.dat))), some (.d (.list (l.map encP))), none, none, none] = .ok (l.map fun p => p.1.dat, [some (.d (.list (ts.map Tr.dat))), some (.d (.list (l.map encP))), none, none, none]) := by
    refine lcm0 encP _ (fun p hp => ?_) (by rw [pm.length_eq, List.length_zipIdx]; exact lim)
    have ei : idxD (.list (ts.map Tr.dat)) (.int p.2) = some p.1.dat := idx_nat (by rw [List.getElem?_map, (mem p (pm.mem_iff.mp hp)).2]; rfl)
    exact turn_yes rfl oc_yes (e_idx (e_vd rfl) (e_vd rfl) rfl rfl ei) rfl
  have tst : evC (Γn (n + 1) g) (.cmp .gt (.blt .len (.cons (.var 0) .nil)) (.int 1)) [some (.d (.list (ts.map Tr.dat))), some (.own false (l.map encP)), none, none, none] = .ok (true, [some (.d (.list (ts.map Tr.dat))), some (.own false (l.map encP)), none, none, none]) := by
    refine c_cmp (e_blt (es_cons (e_vd rfl) es_nil) rfl rfl) e_int rfl rfl ?_
    show some (decide ((1 : Int) < ((ts.map Tr.dat).length : Int))) = some true
    rw [decide_eq_true (by rw [List.length_map]; omega)]
  have ed : (Tr.node (l.map (·.1))).dat = .tuple (l.map fun p => p.1.dat) := by
    rw [Tr.dat_node, List.map_map]
    rfl
  refine ⟨l.map (·.1), ?_, ?_, pw⟩
  · rw [ed]
    exact runB_rt rfl rfl (ss_nx (s_set (e_blt (es_cons (e_lc i1 l1) es_nil) rfl e) rfl) (ss_rt (s_ret (e_iteT tst (e_blt (r := .d (.tuple (l.map fun p => p.1.dat))) (es_cons (e_lc (i_seq (e_vo rfl) rfl rfl) l2) es_nil) rfl rfl))))) rfl
  · have := pm.map (·.1)
    rw [List.zipIdx_map_fst] at this
    exact this
/-! ### _law_tree -/
theorem cq_tree (n : Nat) (g : Bool) (ws : List W) : P.call (n + 1) g "_law_tree" ws = runB (Γn n g) 2 8 b_x_law_tree ws := by kernel_rfl
theorem ld_tree (n : Nat) (g : Bool) : (Γn n g).lend "_law_tree" = true := by kernel_rfl
theorem tr_leaf (x : Str) : TrOk [x] (.leaf x) := ⟨by rw [Tr.Ok]; trivial, by rw [Tr.leaves]⟩
theorem one_of {l : List Str} (h : l.length = 1) : ∃ x, l = [x] := List.length_eq_one_iff.mp h
theorem srt_tup {k : List Str} (hk : k.length ≤ 8) (g : Bool) : bltD g .sorted [.list (k.map .str)] = some (.fresh ((sortS k).map .str)) := srt_strs k (Nat.le_trans hk (by decide)) g
theorem sortS_perm (k : List Str) : (sortS k).Perm k := List.mergeSort_perm _ _
theorem TrOk.to {l m : List Str} {t : Tr} (h : TrOk l t) (pm : l.Perm m) : TrOk m t := ⟨h.ok, h.pm.trans pm⟩
theorem TrOk.ts {l : List Str} {t : Tr} (h : TrOk l t) (hl : ∀ a, a ∈ l → a ∈ Lt) (h8 : l.length ≤ 8) : TrS t := ⟨h.ok, fun x hx => hl x (h.pm.mem_iff.mp hx), by rw [h.pm.length_eq]; exact h8⟩
def encZ (p : Nat × Nat) : D := .tuple [.int p.1, .int p.2]
def seg (xs : List Str) (p : Nat × Nat) : List Str := (xs.drop p.1).take (p.2 - p.1)
abbrev TrRet (l : List Str) (bag : List D) (c : CRes) : Prop := ∃ t bag', c = .ret (.d t.dat) (some bag') ∧ BagOk bag' ∧ TrOk l t
theorem tree_one {bag : List D} (hb : BagOk bag) (x : Str) (N : Nat) (g : Bool) : TrRet [x] bag (P.call (N + 1) g "_law_tree" [.own true bag, .d (tS [x])]) := by
  rw [cq_tree]
  refine ⟨.leaf x, bag, runB_rt rfl rfl (ss_T (c_cmp (e_blt (es_cons (e_vd rfl) es_nil) rfl rfl) e_int rfl rfl rfl) (ss_rt (s_ret (e_idx (e_vd rfl) e_int rfl rfl (idx0 _ _)))) rfl) rfl, hb, tr_leaf x⟩
theorem joined {xs : List Str} {qs : List ((Nat × Nat) × Tr)} (h : ∀ q, q ∈ qs → TrOk (sortS (seg xs q.1)) q.2) : ((qs.map (·.2)).flatMap Tr.leaves).Perm ((qs.map fun q => seg xs q.1).flatten) := by
  induction qs with
  | nil => exact .nil
  | cons q qs ih =>
    rw [List.map_cons, List.map_cons, List.flatMap_cons, List.flatten_cons]
    exact ((h q List.mem_cons_self).pm.trans (sortS_perm _)).append (ih fun q hq => h q (List.mem_cons_of_mem _ hq))
theorem c_tree : ∀ (m n : Nat) (g : Bool) {bag : List D}, BagOk bag → ∀ {l : List Str}, (∀ a, a ∈ l → a ∈ Lt) → 1 ≤ l.length → l.length ≤ m + 1 → l.length ≤ 8 → TrRet l bag (P.call (n + m + 4) g "_law_tree" [.own true bag, .d (tS l)])
  | 0, n, g, bag, hb, l, hlt, h1, h2, h8 => by
    obtain ⟨x, rfl⟩ := one_of (l := l) (by omega)
    exact tree_one hb x (n + 3) g
  | m + 1, n, g, bag, hb, l, hlt, h1, h2, h8 => by
    rcases Nat.lt_or_ge 1 l.length with q | q
    case inr =>
      obtain ⟨x, rfl⟩ := one_of (l := l) (by omega)
      exact tree_one hb x (n + (m + 1) + 3) g
    have IH := @c_tree m n g
    show TrRet l bag (P.call (n + m + 4 + 1) g "_law_tree" [.own true bag, .d (tS l)])
    rw [cq_tree]
    have ll : (l.map PyData.str).length = l.length := List.length_map ..
    have t0 : evC (Γn (n + m + 4) g) (.cmp .eq (.blt .len (.cons (.var 1) .nil)) (.int 1)) [some (.own true bag), some (.d (tS l)), none, none, none, none, none, none] = .ok (false, [some (.own true bag), some (.d (tS l)), none, none, none, none, none, none]) := by
      have c := c_cmp (Γ := Γn (n + m + 4) g) (o := .eq) (a := .blt .len (.cons (.var 1) .nil)) (b := .int 1) (ρ := [some (.own true bag), some (.d (tS l)), none, none, none, none, none, none]) (e_blt (es_cons (e_vd rfl) es_nil) rfl rfl) e_int rfl rfl (int_eqb ((l.map PyData.str).length : Int) 1)
      rw [decide_eq_false (by omega)] at c
      exact c
    obtain ⟨x, bag1, e1, hb1, hx⟩ := c_some hb (xs := [.int 0, .int 0, .int 0, .int 1]) (by decide) (by decide) (n + m + 2) g
    have hv : ∃ v : Nat, x = .int v ∧ v ≤ 1 := by
      simp only [List.mem_cons, List.not_mem_nil, or_false] at hx
      rcases hx with rfl | rfl | rfl | rfl
      · exact ⟨0, rfl, by decide⟩
      · exact ⟨0, rfl, by decide⟩
      · exact ⟨0, rfl, by decide⟩
      · exact ⟨1, rfl, by decide⟩
    obtain ⟨v, rfl, hv⟩ := hv
    have hk : ∃ k : Nat, (if ((2 : Int) + (v : Int)) < ((l.map PyData.str).length : Int) then ((2 : Int) + (v : Int)) else ((l.map PyData.str).length : Int)) = (k : Int) ∧ 2 ≤ k ∧ k ≤ l.length := by
      by_cases w : ((2 : Int) + (v : Int)) < ((l.map PyData.str).length : Int)
      · exact ⟨2 + v, by rw [if_pos w]; omega, by omega, by omega⟩
      · exact ⟨l.length, by rw [if_neg w]; omega, by omega, by omega⟩
    obtain ⟨k, ek, k2, kl⟩ := hk
    have s1 : evS (Γn (n + m + 4) g) (.set 2 (.blt .min2 (.cons (.blt .len (.cons (.var 1) .nil)) (.cons (.op .add (.int 2) (.call "_law_some" (.cons (.var 0) (.cons (.lst (.cons (.int 0) (.cons (.int 0) (.cons (.int 0) (.cons (.int 1) .nil))))) .nil)))) .nil)))) [some (.own true bag), some (.d (tS l)), none, none, none, none, none, none] = .nx [some (.own true bag1), some (.d (tS l)), some (.d (.int k)), none, none, none, none, none] := by
      rw [← ek]
      exact s_set (e_blt (es_cons (e_blt (es_cons (e_vd rfl) es_nil) rfl rfl) (es_cons (e_op e_int (e_pl (es_cons (e_vo rfl) (es_cons (e_lst (es_cons e_int (es_cons e_int (es_cons e_int (es_cons e_int es_nil)))) rfl (show 4 ≤ LIM by decide)) es_nil)) (ld_some _ _) rfl rfl rfl e1) rfl rfl rfl) es_nil)) rfl rfl) rfl
    obtain ⟨ys, bag2, e2, hb2, pm2⟩ := c_mixed hb1 (xs := l.map .str) (by omega) (n + m + 2) g
    obtain ⟨xs, pmx, rfl⟩ := perm_map_inv pm2 rfl
    have xl : xs.length = l.length := pmx.length_eq
    have s2 : evS (Γn (n + m + 4) g) (.set 3 (.call "_law_mixed" (.cons (.var 0) (.cons (.blt .list (.cons (.var 1) .nil)) .nil)))) [some (.own true bag1), some (.d (tS l)), some (.d (.int k)), none, none, none, none, none] = .nx [some (.own true bag2), some (.d (tS l)), some (.d (.int k)), some (.own false (xs.map .str)), none, none, none, none] :=
      s_set (e_pl (es_cons (e_vo rfl) (es_cons (e_blt (es_cons (e_vd rfl) es_nil) rfl rfl) es_nil)) (ld_mixed _ _) rfl rfl rfl e2) rfl
    have er : bltD g .rngL2 [.int 1, .int ((l.map PyData.str).length : Int)] = some (.fresh (((List.range (l.length - 1)).map (1 + ·)).map natD)) := by
      show (if _ then some (R.fresh _) else none) = _
      have : LIM = 1000000 := rfl
      rw [if_pos (by rw [ll, this]; omega), List.map_map]
      congr 2
      have : ((((l.map PyData.str).length : Int)) - 1).toNat = l.length - 1 := by omega
      rw [this]
      refine List.map_congr_left fun i _ => ?_
      show PyData.int _ = PyData.int _
      congr 1
    obtain ⟨ys, bag3, e3, hb3, pm3⟩ := c_mixed hb2 (xs := ((List.range (l.length - 1)).map (1 + ·)).map natD) (by rw [List.length_map, List.length_map, List.length_range]; omega) (n + m + 2) g
    obtain ⟨zs, pmz, rfl⟩ := perm_map_inv pm3 rfl
    have zl : zs.length = l.length - 1 := by rw [pmz.length_eq, List.length_map, List.length_range]
    have zb : ∀ z, z ∈ zs → 1 ≤ z ∧ z < l.length := fun z hz => by
      have := pmz.mem_iff.mp hz
      rw [List.mem_map] at this
      obtain ⟨i, hi, rfl⟩ := this
      have := List.mem_range.mp hi
      omega
    have znd : zs.Nodup := pmz.nodup_iff.mpr (by
      rw [List.nodup_iff_pairwise_ne, List.pairwise_map]
      exact (List.nodup_range (n := l.length - 1)).imp fun {a b} h => by omega)
    have tb : ∀ z, z ∈ zs.take (k - 1) → 1 ≤ z ∧ z < l.length := fun z hz => zb z (List.mem_of_mem_take hz)
    obtain ⟨cs, e4, pmc, pwc⟩ := srt_nats (l := zs.take (k - 1)) (fun z hz => by have := tb z hz; omega) (by rw [List.length_take]; exact lim_le (by omega)) g
    have cb : ∀ z, z ∈ cs → 1 ≤ z ∧ z < l.length := fun z hz => tb z (pmc.mem_iff.mp hz)
    have cl : cs.length = k - 1 := by rw [pmc.length_eq, List.length_take]; omega
    have clt := lt_of_le_nodup pwc (pmc.nodup_iff.mpr (znd.sublist (List.take_sublist _ _)))
    have ec : cutL (zs.map natD) none (some ((k : Int) - 1)) = (zs.take (k - 1)).map natD := by
      have : (k : Int) - 1 = ((k - 1 : Nat) : Int) := by omega
      rw [this, cutL_to, List.map_take]
    have s3 : evS (Γn (n + m + 4) g) (.set 4 (.blt .sorted (.cons (.slc (.call "_law_mixed" (.cons (.var 0) (.cons (.blt .rngL2 (.cons (.int 1) (.cons (.blt .len (.cons (.var 1) .nil)) .nil))) .nil))) .none (.some (.op .sub (.var 2) (.int 1)))) .nil))) [some (.own true bag2), some (.d (tS l)), some (.d (.int k)), some (.own false (xs.map .str)), none, none, none, none] = .nx [some (.own true bag3), some (.d (tS l)), some (.d (.int k)), some (.own false (xs.map .str)), some (.own false (cs.map natD)), none, none, none] := by
      refine s_set (e_blt (es_cons (e_slc (r := .fresh ((zs.take (k - 1)).map natD)) (e_pl (es_cons (e_vo rfl) (es_cons (e_blt (es_cons e_int (es_cons (e_blt (es_cons (e_vd rfl) es_nil) rfl rfl) es_nil)) rfl er) es_nil)) (ld_mixed _ _) rfl rfl rfl e3) o_none (o_some (e_op (e_vd rfl) e_int rfl rfl rfl)) rfl ?_) es_nil) rfl e4) rfl
      show some (R.fresh (cutL _ _ _)) = _
      rw [ec]
    have en : (((0 :: cs) ++ [l.length]).map natD) = ([PyData.int 0] ++ cs.map natD) ++ [PyData.int ((l.map PyData.str).length : Int)] := by
      rw [List.map_append, List.map_cons, ll]
      rfl
    have s4 : evS (Γn (n + m + 4) g) (.set 5 (.op .add (.op .add (.lst (.cons (.int 0) .nil)) (.var 4)) (.lst (.cons (.blt .len (.cons (.var 1) .nil)) .nil)))) [some (.own true bag3), some (.d (tS l)), some (.d (.int k)), some (.own false (xs.map .str)), some (.own false (cs.map natD)), none, none, none] = .nx [some (.own true bag3), some (.d (tS l)), some (.d (.int k)), some (.own false (xs.map .str)), some (.own false (cs.map natD)), some (.own false (((0 :: cs) ++ [l.length]).map natD)), none, none] := by
      rw [en]
      refine s_set (e_op (e_op (e_lst (es_cons e_int es_nil) rfl (show 1 ≤ LIM by decide)) (e_vo rfl) rfl rfl (if_pos ?_)) (e_lst (es_cons (e_blt (es_cons (e_vd rfl) es_nil) rfl rfl) es_nil) rfl (show 1 ≤ LIM by decide)) rfl rfl (if_pos ?_)) rfl
      · rw [List.length_map]; exact lim_le (by simp; omega)
      · rw [List.length_append, List.length_map]; exact lim_le (by simp; omega)
    -- the ends
    have pwe : (0 :: (cs ++ [l.length])).Pairwise (· < ·) := by
      refine List.pairwise_cons.mpr ⟨fun z hz => ?_, List.pairwise_append.mpr ⟨clt, List.pairwise_singleton _ _, fun a ha b hb => ?_⟩⟩
      · rcases List.mem_append.mp hz with hz | hz
        · have := cb z hz; omega
        · rw [List.mem_singleton.mp hz]; omega
      · rw [List.mem_singleton.mp hb]; exact (cb a ha).2
    have pz := zip_lt pwe
    have pb : ∀ p, p ∈ (0 :: (cs ++ [l.length])).zip (cs ++ [l.length]) → p.1 < p.2 ∧ p.2 ≤ l.length := fun p hp => by
      obtain ⟨a, b, c⟩ := pz p hp
      refine ⟨a, ?_⟩
      rcases List.mem_append.mp c with c | c
      · have := cb _ c; omega
      · rw [List.mem_singleton.mp c]; exact Nat.le_refl _
    have sj := segs_join xs 0 (cs ++ [l.length]) pwe (by rw [xl, List.getLast_cons (by simp), List.getLast_append]; simp)
    rw [List.drop_zero] at sj
    have sj : (((0 :: (cs ++ [l.length])).zip (cs ++ [l.length])).map (seg xs)).flatten = xs := sj
    have zlen : ((0 :: (cs ++ [l.length])).zip (cs ++ [l.length])).length = k := by
      rw [List.length_zip, List.length_cons, List.length_append, List.length_singleton]; omega
    have sne : ∀ s, s ∈ ((0 :: (cs ++ [l.length])).zip (cs ++ [l.length])).map (seg xs) → s ≠ [] := fun s hs => by
      obtain ⟨p, hp, rfl⟩ := List.mem_map.mp hs
      have := pb p hp
      refine List.length_pos_iff.mp ?_
      unfold seg
      rw [List.length_take, List.length_drop]
      omega
    have slt := seg_lt sne (by rw [List.length_map]; omega)
    rw [sj, xl] at slt
    generalize hE : (0 :: (cs ++ [l.length])).zip (cs ++ [l.length]) = pairs at *
    obtain ⟨acc, bag4, lc, J1, qs, rs, J2, J3, J4, J5⟩ := lc_inv (f := lcTurn (.row [6, 7]) (evOc (Γn (n + m + 4) g) .yes) (evE (Γn (n + m + 4) g) (.call "_law_tree" (.cons (.var 0) (.cons (.blt .tuple (.cons (.blt .sorted (.cons (.slc (.var 3) (.some (.var 6)) (.some (.var 7))) .nil)) .nil)) .nil)))) [6, 7])
      (fun b : List D => [some (.own true b), some (.d (tS l)), some (.d (.int k)), some (.own false (xs.map .str)), some (.own false (cs.map natD)), some (.d (.list (((0 :: cs) ++ [l.length]).map natD))), none, none])
      (fun rest acc b => BagOk b ∧ ∃ (qs : List ((Nat × Nat) × Tr)) (rs : List (Nat × Nat)), acc = qs.map (fun q => q.2.dat) ∧ rest = rs.map encZ ∧ qs.map (·.1) ++ rs = pairs ∧ ∀ q, q ∈ qs → TrOk (sortS (seg xs q.1)) q.2)
      (xs := pairs.map encZ) (acc := []) (a := bag3) ⟨hb3, [], pairs, rfl, rfl, rfl, fun q hq => by cases hq⟩ (by rw [List.length_map]; exact lim_le (by simp; omega))
      fun x rest acc b ⟨J1, qs, rs, J2, J3, J4, J5⟩ => by
        cases rs with
        | nil => cases J3
        | cons p rs =>
          rw [List.map_cons] at J3
          obtain ⟨rfl, rfl⟩ := List.cons.inj J3
          have hp : p ∈ pairs := by rw [← J4]; simp
          have b1 := pb p hp
          have sl : (seg xs p).length < l.length := slt _ (List.mem_map_of_mem hp)
          have sn : seg xs p ≠ [] := sne _ (List.mem_map_of_mem hp)
          have sm : ∀ a, a ∈ seg xs p → a ∈ Lt := fun a ha => hlt a (pmx.mem_iff.mp (List.mem_of_mem_drop (List.mem_of_mem_take ha)))
          have es : cutL (xs.map PyData.str) (some (p.1 : Int)) (some (p.2 : Int)) = (seg xs p).map .str := by
            rw [cutL_map, cutL_nat _ (by omega) (by omega)]
            rfl
          have len := (sortS_perm (seg xs p)).length_eq
          have pos := List.length_pos_iff.mpr sn
          obtain ⟨u, b', eu, hb', hu⟩ := IH (bag := b) J1 (l := sortS (seg xs p)) (fun a ha => sm a ((sortS_perm _).mem_iff.mp ha)) (by omega) (by omega) (by omega)
          refine ⟨u.dat, b', ?_, hb', qs ++ [(p, u)], rs, ?_, rfl, ?_, ?_⟩
          · refine turn_yes rfl oc_yes (e_pl (es_cons (e_vo rfl) (es_cons (e_blt (es_cons (e_blt (es_cons (e_slc (r := .fresh ((seg xs p).map .str)) (e_vo rfl) (o_some (e_vd rfl)) (o_some (e_vd rfl)) rfl ?_) es_nil) rfl (srt_tup (by omega) g)) es_nil) rfl rfl) es_nil)) (ld_tree _ _) rfl rfl rfl eu) rfl
            show some (R.fresh (cutL _ _ _)) = _
            rw [es]
          · rw [J2, List.map_append]; rfl
          · rw [← J4, List.map_append, List.append_assoc]; rfl
          · intro q hq
            rcases List.mem_append.mp hq with hq | hq
            · exact J5 q hq
            · rw [List.mem_singleton.mp hq]; exact hu
    have rs0 : rs = [] := List.map_eq_nil_iff.mp J3.symm
    rw [rs0, List.append_nil] at J4
    have ql : qs.length = k := by rw [← zlen, ← J4, List.length_map]
    have jn := joined J5
    have ee : (qs.map fun q => seg xs q.1) = pairs.map (seg xs) := by rw [← J4, List.map_map]; rfl
    rw [ee, sj] at jn
    have okq : ∀ t, t ∈ qs.map (·.2) → t.Ok ∧ TrS t := fun t ht => by
      obtain ⟨q, hq, rfl⟩ := List.mem_map.mp ht
      have o := J5 q hq
      have hp : q.1 ∈ pairs := by rw [← J4]; exact List.mem_map_of_mem hq
      have sl : (seg xs q.1).length < l.length := slt _ (List.mem_map_of_mem hp)
      exact ⟨o.ok, TrOk.ts o (fun a ha => hlt a (pmx.mem_iff.mp (List.mem_of_mem_drop (List.mem_of_mem_take ((sortS_perm _).mem_iff.mp ha))))) (by rw [(sortS_perm (seg xs q.1)).length_eq]; omega)⟩
    obtain ⟨us, ep, pmu, pwu⟩ := c_put (ts := qs.map (·.2)) (fun t ht => (okq t ht).2) (by rw [List.length_map]; omega) (by rw [List.length_map]; omega) (n + m + 2) g
    have ea : acc = (qs.map (·.2)).map Tr.dat := by rw [J2, List.map_map]; rfl
    rw [ea] at lc
    have iz : evI (Γn (n + m + 4) g) (.zip (.var 5) (.slc (.var 5) (.some (.int 1)) .none)) [some (.own true bag3), some (.d (tS l)), some (.d (.int k)), some (.own false (xs.map .str)), some (.own false (cs.map natD)), some (.own false (((0 :: cs) ++ [l.length]).map natD)), none, none] = .ok (pairs.map encZ, [some (.own true bag3), some (.d (tS l)), some (.d (.int k)), some (.own false (xs.map .str)), some (.own false (cs.map natD)), some (.d (.list (((0 :: cs) ++ [l.length]).map natD))), none, none]) := by
      have ez : ((((0 :: cs) ++ [l.length]).map natD).zip (((cs ++ [l.length]).map natD))).map (fun p => PyData.tuple [p.1, p.2]) = pairs.map encZ := by
        rw [← hE, show (0 :: cs) ++ [l.length] = 0 :: (cs ++ [l.length]) from rfl, List.zip_map, List.map_map]
        rfl
      rw [← ez]
      refine i_zipL (e_vo rfl) (e_slc (r := .fresh ((cs ++ [l.length]).map natD)) (e_vo rfl) (o_some e_int) o_none rfl ?_) rfl
      show some (R.fresh (cutL _ _ _)) = _
      rw [show (some (1 : Int)) = some ((1 : Nat) : Int) from rfl, cutL_from]
      rfl
    refine ⟨.node us, bag4, runB_rt rfl rfl (ss_F t0 (evSs_nil _ _) (ss_nx s1 (ss_nx s2 (ss_nx s3 (ss_nx s4 (ss_rt (s_ret (e_p (es_cons (e_lc iz lc) es_nil) (ld_put _ _) rfl ep)))))))) rfl, J1, ?_⟩
    exact node_ok (G := []) (by rw [List.length_map]; omega) pmu pwu (fun t ht => (okq t ht).1) (jn.trans pmx)
end K26
set_option Elab.async false
set_option linter.all false
set_option maxRecDepth 100000
set_option maxHeartbeats 4000000
namespace K26
open PySem Mn
/-! ### _law_forked_tree -/
theorem cq_fork (n : Nat) (g : Bool) (ws : List W) : P.call (n + 1) g "_law_forked_tree" ws = runB (Γn n g) 2 4 b_x_law_forked_tree ws := by kernel_rfl
theorem ld_fork (n : Nat) (g : Bool) : (Γn n g).lend "_law_forked_tree" = true := by kernel_rfl
theorem fork_one {bag : List D} (hb : BagOk bag) (x : Str) (N : Nat) (g : Bool) : TrRet [x] bag (P.call (N + 1) g "_law_forked_tree" [.own true bag, .d (tS [x])]) := by
  rw [cq_fork]
  refine ⟨.leaf x, bag, runB_rt rfl rfl (ss_T (c_cmp (e_blt (es_cons (e_vd rfl) es_nil) rfl rfl) e_int rfl rfl rfl) (ss_rt (s_ret (e_idx (e_vd rfl) e_int rfl rfl (idx0 _ _)))) rfl) rfl, hb, tr_leaf x⟩
theorem c_fork : ∀ (m n : Nat) (g : Bool) {bag : List D}, BagOk bag → ∀ {l : List Str}, (∀ a, a ∈ l → a ∈ Lt) → 1 ≤ l.length → l.length ≤ m + 1 → l.length ≤ 8 → TrRet l bag (P.call (n + m + 4) g "_law_forked_tree" [.own true bag, .d (tS l)])
  | 0, n, g, bag, hb, l, hlt, h1, h2, h8 => by
    obtain ⟨x, rfl⟩ := one_of (l := l) (by omega)
    exact fork_one hb x (n + 3) g
  | m + 1, n, g, bag, hb, l, hlt, h1, h2, h8 => by
    rcases Nat.lt_or_ge 1 l.length with q | q
    case inr =>
      obtain ⟨x, rfl⟩ := one_of (l := l) (by omega)
      exact fork_one hb x (n + (m + 1) + 3) g
    have IH := @c_fork m n g
    show TrRet l bag (P.call (n + m + 4 + 1) g "_law_forked_tree" [.own true bag, .d (tS l)])
    rw [cq_fork]
    have ll : (l.map PyData.str).length = l.length := List.length_map ..
    have t0 : evC (Γn (n + m + 4) g) (.cmp .eq (.blt .len (.cons (.var 1) .nil)) (.int 1)) [some (.own true bag), some (.d (tS l)), none, none] = .ok (false, [some (.own true bag), some (.d (tS l)), none, none]) := by
      have c := c_cmp (Γ := Γn (n + m + 4) g) (o := .eq) (a := .blt .len (.cons (.var 1) .nil)) (b := .int 1) (ρ := [some (.own true bag), some (.d (tS l)), none, none]) (e_blt (es_cons (e_vd rfl) es_nil) rfl rfl) e_int rfl rfl (int_eqb ((l.map PyData.str).length : Int) 1)
      rw [decide_eq_false (by omega)] at c
      exact c
    obtain ⟨ys, bag2, e2, hb2, pm2⟩ := c_mixed hb (xs := l.map .str) (by omega) (n + m + 2) g
    obtain ⟨xs, pmx, rfl⟩ := perm_map_inv pm2 rfl
    have xl : xs.length = l.length := pmx.length_eq
    have s2 : evS (Γn (n + m + 4) g) (.set 2 (.call "_law_mixed" (.cons (.var 0) (.cons (.blt .list (.cons (.var 1) .nil)) .nil)))) [some (.own true bag), some (.d (tS l)), none, none] = .nx [some (.own true bag2), some (.d (tS l)), some (.own false (xs.map .str)), none] :=
      s_set (e_pl (es_cons (e_vo rfl) (es_cons (e_blt (es_cons (e_vd rfl) es_nil) rfl rfl) es_nil)) (ld_mixed _ _) rfl rfl rfl e2) rfl
    obtain ⟨v, bag3, e3, hb3, v0, v1⟩ := c_take hb2 (m := ((l.map PyData.str).length : Int) - 1) (by omega) (by omega) (n + m + 3) g
    obtain ⟨v, rfl⟩ := Int.eq_ofNat_of_zero_le v0
    have ek : (1 : Int) + (v : Int) = ((1 + v : Nat) : Int) := by omega
    have s3 : evS (Γn (n + m + 4) g) (.set 3 (.op .add (.int 1) (.call "_law_take" (.cons (.var 0) (.cons (.op .sub (.blt .len (.cons (.var 1) .nil)) (.int 1)) .nil))))) [some (.own true bag2), some (.d (tS l)), some (.own false (xs.map .str)), none] = .nx [some (.own true bag3), some (.d (tS l)), some (.own false (xs.map .str)), some (.d (.int ((1 + v : Nat) : Int)))] := by
      rw [← ek]
      exact s_set (e_op e_int (e_pl (es_cons (e_vo rfl) (es_cons (e_op (e_blt (es_cons (e_vd rfl) es_nil) rfl rfl) e_int rfl rfl rfl) es_nil)) (ld_take _ _) rfl rfl rfl e3) rfl rfl rfl) rfl
    have kl : 1 + v < l.length := by omega
    generalize 1 + v = k at *
    have k1 : 1 ≤ k := by omega
    have ea : cutL (xs.map PyData.str) none (some (k : Int)) = (xs.take k).map .str := by rw [cutL_map, cutL_to]
    have eb : cutL (xs.map PyData.str) (some (k : Int)) none = (xs.drop k).map .str := by rw [cutL_map, cutL_from]
    have la := List.length_take (i := k) (l := xs)
    have lb := List.length_drop (i := k) (l := xs)
    have pa := (sortS_perm (xs.take k))
    have pb := (sortS_perm (xs.drop k))
    have pal := pa.length_eq
    have pbl := pb.length_eq
    have ma : ∀ a, a ∈ sortS (xs.take k) → a ∈ Lt := fun a ha => hlt a (pmx.mem_iff.mp (List.mem_of_mem_take (pa.mem_iff.mp ha)))
    have mb : ∀ a, a ∈ sortS (xs.drop k) → a ∈ Lt := fun a ha => hlt a (pmx.mem_iff.mp (List.mem_of_mem_drop (pb.mem_iff.mp ha)))
    obtain ⟨t, bag4, e4, hb4, ht⟩ := IH (bag := bag3) hb3 (l := sortS (xs.take k)) ma (by omega) (by omega) (by omega)
    obtain ⟨u, bag5, e5, hb5, hu⟩ := IH (bag := bag4) hb4 (l := sortS (xs.drop k)) mb (by omega) (by omega) (by omega)
    have ts : TrS t := TrOk.ts ht ma (by omega)
    have us : TrS u := TrOk.ts hu mb (by omega)
    obtain ⟨ws, ep, pmu, pwu⟩ := c_put (ts := [t, u]) (fun x hx => by
      rcases List.mem_cons.mp hx with rfl | hx
      · exact ts
      · rw [List.mem_singleton.mp hx]; exact us) (show 2 ≤ 2 from Nat.le_refl 2) (show 2 ≤ 8 by decide) (n + m + 2) g
    have a1 : slcD (.list (xs.map PyData.str)) none (some (k : Int)) = some (.fresh ((xs.take k).map .str)) := by
      show some (R.fresh (cutL _ _ _)) = _
      rw [ea]
    have a2 : slcD (.list (xs.map PyData.str)) (some (k : Int)) none = some (.fresh ((xs.drop k).map .str)) := by
      show some (R.fresh (cutL _ _ _)) = _
      rw [eb]
    have f4 : evE (Γn (n + m + 4) g) (.call "_law_forked_tree" (.cons (.var 0) (.cons (.blt .tuple (.cons (.blt .sorted (.cons (.slc (.var 2) .none (.some (.var 3))) .nil)) .nil)) .nil))) [some (.own true bag3), some (.d (tS l)), some (.own false (xs.map .str)), some (.d (.int k))] = .ok (.d t.dat, [some (.own true bag4), some (.d (tS l)), some (.own false (xs.map .str)), some (.d (.int k))]) :=
      e_pl (es_cons (e_vo rfl) (es_cons (e_blt (es_cons (e_blt (es_cons (e_slc (e_vo rfl) o_none (o_some (e_vd rfl)) rfl a1) es_nil) rfl (srt_tup (by omega) g)) es_nil) rfl rfl) es_nil)) (ld_fork _ _) rfl rfl rfl e4
    have f5 : evE (Γn (n + m + 4) g) (.call "_law_forked_tree" (.cons (.var 0) (.cons (.blt .tuple (.cons (.blt .sorted (.cons (.slc (.var 2) (.some (.var 3)) .none) .nil)) .nil)) .nil))) [some (.own true bag4), some (.d (tS l)), some (.own false (xs.map .str)), some (.d (.int k))] = .ok (.d u.dat, [some (.own true bag5), some (.d (tS l)), some (.own false (xs.map .str)), some (.d (.int k))]) :=
      e_pl (es_cons (e_vo rfl) (es_cons (e_blt (es_cons (e_blt (es_cons (e_slc (e_vo rfl) (o_some (e_vd rfl)) o_none rfl a2) es_nil) rfl (srt_tup (by omega) g)) es_nil) rfl rfl) es_nil)) (ld_fork _ _) rfl rfl rfl e5
    refine ⟨.node ws, bag5, runB_rt rfl rfl (ss_F t0 (evSs_nil _ _) (ss_nx s2 (ss_nx s3 (ss_rt (s_ret (e_p (es_cons (e_lst (xs := [t.dat, u.dat]) (es_cons f4 (es_cons f5 es_nil)) rfl (show 2 ≤ LIM by decide)) es_nil) (ld_put _ _) rfl ep)))))) rfl, hb5, ?_⟩
    refine node_ok (G := []) (ts := [t, u]) (show 2 ≤ 2 from Nat.le_refl 2) pmu pwu (fun x hx => ?_) ?_
    · rcases List.mem_cons.mp hx with rfl | hx
      · exact ts.ok
      · rw [List.mem_singleton.mp hx]; exact us.ok
    · have : [t, u].flatMap Tr.leaves = t.leaves ++ u.leaves := by simp
      rw [this]
      refine ((ht.pm.trans pa).append (hu.pm.trans pb)).trans ?_
      rw [List.take_append_drop]
      exact pmx
/-! ### _law_said -/
theorem dedup_sub : ∀ {xs : List D} {x : D}, x ∈ dedup xs → x ∈ xs
  | y :: ys, x, h => by
    unfold dedup at h
    split at h
    · exact List.mem_cons_of_mem _ (dedup_sub h)
    · rcases List.mem_cons.mp h with rfl | h
      · exact List.mem_cons_self
      · exact List.mem_cons_of_mem _ (dedup_sub h)
theorem dedup_len : ∀ xs : List D, (dedup xs).length ≤ xs.length
  | [] => Nat.le_refl _
  | y :: ys => by
    unfold dedup
    split
    · exact Nat.le_succ_of_le (dedup_len ys)
    · exact Nat.succ_le_succ (dedup_len ys)
theorem encs_of {α : Type} {f : α → D} : ∀ {xs : List D} {l : List α}, (∀ x, x ∈ xs → x ∈ l.map f) → ∃ m : List α, xs = m.map f ∧ ∀ a, a ∈ m → a ∈ l
  | [], l, _ => ⟨[], rfl, fun a h => by cases h⟩
  | x :: xs, l, h => by
    obtain ⟨m, rfl, hm⟩ := encs_of (l := l) fun y hy => h y (List.mem_cons_of_mem _ hy)
    obtain ⟨a, ha, rfl⟩ := List.mem_map.mp (h x List.mem_cons_self)
    exact ⟨a :: m, rfl, fun b hb => (List.mem_cons.mp hb).elim (fun e => e ▸ ha) (hm b)⟩
theorem sset_says {ss : List Sy} (hl : ss.length < 64) (g : Bool) : ∃ m : List Sy, bltD g .sset [.list (ss.map sD)] = some (.fresh (m.map sD)) ∧ (∀ a, a ∈ m → a ∈ ss) ∧ m.length ≤ ss.length := by
  have so := sDs_sortOk (l := ss) (Nat.le_trans (Nat.le_of_lt hl) (by decide))
  have sk : (ss.map sD).all setKey = true := List.all_eq_true.mpr fun x hx => by
    obtain ⟨s, _, rfl⟩ := List.mem_map.mp hx
    exact tS_setKey (sL s)
  obtain ⟨m, em, hm⟩ := encs_of (f := sD) (l := ss) (xs := sortD (dedup (ss.map sD))) fun x hx => dedup_sub ((sortD_perm _).mem_iff.mp hx)
  refine ⟨m, ?_, hm, ?_⟩
  · show (if _ then some (R.fresh (sortD _)) else none) = _
    rw [so, sk, decide_eq_true (by rw [List.length_map]; exact hl), em]
    rfl
  · have := congrArg List.length em
    rw [List.length_map, sortD_len] at this
    have h2 := dedup_len (ss.map sD)
    rw [List.length_map] at h2
    omega
theorem cq_said (n : Nat) (g : Bool) (ws : List W) : P.call (n + 1) g "_law_said" ws = runB (Γn n g) 2 4 b_x_law_said ws := by kernel_rfl
theorem ld_said (n : Nat) (g : Bool) : (Γn n g).lend "_law_said" = true := by kernel_rfl
theorem c_said {bag : List D} (hb : BagOk bag) {k : Nat} (h1 : 3 ≤ k) (h2 : k ≤ 6) (n : Nat) (g : Bool) : ∃ (ss : List Sy) (bag' : List D), P.call (n + 11) g "_law_said" [.own true bag, .d (tS (Lt.take k))] = .ret (.d (.tuple (ss.map sD))) (some bag') ∧ BagOk bag' ∧ (∀ s, s ∈ ss → s ∈ sayAll (Lt.take k)) ∧ ss.length ≤ 5 := by
  have T := th_take h1 h2
  have sl := T.f7.1
  have lk : (Lt.take k).length = k := by rw [List.length_take]; exact Nat.min_eq_left (Nat.le_trans h2 (by decide))
  rw [cq_said]
  have s1 : evS (Γn (n + 10) g) (.set 2 (.call "_law_all_sayings" (.cons (.var 1) .nil))) [some (.own true bag), some (.d (tS (Lt.take k))), none, none] = .nx [some (.own true bag), some (.d (tS (Lt.take k))), some (.own false ((sayAll (Lt.take k)).map sD)), none] :=
    s_set (e_p (es_cons (e_vd rfl) es_nil) (ld_lall _ _) rfl (c_lall h1 h2 (n + 9) g)) rfl
  obtain ⟨v, bag1, e1, hb1, v0, v1⟩ := c_take hb (m := 3) (by decide) (by decide) (n + 9) g
  have t1 : evC (Γn (n + 10) g) (.cmp .gt (.call "_law_take" (.cons (.var 0) (.cons (.int 3) .nil))) (.int 0)) [some (.own true bag), some (.d (tS (Lt.take k))), some (.own false ((sayAll (Lt.take k)).map sD)), none] = .ok (decide ((0 : Int) < v), [some (.own true bag1), some (.d (tS (Lt.take k))), some (.own false ((sayAll (Lt.take k)).map sD)), none]) :=
    c_cmp (e_pl (es_cons (e_vo rfl) (es_cons e_int es_nil)) (ld_take _ _) rfl rfl rfl e1) e_int rfl rfl rfl
  have s2 : ∃ (es : List Sy) (bag2 : List D), evS (Γn (n + 10) g) (.iff (.cmp .gt (.call "_law_take" (.cons (.var 0) (.cons (.int 3) .nil))) (.int 0)) (.cons (.set 2 (.call "_law_sayings_of" (.cons (.call "_law_tree" (.cons (.var 0) (.cons (.var 1) .nil))) .nil))) (.nil)) (.nil)) [some (.own true bag), some (.d (tS (Lt.take k))), some (.own false ((sayAll (Lt.take k)).map sD)), none] = .nx [some (.own true bag2), some (.d (tS (Lt.take k))), some (.own false (es.map sD)), none] ∧ BagOk bag2 ∧ (∀ s, s ∈ es → s ∈ sayAll (Lt.take k)) ∧ es.length ≤ 60 := by
    by_cases w : (0 : Int) < v
    · rw [decide_eq_true w] at t1
      obtain ⟨t, bag2, e2, hb2, ht⟩ := c_tree 5 (n + 1) g hb1 (l := Lt.take k) T.lt (by omega) (by omega) (by omega)
      refine ⟨(sayAll (Lt.take k)).filter (hasS t), bag2, s_if t1 (by rw [if_pos rfl]; exact ss_nx (s_set (e_p (es_cons (e_pl (es_cons (e_vo rfl) (es_cons (e_vd rfl) es_nil)) (ld_tree _ _) rfl rfl rfl e2) es_nil) (ld_lsays _ _) rfl (c_lsays h1 h2 ht (n + 6) g)) rfl) (evSs_nil _ _)), hb2, fun s hs => (List.mem_filter.mp hs).1, Nat.le_trans (List.length_filter_le _ _) sl⟩
    · rw [decide_eq_false w] at t1
      exact ⟨sayAll (Lt.take k), bag1, s_if t1 (show evSs (Γn (n + 10) g) .nil _ = _ from evSs_nil _ _), hb1, fun s hs => hs, sl⟩
  obtain ⟨es, bag2, s2, hb2, he, el⟩ := s2
  obtain ⟨ys, bag3, e3, hb3, pm3⟩ := c_mixed hb2 (xs := es.map sD) (by rw [List.length_map]; omega) (n + 8) g
  obtain ⟨xs, pmx, rfl⟩ := perm_map_inv pm3 rfl
  obtain ⟨v, bag4, e4, hb4, v0, v1⟩ := c_take hb3 (m := 5) (by decide) (by decide) (n + 9) g
  obtain ⟨v, rfl⟩ := Int.eq_ofNat_of_zero_le v0
  have ec : slcD (.list (xs.map sD)) none (some (v : Int)) = some (.fresh ((xs.take v).map sD)) := by
    show some (R.fresh (cutL _ _ _)) = _
    rw [cutL_map, cutL_to]
  have s3 : evS (Γn (n + 10) g) (.set 3 (.slc (.call "_law_mixed" (.cons (.var 0) (.cons (.var 2) .nil))) .none (.some (.call "_law_take" (.cons (.var 0) (.cons (.int 5) .nil)))))) [some (.own true bag2), some (.d (tS (Lt.take k))), some (.own false (es.map sD)), none] = .nx [some (.own true bag4), some (.d (tS (Lt.take k))), some (.d (.list (es.map sD))), some (.own false ((xs.take v).map sD))] :=
    s_set (e_slc (e_pl (es_cons (e_vo rfl) (es_cons (e_vo rfl) es_nil)) (ld_mixed _ _) rfl rfl rfl e3) o_none (o_some (e_pl (es_cons (e_vo rfl) (es_cons e_int es_nil)) (ld_take _ _) rfl rfl rfl e4)) rfl ec) rfl
  have xm : ∀ s, s ∈ xs.take v → s ∈ sayAll (Lt.take k) := fun s hs => he s (pmx.mem_iff.mp (List.mem_of_mem_take hs))
  have xl : (xs.take v).length ≤ 4 := by rw [List.length_take]; omega
  generalize xs.take v = zs at *
  obtain ⟨w, bag5, e5, hb5, w0, w1⟩ := c_take hb4 (m := 4) (by decide) (by decide) (n + 9) g
  have t2 : evC (Γn (n + 10) g) (.cmp .eq (.call "_law_take" (.cons (.var 0) (.cons (.int 4) .nil))) (.int 0)) [some (.own true bag4), some (.d (tS (Lt.take k))), some (.d (.list (es.map sD))), some (.own false (zs.map sD))] = .ok (decide (w = 0), [some (.own true bag5), some (.d (tS (Lt.take k))), some (.d (.list (es.map sD))), some (.own false (zs.map sD))]) :=
    c_cmp (e_pl (es_cons (e_vo rfl) (es_cons e_int es_nil)) (ld_take _ _) rfl rfl rfl e5) e_int rfl rfl (int_eqb w 0)
  have s4 : ∃ (fs : List Sy) (bag6 : List D), evS (Γn (n + 10) g) (.iff (.cmp .eq (.call "_law_take" (.cons (.var 0) (.cons (.int 4) .nil))) (.int 0)) (.cons (.set 3 (.op .add (.var 3) (.lst (.cons (.call "_law_some" (.cons (.var 0) (.cons (.call "_law_all_sayings" (.cons (.var 1) .nil)) .nil))) .nil)))) (.nil)) (.nil)) [some (.own true bag4), some (.d (tS (Lt.take k))), some (.d (.list (es.map sD))), some (.own false (zs.map sD))] = .nx [some (.own true bag6), some (.d (tS (Lt.take k))), some (.d (.list (es.map sD))), some (.own false (fs.map sD))] ∧ BagOk bag6 ∧ (∀ s, s ∈ fs → s ∈ sayAll (Lt.take k)) ∧ fs.length ≤ 5 := by
    by_cases q : w = 0
    · rw [decide_eq_true q] at t2
      have pos : 0 < (sayAll (Lt.take k)).length := k_cases (p := fun k => 0 < (sayAll (Lt.take k)).length) h1 h2 (by decide +kernel) (by decide +kernel) (by decide +kernel) (by decide +kernel)
      obtain ⟨x, bag6, e6, hb6, hx⟩ := c_some hb5 (xs := (sayAll (Lt.take k)).map sD) (by rw [List.length_map]; exact pos) (by rw [List.length_map]; omega) (n + 8) g
      obtain ⟨s, hs, rfl⟩ := List.mem_map.mp hx
      have ad : opD .add (.list (zs.map sD)) (.list [sD s]) = some (.fresh ((zs ++ [s]).map sD)) := by
        rw [List.map_append]
        exact if_pos (by rw [List.length_map]; exact lim_le (show zs.length + 1 ≤ 100000 by omega))
      refine ⟨zs ++ [s], bag6, s_if t2 (by rw [if_pos rfl]; exact ss_nx (s_set (e_op (e_vo rfl) (e_lst (es_cons (e_pl (es_cons (e_vo rfl) (es_cons (e_p (es_cons (e_vd rfl) es_nil) (ld_lall _ _) rfl (c_lall h1 h2 (n + 9) g)) es_nil)) (ld_some _ _) rfl rfl rfl e6) es_nil) rfl (show 1 ≤ LIM by decide)) rfl rfl ad) rfl) (evSs_nil _ _)), hb6, fun a ha => ?_, by rw [List.length_append, List.length_singleton]; omega⟩
      rcases List.mem_append.mp ha with ha | ha
      · exact xm a ha
      · rw [List.mem_singleton.mp ha]; exact hs
    · rw [decide_eq_false q] at t2
      exact ⟨zs, bag5, s_if t2 (show evSs (Γn (n + 10) g) .nil _ = _ from evSs_nil _ _), hb5, xm, by omega⟩
  obtain ⟨fs, bag6, s4, hb6, hf, fl⟩ := s4
  obtain ⟨m, em, hm, ml⟩ := sset_says (ss := fs) (by omega) g
  exact ⟨m, bag6, runB_rt rfl rfl (ss_nx s1 (ss_nx s2 (ss_nx s3 (ss_nx s4 (ss_rt (s_ret (e_blt (es_cons (e_blt (es_cons (e_vo rfl) es_nil) rfl em) es_nil) rfl rfl))))))) rfl, hb6, fun s hs => hf s (hm s hs), by omega⟩
end K26
set_option Elab.async false
set_option linter.all false
set_option maxRecDepth 100000
set_option maxHeartbeats 4000000
namespace K26
open PySem Mn
/-! ### odd sayings, odd threes -/
def oddS : List D := [.none, .tuple [.str "a", .str "b"], .tuple [.str "b", .str "a", .str "c"], .tuple [.str "a", .str "a", .str "b"], .tuple [.str "a", .str "b", .str "a"], .tuple [.str "a", .str "b", .str "zz"], .tuple [.str "a", .str "b", .none], .list [.str "a", .str "b", .str "c"], .str "abc"]
def oddT : List D := [.none, .tuple [.str "a", .str "b"], .tuple [.str "b", .str "a", .str "c"], .tuple [.str "a", .str "a", .str "b"], .tuple [.str "a", .str "b", .str "zz"], .list [.str "a", .str "b", .str "c"], .tuple [.str "a", .str "b", .str "c", .str "a"], .tuple [.str "a", .str "c", .str "b"]]
def isStr (c : CRes) : Bool := match c with
  | .ret (.d (.str _)) none => true
  | _ => false
theorem isStr_ok {c : CRes} (h : isStr c = true) : ∃ s, c = .ret (.d (.str s)) none := by
  unfold isStr at h
  split at h
  · exact ⟨_, rfl⟩
  · cases h
def hasOdd (n : Nat) (k : Nat) (x : D) : Bool := isRet (P.call (n + 4) false "is_saying_form" [.d x]) false || (isRet (P.call (n + 4) false "is_saying_form" [.d x]) true && isStr (P.call (n + 4) false "fault_of" [.d (tS (Lt.take k)), .d x]))
theorem hasOdds {k : Nat} (h1 : 3 ≤ k) (h2 : k ≤ 6) : (oddS.all (hasOdd 14 k)) = true := k_cases (p := fun k => (oddS.all (hasOdd 14 k)) = true) h1 h2 (by kernel_rfl) (by kernel_rfl) (by kernel_rfl) (by kernel_rfl)
def sayT1 : C := .or (.not (.tru (.call "is_names" (.cons (.var 1) .nil)))) (.or (.cmp .ne (.blt .len (.cons (.var 1) .nil)) (.int 3)) (.not (.tru (.call "are_rising" (.cons (.var 1) .nil)))))
def isC (b : Bool) (r : Res (Bool × Mn.Env)) : Bool := match r with
  | .ok (c, _) => c == b
  | _ => false
section
variable {k : Nat} {t : Tr} (h1 : 3 ≤ k) (h2 : k ≤ 6) (ht : TrOk (Lt.take k) t)
include h1 h2 ht
theorem x_has {x : D} (m : x ∈ oddS) : P.call 19 false "has" [.d t.dat, .d x] = .ex "Nothing" := by
  have T := th_take h1 h2
  have hs := ht.s T
  have o := List.all_eq_true.mp (hasOdds h1 h2) x m
  show P.call (18 + 1) false "has" [.d t.dat, .d x] = .ex "Nothing"
  rw [cq_has]
  have tst : evC (Γn 18 false) (.or (.not (.tru (.call "is_saying_form" (.cons (.var 1) .nil)))) (.notN (.call "fault_of" (.cons (.call "things_of" (.cons (.var 0) .nil)) (.cons (.var 1) .nil))))) [some (.d t.dat), some (.d x)] = .ok (true, [some (.d t.dat), some (.d x)]) := by
    unfold hasOdd at o
    rw [Bool.or_eq_true, Bool.and_eq_true] at o
    rcases o with o | ⟨o, p⟩
    · exact c_orP (t := true) (u := true) (c_not (t := false) (c_tru (e_p (es_cons (e_vd rfl) es_nil) (ld_form _ _) rfl (isRet_ok o)) rfl rfl)) fun h => by cases h
    · obtain ⟨s, es⟩ := isStr_ok p
      have e1 := c_things_of hs 15 false
      rw [things_eq T ht] at e1
      exact c_orP (t := false) (u := true) (c_not (t := true) (c_tru (e_p (es_cons (e_vd rfl) es_nil) (ld_form _ _) rfl (isRet_ok o)) rfl rfl)) fun _ => c_notN (u := .str s) (e_p (es_cons (e_p (es_cons (e_vd rfl) es_nil) (ld_things_of _ _) rfl e1) (es_cons (e_vd rfl) es_nil)) (ld_fault _ _) rfl es) rfl
  have r : evSs (Γn 18 false) (.cons (.raise "Nothing") .nil) [some (.d t.dat), some (.d x)] = .ex "Nothing" [some (.d t.dat), some (.d x)] := ss_ex s_raise
  exact runB_ex rfl rfl (ss_T tst r rfl)
theorem x_sayof {x : D} (m : x ∈ oddT) : P.call 19 false "saying_of" [.d t.dat, .d x] = .ex "Nothing" := by
  have T := th_take h1 h2
  have hs := ht.s T
  show P.call (18 + 1) false "saying_of" [.d t.dat, .d x] = .ex "Nothing"
  rw [cq_sayof]
  have r : evSs (Γn 18 false) (.cons (.raise "Nothing") .nil) [some (.d t.dat), some (.d x), none] = .ex "Nothing" [some (.d t.dat), some (.d x), none] := ss_ex s_raise
  have go : ∀ {x : D}, evC (Γn 18 false) sayT1 [some (.d t.dat), some (.d x), none] = .ok (true, [some (.d t.dat), some (.d x), none]) → runB (Γn 18 false) 2 3 b_saying_of [.d t.dat, .d x] = .ex "Nothing" := fun {x} tst => by
    have r : evSs (Γn 18 false) (.cons (.raise "Nothing") .nil) [some (.d t.dat), some (.d x), none] = .ex "Nothing" [some (.d t.dat), some (.d x), none] := ss_ex s_raise
    exact runB_ex rfl rfl (ss_T tst r rfl)
  unfold oddT at m
  simp only [List.mem_cons, List.not_mem_nil, or_false] at m
  rcases m with rfl | rfl | rfl | rfl | rfl | rfl | rfl | rfl
  · exact go (by kernel_rfl)
  · exact go (by kernel_rfl)
  · exact go (by kernel_rfl)
  · exact go (by kernel_rfl)
  · have t1 : evC (Γn 18 false) sayT1 [some (.d t.dat), some (.d (.tuple [.str "a", .str "b", .str "zz"])), none] = .ok (false, [some (.d t.dat), some (.d (.tuple [.str "a", .str "b", .str "zz"])), none]) := by kernel_rfl
    have e1 := c_things_of hs 15 false
    rw [things_eq T ht] at e1
    have lc : lcLoop (lcTurn (.one 2) (evOc (Γn 18 false) .yes) (evE (Γn 18 false) (.ofC (.cmp .isin (.var 2) (.call "things_of" (.cons (.var 0) .nil))))) [2]) [.str "a", .str "b", .str "zz"] [] [some (.d t.dat), some (.d (.tuple [.str "a", .str "b", .str "zz"])), none] = .ok ([.bool true, .bool true, .bool false], [some (.d t.dat), some (.d (.tuple [.str "a", .str "b", .str "zz"])), none]) := by
      have q : ∀ {a : Str} {b : Bool}, cmpD .isin (.str a) (tS (Lt.take k)) = some b → lcTurn (.one 2) (evOc (Γn 18 false) .yes) (evE (Γn 18 false) (.ofC (.cmp .isin (.var 2) (.call "things_of" (.cons (.var 0) .nil))))) [2] (.str a) [some (.d t.dat), some (.d (.tuple [.str "a", .str "b", .str "zz"])), none] = .ok (some (.bool b), [some (.d t.dat), some (.d (.tuple [.str "a", .str "b", .str "zz"])), none]) := fun {a b} q =>
        turn_yes rfl oc_yes (e_ofC (c_cmp (e_vd rfl) (e_p (es_cons (e_vd rfl) es_nil) (ld_things_of _ _) rfl e1) rfl rfl q)) rfl
      have q1 := q (a := "a") (b := true) (k_cases (p := fun k => cmpD .isin (.str "a") (tS (Lt.take k)) = some true) h1 h2 (by kernel_rfl) (by kernel_rfl) (by kernel_rfl) (by kernel_rfl))
      have q2 := q (a := "b") (b := true) (k_cases (p := fun k => cmpD .isin (.str "b") (tS (Lt.take k)) = some true) h1 h2 (by kernel_rfl) (by kernel_rfl) (by kernel_rfl) (by kernel_rfl))
      have q3 := q (a := "zz") (b := false) (k_cases (p := fun k => cmpD .isin (.str "zz") (tS (Lt.take k)) = some false) h1 h2 (by kernel_rfl) (by kernel_rfl) (by kernel_rfl) (by kernel_rfl))
      simp only [lcLoop, q1, q2, q3]
      rfl
    have t2 : evC (Γn 18 false) (.not (.tru (.blt .all (.cons (.lc (.ofC (.cmp .isin (.var 2) (.call "things_of" (.cons (.var 0) .nil)))) (.one 2) (.seq (.var 1)) .yes [2]) .nil)))) [some (.d t.dat), some (.d (.tuple [.str "a", .str "b", .str "zz"])), none] = .ok (true, [some (.d t.dat), some (.d (.tuple [.str "a", .str "b", .str "zz"])), none]) :=
      c_not (t := false) (c_tru (r := .d (.bool false)) (e_blt (es_cons (e_lc (i_seq (e_vd rfl) rfl rfl) lc) es_nil) rfl rfl) rfl rfl)
    have r : evSs (Γn 18 false) (.cons (.raise "Nothing") .nil) [some (.d t.dat), some (.d (.tuple [.str "a", .str "b", .str "zz"])), none] = .ex "Nothing" [some (.d t.dat), some (.d (.tuple [.str "a", .str "b", .str "zz"])), none] := ss_ex s_raise
    exact runB_ex rfl rfl (ss_F t1 (evSs_nil _ _) (ss_T t2 r rfl))
  · exact go (by kernel_rfl)
  · exact go (by kernel_rfl)
  · exact go (by kernel_rfl)
end
end K26
set_option Elab.async false
set_option linter.all false
set_option maxRecDepth 100000
set_option maxHeartbeats 4000000
namespace K26
open PySem Mn
theorem cq_law (n : Nat) (g : Bool) (ws : List W) : P.call (n + 1) g "law" ws = runB (Γn n g) 1 18 b_law ws := by kernel_rfl
def lapOf : Ss → Ss
  | .cons _ (.cons (.for_ _ _ b) _) => b
  | _ => .nil
def lapSs : Ss := lapOf b_law
def nthS : Nat → Ss → S
  | 0, .cons s _ => s
  | n + 1, .cons _ r => nthS n r
  | _, .nil => .ret .non
abbrev Γl : Mn.Ctx := Γn 19 true
theorem told_eq : Γl.told "_law_heard" = some [(("Nothing" : Str), PyData.tuple [.str "nothing"])] := by kernel_rfl
def LE (ns : D) (bag : List D) (w2 w3 w4 w5 w6 w7 w8 w9 w10 w11 w12 w13 w14 w15 w16 w17 : Option W) : Mn.Env := [some (.d ns), some (.own false bag), w2, w3, w4, w5, w6, w7, w8, w9, w10, w11, w12, w13, w14, w15, w16, w17]
theorem turn_if2 {Γ : Mn.Ctx} {tg : Tg} {c : C} {elt : E} {own : List Nat} {ρ ρ1 ρ2 : Mn.Env} {x y : D} {b : Bool} {ρ3 ρ4 ρ5 : Mn.Env} {r : R} (h1 : tg.set ρ x = some ρ1) (h2 : evC Γ c ρ1 = .ok (b, ρ2)) (h3 : evE Γ elt ρ2 = .ok (r, ρ3)) (h4 : r.keep ρ3 = some (y, ρ4)) (hw : wipeE ρ4 own = ρ5) (hw2 : wipeE ρ2 own = ρ5) : lcTurn tg (evOc Γ (.some c)) (evE Γ elt) own x ρ = .ok (if b then some y else none, ρ5) := by
  cases b with
  | true => exact turn_yes h1 (oc_some h2) h3 h4 hw
  | false => exact turn_no h1 (oc_some h2) hw2
theorem int_ne_self (z : Int) : cmpD .ne (.int z) (.int z) = some false := by
  rw [int_neb, decide_eq_true rfl]
  rfl
section
variable {ns : D} {bag : List D} {w2 w3 w4 w5 w6 w7 w8 w9 w10 w11 w12 w13 w14 w15 w16 w17 : Option W}
theorem bk5 {xs : List D} {y : D} (h : noOwn w5 = w5) : backE [5] 0 (LE ns bag w2 w3 w4 w5 w6 w7 w8 w9 w10 w11 w12 w13 w14 w15 w16 w17) (LE ns bag w2 w3 w4 none w6 w7 w8 w9 w10 w11 w12 w13 w14 w15 w16 w17) = (LE ns bag w2 w3 w4 w5 w6 w7 w8 w9 w10 w11 w12 w13 w14 w15 w16 w17) := by
  simp only [LE, backE, back1_self, h, List.contains_cons, List.contains_nil]
  simp [back1_self, back1, h]
theorem bk6 {xs : List D} {y : D} (h : noOwn w6 = w6) : backE [6] 0 (LE ns bag w2 w3 w4 w5 w6 w7 w8 w9 w10 w11 w12 w13 w14 w15 w16 w17) (LE ns bag w2 w3 w4 w5 none w7 w8 w9 w10 w11 w12 w13 w14 w15 w16 w17) = (LE ns bag w2 w3 w4 w5 w6 w7 w8 w9 w10 w11 w12 w13 w14 w15 w16 w17) := by
  simp only [LE, backE, back1_self, h, List.contains_cons, List.contains_nil]
  simp [back1_self, back1, h]
theorem bk6x {xs : List D} {y : D} (h : noOwn w6 = w6) : backE [6] 0 (LE ns bag w2 w3 w4 w5 w6 w7 w8 w9 w10 w11 w12 (some (W.own false xs)) w14 w15 w16 w17) (LE ns bag w2 w3 w4 w5 none w7 w8 w9 w10 w11 w12 (some (W.d y)) w14 w15 w16 w17) = (LE ns bag w2 w3 w4 w5 w6 w7 w8 w9 w10 w11 w12 (some (W.d y)) w14 w15 w16 w17) := by
  simp only [LE, backE, back1_self, h, List.contains_cons, List.contains_nil]
  simp [back1_self, back1, h]
theorem L1 (hb : BagOk bag) (o : okW w3 = true) : ∃ k bag', evS Γl (nthS 0 lapSs) (LE ns bag w2 w3 w4 w5 w6 w7 w8 w9 w10 w11 w12 w13 w14 w15 w16 w17) = .nx (LE ns bag' w2 (some (W.d (tS (Lt.take k)))) w4 w5 w6 w7 w8 w9 w10 w11 w12 w13 w14 w15 w16 w17) ∧ BagOk bag' ∧ 3 ≤ k ∧ k ≤ 6 := by
  obtain ⟨k, bag', e, hb', k0, k1⟩ := c_things hb 17 true
  exact ⟨k, bag', s_set (e_pl (es_cons (e_vo rfl) (es_cons e_int es_nil)) (ld_things _ _) rfl rfl rfl e) (intoW_d rfl o), hb', k0, k1⟩
variable {k : Nat} {t u : Tr} (h1 : 3 ≤ k) (h2 : k ≤ 6)
include h1 h2
theorem th_lt : ∀ a, a ∈ Lt.take k → a ∈ Lt := (th_take h1 h2).lt
omit h1 in
theorem th_len : (Lt.take k).length = k := by rw [List.length_take]; exact Nat.min_eq_left (Nat.le_trans h2 (by decide))
theorem L2 (hb : BagOk bag) (o10 : okW w10 = true) (o11 : okW w11 = true) : ∃ t u bag', evS Γl (nthS 1 lapSs) (LE ns bag w2 (some (W.d (tS (Lt.take k)))) w4 w5 w6 w7 w8 w9 w10 w11 w12 w13 w14 w15 w16 w17) = .nx (LE ns bag' w2 (some (W.d (tS (Lt.take k)))) w4 w5 w6 w7 w8 w9 (some (W.d t.dat)) (some (W.d u.dat)) w12 w13 w14 w15 w16 w17) ∧ BagOk bag' ∧ TrOk (Lt.take k) t ∧ TrOk (Lt.take k) u := by
  have lk := th_len (k := k) h2
  have lt := th_lt h1 h2
  obtain ⟨t, bag1, e1, hb1, ht⟩ := c_tree 5 10 true hb (l := Lt.take k) lt (by omega) (by omega) (by omega)
  obtain ⟨t2, bag2, e2, hb2, ht2⟩ := c_tree 5 10 true hb1 (l := Lt.take k) lt (by omega) (by omega) (by omega)
  obtain ⟨t3, bag3, e3, hb3, ht3⟩ := c_fork 5 10 true hb2 (l := Lt.take k) lt (by omega) (by omega) (by omega)
  obtain ⟨x, bag4, e4, hb4, hx⟩ := c_some hb3 (xs := [t2.dat, t3.dat]) (show 0 < 2 by decide) (show 2 < 1000 by decide) 17 true
  have hu : ∃ u, x = u.dat ∧ TrOk (Lt.take k) u := by
    simp only [List.mem_cons, List.not_mem_nil, or_false] at hx
    rcases hx with rfl | rfl
    · exact ⟨t2, rfl, ht2⟩
    · exact ⟨t3, rfl, ht3⟩
  obtain ⟨u, rfl, hu⟩ := hu
  have f1 : evE Γl (.call "_law_tree" (.cons (.var 1) (.cons (.var 3) .nil))) (LE ns bag w2 (some (W.d (tS (Lt.take k)))) w4 w5 w6 w7 w8 w9 w10 w11 w12 w13 w14 w15 w16 w17) = .ok (.d t.dat, (LE ns bag1 w2 (some (W.d (tS (Lt.take k)))) w4 w5 w6 w7 w8 w9 w10 w11 w12 w13 w14 w15 w16 w17)) := e_pl (es_cons (e_vo rfl) (es_cons (e_vd rfl) es_nil)) (ld_tree _ _) rfl rfl rfl e1
  have f2 : evE Γl (.call "_law_tree" (.cons (.var 1) (.cons (.var 3) .nil))) (LE ns bag1 w2 (some (W.d (tS (Lt.take k)))) w4 w5 w6 w7 w8 w9 w10 w11 w12 w13 w14 w15 w16 w17) = .ok (.d t2.dat, (LE ns bag2 w2 (some (W.d (tS (Lt.take k)))) w4 w5 w6 w7 w8 w9 w10 w11 w12 w13 w14 w15 w16 w17)) := e_pl (es_cons (e_vo rfl) (es_cons (e_vd rfl) es_nil)) (ld_tree _ _) rfl rfl rfl e2
  have f3 : evE Γl (.call "_law_forked_tree" (.cons (.var 1) (.cons (.var 3) .nil))) (LE ns bag2 w2 (some (W.d (tS (Lt.take k)))) w4 w5 w6 w7 w8 w9 w10 w11 w12 w13 w14 w15 w16 w17) = .ok (.d t3.dat, (LE ns bag3 w2 (some (W.d (tS (Lt.take k)))) w4 w5 w6 w7 w8 w9 w10 w11 w12 w13 w14 w15 w16 w17)) := e_pl (es_cons (e_vo rfl) (es_cons (e_vd rfl) es_nil)) (ld_fork _ _) rfl rfl rfl e3
  have f4 : evE Γl (.call "_law_some" (.cons (.var 1) (.cons (.lst (.cons (.call "_law_tree" (.cons (.var 1) (.cons (.var 3) .nil))) (.cons (.call "_law_forked_tree" (.cons (.var 1) (.cons (.var 3) .nil))) .nil))) .nil))) (LE ns bag1 w2 (some (W.d (tS (Lt.take k)))) w4 w5 w6 w7 w8 w9 w10 w11 w12 w13 w14 w15 w16 w17) = .ok (.d u.dat, (LE ns bag4 w2 (some (W.d (tS (Lt.take k)))) w4 w5 w6 w7 w8 w9 w10 w11 w12 w13 w14 w15 w16 w17)) := e_pl (es_cons (e_vo rfl) (es_cons (e_lst (xs := [t2.dat, t3.dat]) (es_cons f2 (es_cons f3 es_nil)) rfl (show 2 ≤ LIM by decide)) es_nil)) (ld_some _ _) rfl rfl rfl e4
  exact ⟨t, u, bag4, s_par f1 f4 (by decide) rfl rfl rfl (intoW_d rfl o10) (intoW_d rfl o11), hb4, ht, hu⟩
variable (ht : TrOk (Lt.take k) t)
include ht
theorem its_ok : ∀ s, s ∈ ((sayAll (Lt.take k)).filter (hasS t)) → SyOk s := fun s hs => say_ok (th_take h1 h2) (List.mem_filter.mp hs).1
theorem its_len : ((sayAll (Lt.take k)).filter (hasS t)).length ≤ 60 := Nat.le_trans (List.length_filter_le _ _) (th_take h1 h2).f7.1
theorem L3 (o12 : okW w12 = true) (o13 : okW w13 = true) : evS Γl (nthS 2 lapSs) (LE ns bag w2 (some (W.d (tS (Lt.take k)))) w4 w5 w6 w7 w8 w9 (some (W.d t.dat)) (some (W.d u.dat)) w12 w13 w14 w15 w16 w17) = .nx (LE ns bag w2 (some (W.d (tS (Lt.take k)))) w4 w5 w6 w7 w8 w9 (some (W.d t.dat)) (some (W.d u.dat)) (some (W.own false ((sayAll (Lt.take k)).map sD))) (some (W.own false (((sayAll (Lt.take k)).filter (hasS t)).map sD))) w14 w15 w16 w17) :=
  s_par (e_p (es_cons (e_vd rfl) es_nil) (ld_lall _ _) rfl (c_lall h1 h2 18 true)) (e_p (es_cons (e_vd rfl) es_nil) (ld_lsays _ _) rfl (c_lsays h1 h2 ht 15 true)) (by decide) rfl rfl rfl (intoW_f rfl o12) (intoW_f rfl o13)
theorem e_its {W13 : W} (h13 : W13 = .own false (((sayAll (Lt.take k)).filter (hasS t)).map sD) ∨ W13 = .d (.list (((sayAll (Lt.take k)).filter (hasS t)).map sD))) {v : Sy} (hv : v ∈ thr (Lt.take k)) (h5 : noOwn w5 = w5) : evE Γl (.lc (.var 5) (.one 5) (.seq (.var 13)) (.some (.cmp .eq (.blt .tuple (.cons (.blt .sorted (.cons (.var 5) .nil)) .nil)) (.var 6))) [5]) (LE ns bag w2 (some (W.d (tS (Lt.take k)))) w4 w5 (some (W.d (sD v))) w7 w8 w9 (some (W.d t.dat)) (some (W.d u.dat)) w12 (some W13) w14 w15 w16 w17) = .ok (.fresh ((sayIn (hasS t) v).toList.map sD), (LE ns bag w2 (some (W.d (tS (Lt.take k)))) w4 w5 (some (W.d (sD v))) w7 w8 w9 (some (W.d t.dat)) (some (W.d u.dat)) w12 (some (W.d (.list (((sayAll (Lt.take k)).filter (hasS t)).map sD)))) w14 w15 w16 w17)) := by
  have T := th_take h1 h2
  have O := tr_one (l := Lt.take k) (ht.nd T)
  have iq : evI Γl (.seq (.var 13)) (LE ns bag w2 (some (W.d (tS (Lt.take k)))) w4 w5 (some (W.d (sD v))) w7 w8 w9 (some (W.d t.dat)) (some (W.d u.dat)) w12 (some W13) w14 w15 w16 w17) = .ok (((sayAll (Lt.take k)).filter (hasS t)).map sD, (LE ns bag w2 (some (W.d (tS (Lt.take k)))) w4 w5 (some (W.d (sD v))) w7 w8 w9 (some (W.d t.dat)) (some (W.d u.dat)) w12 (some (W.d (.list (((sayAll (Lt.take k)).filter (hasS t)).map sD)))) w14 w15 w16 w17)) := by
    rcases h13 with rfl | rfl
    · exact i_seq (e_vo rfl) rfl rfl
    · exact i_seq (e_vd rfl) rfl rfl
  have lc : lcLoop (lcTurn (.one 5) (evOc Γl (.some (.cmp .eq (.blt .tuple (.cons (.blt .sorted (.cons (.var 5) .nil)) .nil)) (.var 6)))) (evE Γl (.var 5)) [5]) (((sayAll (Lt.take k)).filter (hasS t)).map sD) [] (LE ns bag w2 (some (W.d (tS (Lt.take k)))) w4 none (some (W.d (sD v))) w7 w8 w9 (some (W.d t.dat)) (some (W.d u.dat)) w12 (some (W.d (.list (((sayAll (Lt.take k)).filter (hasS t)).map sD)))) w14 w15 w16 w17) = .ok ((((sayAll (Lt.take k)).filter (hasS t)).filter fun s => decide (sortI (sL s) = sL v)).map sD, (LE ns bag w2 (some (W.d (tS (Lt.take k)))) w4 none (some (W.d (sD v))) w7 w8 w9 (some (W.d t.dat)) (some (W.d u.dat)) w12 (some (W.d (.list (((sayAll (Lt.take k)).filter (hasS t)).map sD)))) w14 w15 w16 w17)) := by
    refine lcf0 sD _ (fun s m => ?_) (lim_le (Nat.le_trans (its_len h1 h2 ht) (by decide)))
    have so := its_ok h1 h2 ht s m
    have vo := thr_ok T hv
    have q : cmpD .eq (tS (sortS (sL s))) (sD v) = some (decide (sortI (sL s) = sL v)) := by
      rw [sortI_eq]
      exact eqN (nice_tS fun a ha => so.lt a ((sortS_perm _).mem_iff.mp ha)) (nice_tS (l := sL v) vo.lt) tS_inj
    exact turn_if (intoW_d (w := none) rfl rfl) (c_cmp (e_blt (es_cons (e_blt (es_cons (e_vd rfl) es_nil) rfl (srt_tS (k := sL s) (show 3 ≤ LIM by decide) true)) es_nil) rfl rfl) (e_vd rfl) rfl rfl q) (e_vd rfl) rfl rfl rfl
  rw [its_three T O hv] at lc
  exact e_lc iq lc (hb := bk5 (xs := []) (y := .none) h5)
theorem L4 (o4 : okW w4 = true) (n5 : noOwn w5 = w5) (n6 : noOwn w6 = w6) : evS Γl (nthS 3 lapSs) (LE ns bag w2 (some (W.d (tS (Lt.take k)))) w4 w5 w6 w7 w8 w9 (some (W.d t.dat)) (some (W.d u.dat)) w12 (some (W.own false (((sayAll (Lt.take k)).filter (hasS t)).map sD))) w14 w15 w16 w17) = .nx (LE ns bag w2 (some (W.d (tS (Lt.take k)))) (some (W.own false (((thr (Lt.take k)).filter fun u => (sayIn (hasS t) u).isNone).map sD))) w5 w6 w7 w8 w9 (some (W.d t.dat)) (some (W.d u.dat)) w12 (some (W.d (.list (((sayAll (Lt.take k)).filter (hasS t)).map sD)))) w14 w15 w16 w17) := by
  have T := th_take h1 h2
  have tn : thr (Lt.take k) ≠ [] := k_cases (p := fun k => thr (Lt.take k) ≠ []) h1 h2 (by decide +kernel) (by decide +kernel) (by decide +kernel) (by decide +kernel)
  have tu : ∀ (W13 : W) (h13 : W13 = .own false (((sayAll (Lt.take k)).filter (hasS t)).map sD) ∨ W13 = .d (.list (((sayAll (Lt.take k)).filter (hasS t)).map sD))), ∀ v, v ∈ thr (Lt.take k) → lcTurn (.one 6) (evOc Γl (.some (.cmp .eq (.lc (.var 5) (.one 5) (.seq (.var 13)) (.some (.cmp .eq (.blt .tuple (.cons (.blt .sorted (.cons (.var 5) .nil)) .nil)) (.var 6))) [5]) (.lst .nil)))) (evE Γl (.var 6)) [6] (sD v) (LE ns bag w2 (some (W.d (tS (Lt.take k)))) w4 w5 none w7 w8 w9 (some (W.d t.dat)) (some (W.d u.dat)) w12 (some W13) w14 w15 w16 w17) = .ok (if (sayIn (hasS t) v).isNone then some (sD v) else none, (LE ns bag w2 (some (W.d (tS (Lt.take k)))) w4 w5 none w7 w8 w9 (some (W.d t.dat)) (some (W.d u.dat)) w12 (some (W.d (.list (((sayAll (Lt.take k)).filter (hasS t)).map sD)))) w14 w15 w16 w17)) := fun W13 h13 v hv => by
    have ni : Nice 2 (.list ((sayIn (hasS t) v).toList.map sD)) := nice_list fun x hx => by
      obtain ⟨s, hs, rfl⟩ := List.mem_map.mp hx
      have hs' : sayIn (hasS t) v = some s := by simpa using hs
      have := (sayIn_some (tr_one (l := Lt.take k) (ht.nd T)) hv).mp hs'
      exact nice_sD (say_ok T (T.f1 v hv s this.1))
    have q := eq_nil ni
    have e : ((sayIn (hasS t) v).toList.map sD).isEmpty = (sayIn (hasS t) v).isNone := by cases sayIn (hasS t) v <;> rfl
    rw [e] at q
    exact turn_if2 (intoW_d (w := none) rfl rfl) (c_cmp (e_its h1 h2 ht h13 hv n5) (e_lst es_nil rfl (show 0 ≤ LIM by decide)) rfl rfl q) (e_vd rfl) rfl rfl rfl
  have lc := lcf2 sD (ρ := (LE ns bag w2 (some (W.d (tS (Lt.take k)))) w4 w5 none w7 w8 w9 (some (W.d t.dat)) (some (W.d u.dat)) w12 (some (W.own false (((sayAll (Lt.take k)).filter (hasS t)).map sD))) w14 w15 w16 w17)) (ρ' := (LE ns bag w2 (some (W.d (tS (Lt.take k)))) w4 w5 none w7 w8 w9 (some (W.d t.dat)) (some (W.d u.dat)) w12 (some (W.d (.list (((sayAll (Lt.take k)).filter (hasS t)).map sD)))) w14 w15 w16 w17)) (fun v => (sayIn (hasS t) v).isNone) tn (fun v hv => tu _ (.inl rfl) v hv) (fun v hv => tu _ (.inr rfl) v hv) (lim_le (Nat.le_trans T.f7.2 (by decide)))
  exact s_set (e_lc (i_seq (e_p (es_cons (e_vd rfl) es_nil) (ld_lthrees _ _) rfl (c_lthrees h1 h2 18 true)) rfl rfl) lc (hb := bk6x n6)) (intoW_f rfl o4)
theorem L5 : evS Γl (nthS 4 lapSs) (LE ns bag w2 (some (W.d (tS (Lt.take k)))) (some (W.own false (((thr (Lt.take k)).filter fun u => (sayIn (hasS t) u).isNone).map sD))) w5 w6 w7 w8 w9 (some (W.d t.dat)) (some (W.d u.dat)) w12 (some (W.d (.list (((sayAll (Lt.take k)).filter (hasS t)).map sD)))) w14 w15 w16 w17) = .nx (LE ns bag w2 (some (W.d (tS (Lt.take k)))) (some (W.own false (((thr (Lt.take k)).filter fun u => (sayIn (hasS t) u).isNone).map sD))) w5 w6 w7 w8 w9 (some (W.d t.dat)) (some (W.d u.dat)) w12 (some (W.d (.list (((sayAll (Lt.take k)).filter (hasS t)).map sD)))) w14 w15 w16 w17) := by
  have T := th_take h1 h2
  have A : Al 3 842 (.list [.tuple (((sayAll (Lt.take k)).filter (hasS t)).map sD), .tuple (((thr (Lt.take k)).filter fun u => (sayIn (hasS t) u).isNone).map sD)]) := al_two (al_sDs (its_ok h1 h2 ht) (its_len h1 h2 ht)) (al_sDs (fun s hs => thr_ok T (List.mem_filter.mp hs).1) (Nat.le_trans (List.length_filter_le _ _) (Nat.le_trans T.f7.2 (by decide))))
  have al := c_alike A.n.p (Nat.le_trans A.n.d (by decide)) (Nat.le_trans A.w (by decide)) 18
  have ln : ((((sayAll (Lt.take k)).filter (hasS t)).map sD).length : Int) + ((((thr (Lt.take k)).filter fun u => (sayIn (hasS t) u).isNone).map sD).length : Int) = (((thr (Lt.take k)).map sD).length : Int) := by
    have a := (its_perm T (tr_one (l := Lt.take k) (ht.nd T))).length_eq
    have b := filterMap_len (sayIn (hasS t)) (thr (Lt.take k))
    simp only [List.length_map]
    omega
  have ne : cmpD .ne (.int (((((sayAll (Lt.take k)).filter (hasS t)).map sD).length : Int) + ((((thr (Lt.take k)).filter fun u => (sayIn (hasS t) u).isNone).map sD).length : Int))) (.int (((thr (Lt.take k)).map sD).length : Int)) = some false := by
    rw [ln]
    exact int_ne_self _
  exact s_if (c_orP (t := false) (u := false) (c_not (t := true) (c_tru (e_p (ds := [.list [.tuple (((sayAll (Lt.take k)).filter (hasS t)).map sD), .tuple (((thr (Lt.take k)).filter fun u => (sayIn (hasS t) u).isNone).map sD)], .list [.tuple (((sayAll (Lt.take k)).filter (hasS t)).map sD), .tuple (((thr (Lt.take k)).filter fun u => (sayIn (hasS t) u).isNone).map sD)]]) (es_cons (e_lst (xs := [.tuple (((sayAll (Lt.take k)).filter (hasS t)).map sD), .tuple (((thr (Lt.take k)).filter fun u => (sayIn (hasS t) u).isNone).map sD)]) (es_cons (e_p (es_cons (e_vd rfl) es_nil) (ld_says _ _) rfl (c_says h1 h2 ht 14 true)) (es_cons (e_p (es_cons (e_vd rfl) es_nil) (ld_unp _ _) rfl (c_unp h1 h2 ht 14 true)) es_nil)) rfl (show 2 ≤ LIM by decide))
    (es_cons (e_lst (xs := [.tuple (((sayAll (Lt.take k)).filter (hasS t)).map sD), .tuple (((thr (Lt.take k)).filter fun u => (sayIn (hasS t) u).isNone).map sD)]) (es_cons (e_blt (es_cons (e_vd rfl) es_nil) rfl rfl) (es_cons (e_blt (es_cons (e_vo rfl) es_nil) rfl rfl) es_nil)) rfl (show 2 ≤ LIM by decide)) es_nil)) (ld_alike _ _) rfl al) rfl rfl)) fun _ =>
    c_cmp (e_op (e_blt (es_cons (e_vd rfl) es_nil) rfl rfl) (e_blt (es_cons (e_vo rfl) es_nil) rfl rfl) rfl rfl rfl) (e_blt (es_cons (e_p (es_cons (e_vd rfl) es_nil) (ld_lthrees _ _) rfl (c_lthrees h1 h2 18 true)) es_nil) rfl rfl) rfl rfl ne) (show evSs Γl .nil _ = _ from evSs_nil _ _)
theorem L6 (hu : TrOk (Lt.take k) u) : evS Γl (nthS 5 lapSs) (LE ns bag w2 (some (W.d (tS (Lt.take k)))) (some (W.own false (((thr (Lt.take k)).filter fun u => (sayIn (hasS t) u).isNone).map sD))) w5 w6 w7 w8 w9 (some (W.d t.dat)) (some (W.d u.dat)) w12 (some (W.d (.list (((sayAll (Lt.take k)).filter (hasS t)).map sD)))) w14 w15 w16 w17) = .nx (LE ns bag w2 (some (W.d (tS (Lt.take k)))) (some (W.own false (((thr (Lt.take k)).filter fun u => (sayIn (hasS t) u).isNone).map sD))) w5 w6 w7 w8 w9 (some (W.d t.dat)) (some (W.d u.dat)) w12 (some (W.d (.list (((sayAll (Lt.take k)).filter (hasS t)).map sD)))) w14 w15 w16 w17) := by
  have T := th_take h1 h2
  have nt : ∀ {t : Tr}, TrOk (Lt.take k) t → Nice 2 (.tuple (((sayAll (Lt.take k)).filter (hasS t)).map sD)) := fun {t} ht => nice_tup (nice_sDs (its_ok h1 h2 ht))
  have q1 : cmpD .eq (.tuple (((sayAll (Lt.take k)).filter (hasS t)).map sD)) (.tuple (((sayAll (Lt.take k)).filter (hasS u)).map sD)) = some (decide (((sayAll (Lt.take k)).filter (hasS t)) = ((sayAll (Lt.take k)).filter (hasS u)))) := eqN (nt ht) (nt hu) ⟨fun h => inj_map (fun a b e => sD_inj.mp e) (PyData.tuple.inj h), fun h => by rw [h]⟩
  haveI : Decidable (t = u) := Classical.propDecidable _
  have q2 : cmpD .eq t.dat u.dat = some (decide (t = u)) := eqN (ht.s T).nice (hu.s T).nice ⟨Tr.dat_inj t u, fun h => by rw [h]⟩
  have q3 : cmpD .ne (.bool (decide (((sayAll (Lt.take k)).filter (hasS t)) = ((sayAll (Lt.take k)).filter (hasS u))))) (.bool (decide (t = u))) = some false := by
    rw [decide_eq_decide.mpr (tr_same T ht hu)]
    cases decide (t = u) <;> kernel_rfl
  exact s_if (c_cmp (e_ofC (c_cmp (e_p (es_cons (e_vd rfl) es_nil) (ld_says _ _) rfl (c_says h1 h2 ht 14 true)) (e_p (es_cons (e_vd rfl) es_nil) (ld_says _ _) rfl (c_says h1 h2 hu 14 true)) rfl rfl q1)) (e_ofC (c_cmp (e_vd rfl) (e_vd rfl) rfl rfl q2)) rfl rfl q3) (show evSs Γl .nil _ = _ from evSs_nil _ _)
theorem in_its {s : Sy} (m : s ∈ sayAll (Lt.take k)) : cmpD .isin (sD s) (.list (((sayAll (Lt.take k)).filter (hasS t)).map sD)) = some (hasS t s) ∧ cmpD .notin (sD s) (.list (((sayAll (Lt.take k)).filter (hasS t)).map sD)) = some (!hasS t s) := by
  have T := th_take h1 h2
  have nl : Nice 2 (.list (((sayAll (Lt.take k)).filter (hasS t)).map sD)) := nice_list (nice_sDs (its_ok h1 h2 ht))
  have e : decide (s ∈ ((sayAll (Lt.take k)).filter (hasS t))) = hasS t s := by
    rw [Bool.eq_iff_iff, decide_eq_true_iff, List.mem_filter]
    exact ⟨fun h => h.2, fun h => ⟨m, h⟩⟩
  rw [← e]
  exact ⟨inL (nice_sD (say_ok T m)) nl mem_sDs, notinL (nice_sD (say_ok T m)) nl mem_sDs⟩
def forB : S → Ss
  | .for_ _ _ b => b
  | _ => .nil
theorem L7 (hb : BagOk bag) (n5 : noOwn w5 = w5) : ∃ bag' v5, evS Γl (nthS 6 lapSs) (LE ns bag w2 (some (W.d (tS (Lt.take k)))) (some (W.own false (((thr (Lt.take k)).filter fun u => (sayIn (hasS t) u).isNone).map sD))) w5 w6 w7 w8 w9 (some (W.d t.dat)) (some (W.d u.dat)) (some (W.own false ((sayAll (Lt.take k)).map sD))) (some (W.d (.list (((sayAll (Lt.take k)).filter (hasS t)).map sD)))) w14 w15 w16 w17) = .nx (LE ns bag' w2 (some (W.d (tS (Lt.take k)))) (some (W.own false (((thr (Lt.take k)).filter fun u => (sayIn (hasS t) u).isNone).map sD))) v5 w6 w7 w8 w9 (some (W.d t.dat)) (some (W.d u.dat)) (some (W.d (.list ((sayAll (Lt.take k)).map sD)))) (some (W.d (.list (((sayAll (Lt.take k)).filter (hasS t)).map sD)))) w14 w15 w16 w17) ∧ BagOk bag' ∧ noOwn v5 = v5 := by
  have T := th_take h1 h2
  obtain ⟨ys, bag1, e1, hb1, pm⟩ := c_mixed hb (xs := (sayAll (Lt.take k)).map sD) (by rw [List.length_map]; have := T.f7.1; omega) 17 true
  obtain ⟨xs, pmx, rfl⟩ := perm_map_inv pm rfl
  have ec : slcD (.list (xs.map sD)) none (some ((6 : Nat) : Int)) = some (.fresh ((xs.take 6).map sD)) := by
    show some (R.fresh (cutL _ _ _)) = _
    rw [cutL_map, cutL_to]
  obtain ⟨v5, f, ⟨_, n5'⟩⟩ := for_inv (f := fun x ρ => match Tg.set ρ x (.one 5) with
      | some ρ => evSs Γl (forB (nthS 6 lapSs)) ρ
      | none => .stuck) (fun v5 => (LE ns bag1 w2 (some (W.d (tS (Lt.take k)))) (some (W.own false (((thr (Lt.take k)).filter fun u => (sayIn (hasS t) u).isNone).map sD))) v5 w6 w7 w8 w9 (some (W.d t.dat)) (some (W.d u.dat)) (some (W.d (.list ((sayAll (Lt.take k)).map sD)))) (some (W.d (.list (((sayAll (Lt.take k)).filter (hasS t)).map sD)))) w14 w15 w16 w17)) (fun rest v5 => (∃ rs : List Sy, rest = rs.map sD ∧ ∀ s, s ∈ rs → s ∈ sayAll (Lt.take k)) ∧ noOwn v5 = v5) (xs := (xs.take 6).map sD) (a := w5)
    ⟨⟨xs.take 6, rfl, fun s hs => pmx.mem_iff.mp (List.mem_of_mem_take hs)⟩, n5⟩ fun x rest v5 ⟨⟨rs, er, hr⟩, nv⟩ => by
      cases rs with
      | nil => cases er
      | cons s rs =>
        rw [List.map_cons] at er
        obtain ⟨rfl, rfl⟩ := List.cons.inj er
        refine ⟨some (.d (sD s)), ?_, ⟨rs, rfl, fun z hz => hr z (List.mem_cons_of_mem _ hz)⟩, rfl⟩
        have m := hr s List.mem_cons_self
        have st : Tg.set (LE ns bag1 w2 (some (W.d (tS (Lt.take k)))) (some (W.own false (((thr (Lt.take k)).filter fun u => (sayIn (hasS t) u).isNone).map sD))) v5 w6 w7 w8 w9 (some (W.d t.dat)) (some (W.d u.dat)) (some (W.d (.list ((sayAll (Lt.take k)).map sD)))) (some (W.d (.list (((sayAll (Lt.take k)).filter (hasS t)).map sD)))) w14 w15 w16 w17) (sD s) (.one 5) = some (LE ns bag1 w2 (some (W.d (tS (Lt.take k)))) (some (W.own false (((thr (Lt.take k)).filter fun u => (sayIn (hasS t) u).isNone).map sD))) (some (.d (sD s))) w6 w7 w8 w9 (some (W.d t.dat)) (some (W.d u.dat)) (some (W.d (.list ((sayAll (Lt.take k)).map sD)))) (some (W.d (.list (((sayAll (Lt.take k)).filter (hasS t)).map sD)))) w14 w15 w16 w17) := intoW_d rfl (okW_noOwn nv)
        have A : Al 0 0 (.bool (hasS t s)) := al_bool _
        have al := c_alike A.n.p (Nat.le_trans A.n.d (by decide)) (Nat.le_trans A.w (by decide)) 18
        have bd : evSs Γl (forB (nthS 6 lapSs)) (LE ns bag1 w2 (some (W.d (tS (Lt.take k)))) (some (W.own false (((thr (Lt.take k)).filter fun u => (sayIn (hasS t) u).isNone).map sD))) (some (.d (sD s))) w6 w7 w8 w9 (some (W.d t.dat)) (some (W.d u.dat)) (some (W.d (.list ((sayAll (Lt.take k)).map sD)))) (some (W.d (.list (((sayAll (Lt.take k)).filter (hasS t)).map sD)))) w14 w15 w16 w17) = .nx (LE ns bag1 w2 (some (W.d (tS (Lt.take k)))) (some (W.own false (((thr (Lt.take k)).filter fun u => (sayIn (hasS t) u).isNone).map sD))) (some (.d (sD s))) w6 w7 w8 w9 (some (W.d t.dat)) (some (W.d u.dat)) (some (W.d (.list ((sayAll (Lt.take k)).map sD)))) (some (W.d (.list (((sayAll (Lt.take k)).filter (hasS t)).map sD)))) w14 w15 w16 w17) :=
          ss_nx (s_if (c_not (t := true) (c_tru (e_p (ds := [.bool (hasS t s), .bool (hasS t s)]) (es_cons (e_p (es_cons (e_vd rfl) (es_cons (e_vd rfl) es_nil)) (ld_has _ _) rfl (c_has h1 h2 ht m 14 true)) (es_cons (e_ofC (c_cmp (e_vd rfl) (e_vd rfl) rfl rfl (in_its h1 h2 ht m).1)) es_nil)) (ld_alike _ _) rfl al) rfl rfl)) (show evSs Γl .nil _ = _ from evSs_nil _ _)) (evSs_nil _ _)
        show (match Tg.set (LE ns bag1 w2 (some (W.d (tS (Lt.take k)))) (some (W.own false (((thr (Lt.take k)).filter fun u => (sayIn (hasS t) u).isNone).map sD))) v5 w6 w7 w8 w9 (some (W.d t.dat)) (some (W.d u.dat)) (some (W.d (.list ((sayAll (Lt.take k)).map sD)))) (some (W.d (.list (((sayAll (Lt.take k)).filter (hasS t)).map sD)))) w14 w15 w16 w17) (sD s) (.one 5) with
          | some ρ => evSs Γl (forB (nthS 6 lapSs)) ρ
          | none => .stuck) = _
        rw [st]
        exact bd
  exact ⟨bag1, v5, s_for (i_seq (e_slc (e_pl (es_cons (e_vo rfl) (es_cons (e_vo rfl) es_nil)) (ld_mixed _ _) rfl rfl rfl e1) o_none (o_some e_int) rfl ec) rfl rfl) f, hb1, n5'⟩
theorem head0 (o : Option Sy) : idxD (.list (o.toList.map sD ++ [.none])) (.int 0) = some (optD o) := by cases o <;> rfl
theorem al_opt {o : Option Sy} (h : ∀ s, o = some s → SyOk s) : Al 1 6 (optD o) := by
  cases o with
  | none => exact al_none
  | some s => exact al_sD (h s rfl)
theorem add_non {l : List D} (h : l.length ≤ 60) : opD .add (.list l) (.list [.none]) = some (.fresh (l ++ [.none])) := if_pos (lim_le (show l.length + 1 ≤ _ by omega))
theorem L8 (hb : BagOk bag) (n5 : noOwn w5 = w5) (n6 : noOwn w6 = w6) (o14 : okW w14 = true) : ∃ bag' v6 v14, evS Γl (nthS 7 lapSs) (LE ns bag w2 (some (W.d (tS (Lt.take k)))) (some (W.own false (((thr (Lt.take k)).filter fun u => (sayIn (hasS t) u).isNone).map sD))) w5 w6 w7 w8 w9 (some (W.d t.dat)) (some (W.d u.dat)) w12 (some (W.d (.list (((sayAll (Lt.take k)).filter (hasS t)).map sD)))) w14 w15 w16 w17) = .nx (LE ns bag' w2 (some (W.d (tS (Lt.take k)))) (some (W.own false (((thr (Lt.take k)).filter fun u => (sayIn (hasS t) u).isNone).map sD))) w5 v6 w7 w8 w9 (some (W.d t.dat)) (some (W.d u.dat)) w12 (some (W.d (.list (((sayAll (Lt.take k)).filter (hasS t)).map sD)))) v14 w15 w16 w17) ∧ BagOk bag' ∧ noOwn v6 = v6 ∧ okW v14 = true := by
  have T := th_take h1 h2
  obtain ⟨ys, bag1, e1, hb1, pm⟩ := c_mixed hb (xs := (thr (Lt.take k)).map sD) (by rw [List.length_map]; have := T.f7.2; omega) 17 true
  obtain ⟨xs, pmx, rfl⟩ := perm_map_inv pm rfl
  have ec : slcD (.list (xs.map sD)) none (some ((4 : Nat) : Int)) = some (.fresh ((xs.take 4).map sD)) := by
    show some (R.fresh (cutL _ _ _)) = _
    rw [cutL_map, cutL_to]
  obtain ⟨⟨v6, v14⟩, f, ⟨_, n6', o14'⟩⟩ := for_inv (f := fun x ρ => match Tg.set ρ x (.one 6) with
      | some ρ => evSs Γl (forB (nthS 7 lapSs)) ρ
      | none => .stuck) (fun v : Option W × Option W => (LE ns bag1 w2 (some (W.d (tS (Lt.take k)))) (some (W.own false (((thr (Lt.take k)).filter fun u => (sayIn (hasS t) u).isNone).map sD))) w5 v.1 w7 w8 w9 (some (W.d t.dat)) (some (W.d u.dat)) w12 (some (W.d (.list (((sayAll (Lt.take k)).filter (hasS t)).map sD)))) v.2 w15 w16 w17)) (fun rest v => (∃ rs : List Sy, rest = rs.map sD ∧ ∀ s, s ∈ rs → s ∈ thr (Lt.take k)) ∧ noOwn v.1 = v.1 ∧ okW v.2 = true) (xs := (xs.take 4).map sD) (a := (w6, w14))
    ⟨⟨xs.take 4, rfl, fun s hs => pmx.mem_iff.mp (List.mem_of_mem_take hs)⟩, n6, o14⟩ fun x rest v ⟨⟨rs, er, hr⟩, nv, ov⟩ => by
      obtain ⟨v6, v14⟩ := v
      cases rs with
      | nil => cases er
      | cons s rs =>
        rw [List.map_cons] at er
        obtain ⟨rfl, rfl⟩ := List.cons.inj er
        refine ⟨(some (.d (sD s)), some (.own false ((sayIn (hasS t) s).toList.map sD))), ?_, ⟨rs, rfl, fun z hz => hr z (List.mem_cons_of_mem _ hz)⟩, rfl, rfl⟩
        have m := hr s List.mem_cons_self
        have st : Tg.set (LE ns bag1 w2 (some (W.d (tS (Lt.take k)))) (some (W.own false (((thr (Lt.take k)).filter fun u => (sayIn (hasS t) u).isNone).map sD))) w5 v6 w7 w8 w9 (some (W.d t.dat)) (some (W.d u.dat)) w12 (some (W.d (.list (((sayAll (Lt.take k)).filter (hasS t)).map sD)))) v14 w15 w16 w17) (sD s) (.one 6) = some (LE ns bag1 w2 (some (W.d (tS (Lt.take k)))) (some (W.own false (((thr (Lt.take k)).filter fun u => (sayIn (hasS t) u).isNone).map sD))) w5 (some (.d (sD s))) w7 w8 w9 (some (W.d t.dat)) (some (W.d u.dat)) w12 (some (W.d (.list (((sayAll (Lt.take k)).filter (hasS t)).map sD)))) v14 w15 w16 w17) := intoW_d rfl (okW_noOwn nv)
        have A : Al 1 6 (optD (sayIn (hasS t) s)) := al_opt h1 h2 ht fun z hz => by
          have := (sayIn_some (tr_one (l := Lt.take k) (ht.nd T)) m).mp hz
          exact say_ok T (T.f1 s m z this.1)
        have al := c_alike A.n.p (Nat.le_trans A.n.d (by decide)) (Nat.le_trans A.w (by decide)) 18
        have ad := add_non h1 h2 ht (l := (sayIn (hasS t) s).toList.map sD) (by cases sayIn (hasS t) s with
          | none => exact show 0 ≤ 60 by decide
          | some _ => exact show 1 ≤ 60 by decide)
        have bd : evSs Γl (forB (nthS 7 lapSs)) (LE ns bag1 w2 (some (W.d (tS (Lt.take k)))) (some (W.own false (((thr (Lt.take k)).filter fun u => (sayIn (hasS t) u).isNone).map sD))) w5 (some (.d (sD s))) w7 w8 w9 (some (W.d t.dat)) (some (W.d u.dat)) w12 (some (W.d (.list (((sayAll (Lt.take k)).filter (hasS t)).map sD)))) v14 w15 w16 w17) = .nx (LE ns bag1 w2 (some (W.d (tS (Lt.take k)))) (some (W.own false (((thr (Lt.take k)).filter fun u => (sayIn (hasS t) u).isNone).map sD))) w5 (some (.d (sD s))) w7 w8 w9 (some (W.d t.dat)) (some (W.d u.dat)) w12 (some (W.d (.list (((sayAll (Lt.take k)).filter (hasS t)).map sD)))) (some (.own false ((sayIn (hasS t) s).toList.map sD))) w15 w16 w17) :=
          ss_nx (s_set (e_its h1 h2 ht (.inr rfl) m n5) (intoW_f rfl ov)) (ss_nx (s_if (c_not (t := true) (c_tru (e_p (ds := [optD (sayIn (hasS t) s), optD (sayIn (hasS t) s)]) (es_cons (e_p (es_cons (e_vd rfl) (es_cons (e_vd rfl) es_nil)) (ld_sayof _ _) rfl (c_sayof h1 h2 ht m 14 true)) (es_cons (e_idx (e_op (e_vo rfl) (e_lst (es_cons e_non es_nil) rfl (show 1 ≤ LIM by decide)) rfl rfl ad) e_int rfl rfl (head0 h1 h2 ht _)) es_nil)) (ld_alike _ _) rfl al) rfl rfl)) (show evSs Γl .nil _ = _ from evSs_nil _ _)) (evSs_nil _ _))
        show (match Tg.set (LE ns bag1 w2 (some (W.d (tS (Lt.take k)))) (some (W.own false (((thr (Lt.take k)).filter fun u => (sayIn (hasS t) u).isNone).map sD))) w5 v6 w7 w8 w9 (some (W.d t.dat)) (some (W.d u.dat)) w12 (some (W.d (.list (((sayAll (Lt.take k)).filter (hasS t)).map sD)))) v14 w15 w16 w17) (sD s) (.one 6) with
          | some ρ => evSs Γl (forB (nthS 7 lapSs)) ρ
          | none => .stuck) = _
        rw [st]
        exact bd
  exact ⟨bag1, v6, v14, s_for (i_seq (e_slc (e_pl (es_cons (e_vo rfl) (es_cons (e_p (es_cons (e_vd rfl) es_nil) (ld_lthrees _ _) rfl (c_lthrees h1 h2 18 true)) es_nil)) (ld_mixed _ _) rfl rfl rfl e1) o_none (o_some e_int) rfl ec) rfl rfl) f, hb1, n6', o14'⟩
theorem L9 (hb : BagOk bag) (o7 : okW w7 = true) : ∃ (ss : List Sy) (bag' : List D), evS Γl (nthS 8 lapSs) (LE ns bag w2 (some (W.d (tS (Lt.take k)))) (some (W.own false (((thr (Lt.take k)).filter fun u => (sayIn (hasS t) u).isNone).map sD))) w5 w6 w7 w8 w9 (some (W.d t.dat)) (some (W.d u.dat)) w12 (some (W.d (.list (((sayAll (Lt.take k)).filter (hasS t)).map sD)))) w14 w15 w16 w17) = .nx (LE ns bag' w2 (some (W.d (tS (Lt.take k)))) (some (W.own false (((thr (Lt.take k)).filter fun u => (sayIn (hasS t) u).isNone).map sD))) w5 w6 (some (W.d (.tuple (ss.map sD)))) w8 w9 (some (W.d t.dat)) (some (W.d u.dat)) w12 (some (W.d (.list (((sayAll (Lt.take k)).filter (hasS t)).map sD)))) w14 w15 w16 w17) ∧ BagOk bag' ∧ (∀ s, s ∈ ss → s ∈ sayAll (Lt.take k)) ∧ ss.length ≤ 5 := by
  obtain ⟨ss, bag', e, hb', hm, hl⟩ := c_said hb h1 h2 8 true
  exact ⟨ss, bag', s_set (e_pl (es_cons (e_vo rfl) (es_cons (e_vd rfl) es_nil)) (ld_said _ _) rfl rfl rfl e) (intoW_d rfl o7), hb', hm, hl⟩
variable {ss : List Sy} (hm : ∀ s, s ∈ ss → s ∈ sayAll (Lt.take k)) (hl : ss.length ≤ 5)
include hm hl
theorem L10 (n5 : noOwn w5 = w5) (o8 : okW w8 = true) : evS Γl (nthS 9 lapSs) (LE ns bag w2 (some (W.d (tS (Lt.take k)))) (some (W.own false (((thr (Lt.take k)).filter fun u => (sayIn (hasS t) u).isNone).map sD))) w5 w6 (some (W.d (.tuple (ss.map sD)))) w8 w9 (some (W.d t.dat)) (some (W.d u.dat)) w12 (some (W.d (.list (((sayAll (Lt.take k)).filter (hasS t)).map sD)))) w14 w15 w16 w17) = .nx (LE ns bag w2 (some (W.d (tS (Lt.take k)))) (some (W.own false (((thr (Lt.take k)).filter fun u => (sayIn (hasS t) u).isNone).map sD))) w5 w6 (some (W.d (.tuple (ss.map sD)))) (some (W.own false ((ss.filter fun s => !hasS t s).map sD))) w9 (some (W.d t.dat)) (some (W.d u.dat)) w12 (some (W.d (.list (((sayAll (Lt.take k)).filter (hasS t)).map sD)))) w14 w15 w16 w17) := by
  have lc : lcLoop (lcTurn (.one 5) (evOc Γl (.some (.cmp .notin (.var 5) (.var 13)))) (evE Γl (.var 5)) [5]) (ss.map sD) [] (LE ns bag w2 (some (W.d (tS (Lt.take k)))) (some (W.own false (((thr (Lt.take k)).filter fun u => (sayIn (hasS t) u).isNone).map sD))) none w6 (some (W.d (.tuple (ss.map sD)))) w8 w9 (some (W.d t.dat)) (some (W.d u.dat)) w12 (some (W.d (.list (((sayAll (Lt.take k)).filter (hasS t)).map sD)))) w14 w15 w16 w17) = .ok ((ss.filter fun s => !hasS t s).map sD, (LE ns bag w2 (some (W.d (tS (Lt.take k)))) (some (W.own false (((thr (Lt.take k)).filter fun u => (sayIn (hasS t) u).isNone).map sD))) none w6 (some (W.d (.tuple (ss.map sD)))) w8 w9 (some (W.d t.dat)) (some (W.d u.dat)) w12 (some (W.d (.list (((sayAll (Lt.take k)).filter (hasS t)).map sD)))) w14 w15 w16 w17)) := by
    refine lcf0 sD _ (fun s m => ?_) (lim_le (Nat.le_trans hl (by decide)))
    exact turn_if (intoW_d (w := none) rfl rfl) (c_cmp (e_vd rfl) (e_vd rfl) rfl rfl (in_its h1 h2 ht (hm s m)).2) (e_vd rfl) rfl rfl rfl
  exact s_set (e_lc (i_seq (e_vd rfl) rfl rfl) lc (hb := bk5 (xs := []) (y := .none) n5)) (intoW_f rfl o8)
theorem L11 : evS Γl (nthS 10 lapSs) (LE ns bag w2 (some (W.d (tS (Lt.take k)))) (some (W.own false (((thr (Lt.take k)).filter fun u => (sayIn (hasS t) u).isNone).map sD))) w5 w6 (some (W.d (.tuple (ss.map sD)))) (some (W.own false ((ss.filter fun s => !hasS t s).map sD))) w9 (some (W.d t.dat)) (some (W.d u.dat)) w12 (some (W.d (.list (((sayAll (Lt.take k)).filter (hasS t)).map sD)))) w14 w15 w16 w17) = .nx (LE ns bag w2 (some (W.d (tS (Lt.take k)))) (some (W.own false (((thr (Lt.take k)).filter fun u => (sayIn (hasS t) u).isNone).map sD))) w5 w6 (some (W.d (.tuple (ss.map sD)))) (some (W.own false ((ss.filter fun s => !hasS t s).map sD))) w9 (some (W.d t.dat)) (some (W.d u.dat)) w12 (some (W.d (.list (((sayAll (Lt.take k)).filter (hasS t)).map sD)))) w14 w15 w16 w17) := by
  have T := th_take h1 h2
  have fl : (ss.filter fun s => !hasS t s).length ≤ 5 := Nat.le_trans (List.length_filter_le _ _) hl
  have ix : idxD (.list ((ss.filter fun s => !hasS t s).map sD ++ [.none])) (.int 0) = some (optD (ss.find? fun s => !hasS t s)) := by
    rw [← head_find]
    cases ss.filter fun s => !hasS t s with
    | nil => rfl
    | cons a r =>
      show idxD (.list (sD a :: (r.map sD ++ [.none]))) (.int 0) = _
      simp [idxD, L2.atI, L2.ixN]
      rw [if_pos (by omega)]
      rfl
  have A : Al 2 14 (.list [optD (ss.find? fun s => !hasS t s), .bool (ss.all (hasS t))]) := al_two (al_opt h1 h2 ht fun z hz => say_ok T (hm z (List.mem_of_find?_eq_some hz))) (al_bool _)
  have al := c_alike A.n.p (Nat.le_trans A.n.d (by decide)) (Nat.le_trans A.w (by decide)) 18
  have nf : Nice 2 (.list ((ss.filter fun s => !hasS t s).map sD)) := nice_list (nice_sDs fun s hs => say_ok T (hm s (List.mem_filter.mp hs).1))
  have q := eq_nil nf
  rw [List.isEmpty_map, all_filter] at q
  have ad := add_non h1 h2 ht (l := (ss.filter fun s => !hasS t s).map sD) (by rw [List.length_map]; omega)
  exact s_if (c_not (t := true) (c_tru (e_p (ds := [.list [optD (ss.find? fun s => !hasS t s), .bool (ss.all (hasS t))], .list [optD (ss.find? fun s => !hasS t s), .bool (ss.all (hasS t))]]) (es_cons (e_lst (xs := [optD (ss.find? fun s => !hasS t s), .bool (ss.all (hasS t))]) (es_cons (e_p (es_cons (e_vd rfl) (es_cons (e_vd rfl) es_nil)) (ld_lack _ _) rfl (c_lack h1 h2 ht hm 13 true)) (es_cons (e_p (es_cons (e_vd rfl) (es_cons (e_vd rfl) es_nil)) (ld_hall _ _) rfl (c_hall h1 h2 ht hm 12 true)) es_nil)) rfl (show 2 ≤ LIM by decide))
    (es_cons (e_lst (xs := [optD (ss.find? fun s => !hasS t s), .bool (ss.all (hasS t))]) (es_cons (e_idx (e_op (e_vo rfl) (e_lst (es_cons e_non es_nil) rfl (show 1 ≤ LIM by decide)) rfl rfl ad) e_int rfl rfl ix) (es_cons (e_ofC (c_cmp (e_vo rfl) (e_lst es_nil rfl (show 0 ≤ LIM by decide)) rfl rfl q)) es_nil)) rfl (show 2 ≤ LIM by decide)) es_nil)) (ld_alike _ _) rfl al) rfl rfl)) (show evSs Γl .nil _ = _ from evSs_nil _ _)
omit ht hm hl in
theorem L12 (o15 : okW w15 = true) (o16 : okW w16 = true) (o17 : okW w17 = true) : evS Γl (nthS 11 lapSs) (LE ns bag w2 (some (W.d (tS (Lt.take k)))) w4 w5 w6 w7 w8 w9 w10 w11 w12 w13 w14 w15 w16 w17) = .nx (LE ns bag w2 (some (W.d (tS (Lt.take k)))) w4 w5 w6 w7 w8 w9 w10 w11 w12 w13 w14 (some (W.d (.str "a"))) (some (W.d (.str "b"))) (some (W.d (.str "c")))) := by
  have ec : slcD (tS (Lt.take k)) none (some ((3 : Nat) : Int)) = some (.d (.tuple [.str "a", .str "b", .str "c"])) := k_cases (p := fun k => slcD (tS (Lt.take k)) none (some ((3 : Nat) : Int)) = some (.d (.tuple [.str "a", .str "b", .str "c"]))) h1 h2 rfl rfl rfl rfl
  exact s_unpT (e_slc (e_vd rfl) o_none (o_some e_int) rfl ec) rfl (row3 (intoW_d rfl o15) (intoW_d rfl o16) (intoW_d rfl o17))
def itS : S → I
  | .for_ _ i _ => i
  | _ => .seq .non
omit hm hl in
theorem L13 (o9 : okW w9 = true) : ∃ v9, evS Γl (nthS 12 lapSs) (LE ns bag w2 (some (W.d (tS (Lt.take k)))) w4 w5 w6 w7 w8 w9 (some (W.d t.dat)) w11 w12 w13 w14 (some (W.d (.str "a"))) (some (W.d (.str "b"))) (some (W.d (.str "c")))) = .nx (LE ns bag w2 (some (W.d (tS (Lt.take k)))) w4 w5 w6 w7 w8 v9 (some (W.d t.dat)) w11 w12 w13 w14 (some (W.d (.str "a"))) (some (W.d (.str "b"))) (some (W.d (.str "c")))) ∧ okW v9 = true := by
  have ie : evI Γl (itS (nthS 12 lapSs)) (LE ns bag w2 (some (W.d (tS (Lt.take k)))) w4 w5 w6 w7 w8 w9 (some (W.d t.dat)) w11 w12 w13 w14 (some (W.d (.str "a"))) (some (W.d (.str "b"))) (some (W.d (.str "c")))) = .ok (oddS, (LE ns bag w2 (some (W.d (tS (Lt.take k)))) w4 w5 w6 w7 w8 w9 (some (W.d t.dat)) w11 w12 w13 w14 (some (W.d (.str "a"))) (some (W.d (.str "b"))) (some (W.d (.str "c"))))) := k_cases (p := fun k => evI Γl (itS (nthS 12 lapSs)) (LE ns bag w2 (some (W.d (tS (Lt.take k)))) w4 w5 w6 w7 w8 w9 (some (W.d t.dat)) w11 w12 w13 w14 (some (W.d (.str "a"))) (some (W.d (.str "b"))) (some (W.d (.str "c")))) = .ok (oddS, (LE ns bag w2 (some (W.d (tS (Lt.take k)))) w4 w5 w6 w7 w8 w9 (some (W.d t.dat)) w11 w12 w13 w14 (some (W.d (.str "a"))) (some (W.d (.str "b"))) (some (W.d (.str "c")))))) h1 h2 (by kernel_rfl) (by kernel_rfl) (by kernel_rfl) (by kernel_rfl)
  obtain ⟨v9, f, ⟨_, o9'⟩⟩ := for_inv (f := fun x ρ => match Tg.set ρ x (.one 9) with
      | some ρ => evSs Γl (forB (nthS 12 lapSs)) ρ
      | none => .stuck) (fun v9 => (LE ns bag w2 (some (W.d (tS (Lt.take k)))) w4 w5 w6 w7 w8 v9 (some (W.d t.dat)) w11 w12 w13 w14 (some (W.d (.str "a"))) (some (W.d (.str "b"))) (some (W.d (.str "c"))))) (fun rest v9 => (∀ x, x ∈ rest → x ∈ oddS) ∧ okW v9 = true) (xs := oddS) (a := w9)
    ⟨fun x hx => hx, o9⟩ fun x rest v9 ⟨hr, ov⟩ => by
      refine ⟨some (.d x), ?_, fun z hz => hr z (List.mem_cons_of_mem _ hz), rfl⟩
      have m := hr x List.mem_cons_self
      have st : Tg.set (LE ns bag w2 (some (W.d (tS (Lt.take k)))) w4 w5 w6 w7 w8 v9 (some (W.d t.dat)) w11 w12 w13 w14 (some (W.d (.str "a"))) (some (W.d (.str "b"))) (some (W.d (.str "c")))) x (.one 9) = some (LE ns bag w2 (some (W.d (tS (Lt.take k)))) w4 w5 w6 w7 w8 (some (.d x)) (some (W.d t.dat)) w11 w12 w13 w14 (some (W.d (.str "a"))) (some (W.d (.str "b"))) (some (W.d (.str "c")))) := intoW_d rfl ov
      have hv : evE Γl (.heard "_law_heard" (.call "has" (.cons (.var 10) (.cons (.var 9) .nil)))) (LE ns bag w2 (some (W.d (tS (Lt.take k)))) w4 w5 w6 w7 w8 (some (.d x)) (some (W.d t.dat)) w11 w12 w13 w14 (some (W.d (.str "a"))) (some (W.d (.str "b"))) (some (W.d (.str "c")))) = .ok (.d (.tuple [.str "nothing"]), (LE ns bag w2 (some (W.d (tS (Lt.take k)))) w4 w5 w6 w7 w8 (some (.d x)) (some (W.d t.dat)) w11 w12 w13 w14 (some (W.d (.str "a"))) (some (W.d (.str "b"))) (some (W.d (.str "c"))))) :=
        e_heardx (Γ := Γl) (g := "_law_heard") told_eq (e_phx (g := true) (es_cons (e_vd rfl) (es_cons (e_vd rfl) es_nil)) (ld_has _ _) rfl (x_has h1 h2 ht m)) rfl (backE_self _ _)
      have nn : cmpD .ne (.tuple [.str "nothing"]) (.tuple [.str "nothing"]) = some false := by decide +kernel
      have bd : evSs Γl (forB (nthS 12 lapSs)) (LE ns bag w2 (some (W.d (tS (Lt.take k)))) w4 w5 w6 w7 w8 (some (.d x)) (some (W.d t.dat)) w11 w12 w13 w14 (some (W.d (.str "a"))) (some (W.d (.str "b"))) (some (W.d (.str "c")))) = .nx (LE ns bag w2 (some (W.d (tS (Lt.take k)))) w4 w5 w6 w7 w8 (some (.d x)) (some (W.d t.dat)) w11 w12 w13 w14 (some (W.d (.str "a"))) (some (W.d (.str "b"))) (some (W.d (.str "c")))) :=
        ss_nx (s_if (c_cmp hv (e_tup (es_cons e_str es_nil) rfl (show 1 ≤ LIM by decide)) rfl rfl nn) (show evSs Γl .nil _ = _ from evSs_nil _ _)) (evSs_nil _ _)
      show (match Tg.set (LE ns bag w2 (some (W.d (tS (Lt.take k)))) w4 w5 w6 w7 w8 v9 (some (W.d t.dat)) w11 w12 w13 w14 (some (W.d (.str "a"))) (some (W.d (.str "b"))) (some (W.d (.str "c")))) x (.one 9) with
        | some ρ => evSs Γl (forB (nthS 12 lapSs)) ρ
        | none => .stuck) = _
      rw [st]
      exact bd
  exact ⟨v9, s_for ie f, o9'⟩
omit hm hl in
theorem L14 (o9 : okW w9 = true) : ∃ v9, evS Γl (nthS 13 lapSs) (LE ns bag w2 (some (W.d (tS (Lt.take k)))) w4 w5 w6 w7 w8 w9 (some (W.d t.dat)) w11 w12 w13 w14 (some (W.d (.str "a"))) (some (W.d (.str "b"))) (some (W.d (.str "c")))) = .nx (LE ns bag w2 (some (W.d (tS (Lt.take k)))) w4 w5 w6 w7 w8 v9 (some (W.d t.dat)) w11 w12 w13 w14 (some (W.d (.str "a"))) (some (W.d (.str "b"))) (some (W.d (.str "c")))) ∧ okW v9 = true := by
  have ie : evI Γl (itS (nthS 13 lapSs)) (LE ns bag w2 (some (W.d (tS (Lt.take k)))) w4 w5 w6 w7 w8 w9 (some (W.d t.dat)) w11 w12 w13 w14 (some (W.d (.str "a"))) (some (W.d (.str "b"))) (some (W.d (.str "c")))) = .ok (oddT, (LE ns bag w2 (some (W.d (tS (Lt.take k)))) w4 w5 w6 w7 w8 w9 (some (W.d t.dat)) w11 w12 w13 w14 (some (W.d (.str "a"))) (some (W.d (.str "b"))) (some (W.d (.str "c"))))) := k_cases (p := fun k => evI Γl (itS (nthS 13 lapSs)) (LE ns bag w2 (some (W.d (tS (Lt.take k)))) w4 w5 w6 w7 w8 w9 (some (W.d t.dat)) w11 w12 w13 w14 (some (W.d (.str "a"))) (some (W.d (.str "b"))) (some (W.d (.str "c")))) = .ok (oddT, (LE ns bag w2 (some (W.d (tS (Lt.take k)))) w4 w5 w6 w7 w8 w9 (some (W.d t.dat)) w11 w12 w13 w14 (some (W.d (.str "a"))) (some (W.d (.str "b"))) (some (W.d (.str "c")))))) h1 h2 (by kernel_rfl) (by kernel_rfl) (by kernel_rfl) (by kernel_rfl)
  obtain ⟨v9, f, ⟨_, o9'⟩⟩ := for_inv (f := fun x ρ => match Tg.set ρ x (.one 9) with
      | some ρ => evSs Γl (forB (nthS 13 lapSs)) ρ
      | none => .stuck) (fun v9 => (LE ns bag w2 (some (W.d (tS (Lt.take k)))) w4 w5 w6 w7 w8 v9 (some (W.d t.dat)) w11 w12 w13 w14 (some (W.d (.str "a"))) (some (W.d (.str "b"))) (some (W.d (.str "c"))))) (fun rest v9 => (∀ x, x ∈ rest → x ∈ oddT) ∧ okW v9 = true) (xs := oddT) (a := w9)
    ⟨fun x hx => hx, o9⟩ fun x rest v9 ⟨hr, ov⟩ => by
      refine ⟨some (.d x), ?_, fun z hz => hr z (List.mem_cons_of_mem _ hz), rfl⟩
      have m := hr x List.mem_cons_self
      have st : Tg.set (LE ns bag w2 (some (W.d (tS (Lt.take k)))) w4 w5 w6 w7 w8 v9 (some (W.d t.dat)) w11 w12 w13 w14 (some (W.d (.str "a"))) (some (W.d (.str "b"))) (some (W.d (.str "c")))) x (.one 9) = some (LE ns bag w2 (some (W.d (tS (Lt.take k)))) w4 w5 w6 w7 w8 (some (.d x)) (some (W.d t.dat)) w11 w12 w13 w14 (some (W.d (.str "a"))) (some (W.d (.str "b"))) (some (W.d (.str "c")))) := intoW_d rfl ov
      have hv : evE Γl (.heard "_law_heard" (.call "saying_of" (.cons (.var 10) (.cons (.var 9) .nil)))) (LE ns bag w2 (some (W.d (tS (Lt.take k)))) w4 w5 w6 w7 w8 (some (.d x)) (some (W.d t.dat)) w11 w12 w13 w14 (some (W.d (.str "a"))) (some (W.d (.str "b"))) (some (W.d (.str "c")))) = .ok (.d (.tuple [.str "nothing"]), (LE ns bag w2 (some (W.d (tS (Lt.take k)))) w4 w5 w6 w7 w8 (some (.d x)) (some (W.d t.dat)) w11 w12 w13 w14 (some (W.d (.str "a"))) (some (W.d (.str "b"))) (some (W.d (.str "c"))))) :=
        e_heardx (Γ := Γl) (g := "_law_heard") told_eq (e_phx (g := true) (es_cons (e_vd rfl) (es_cons (e_vd rfl) es_nil)) (ld_sayof _ _) rfl (x_sayof h1 h2 ht m)) rfl (backE_self _ _)
      have nn : cmpD .ne (.tuple [.str "nothing"]) (.tuple [.str "nothing"]) = some false := by decide +kernel
      have bd : evSs Γl (forB (nthS 13 lapSs)) (LE ns bag w2 (some (W.d (tS (Lt.take k)))) w4 w5 w6 w7 w8 (some (.d x)) (some (W.d t.dat)) w11 w12 w13 w14 (some (W.d (.str "a"))) (some (W.d (.str "b"))) (some (W.d (.str "c")))) = .nx (LE ns bag w2 (some (W.d (tS (Lt.take k)))) w4 w5 w6 w7 w8 (some (.d x)) (some (W.d t.dat)) w11 w12 w13 w14 (some (W.d (.str "a"))) (some (W.d (.str "b"))) (some (W.d (.str "c")))) :=
        ss_nx (s_if (c_cmp hv (e_tup (es_cons e_str es_nil) rfl (show 1 ≤ LIM by decide)) rfl rfl nn) (show evSs Γl .nil _ = _ from evSs_nil _ _)) (evSs_nil _ _)
      show (match Tg.set (LE ns bag w2 (some (W.d (tS (Lt.take k)))) w4 w5 w6 w7 w8 v9 (some (W.d t.dat)) w11 w12 w13 w14 (some (W.d (.str "a"))) (some (W.d (.str "b"))) (some (W.d (.str "c")))) x (.one 9) with
        | some ρ => evSs Γl (forB (nthS 13 lapSs)) ρ
        | none => .stuck) = _
      rw [st]
      exact bd
  exact ⟨v9, s_for ie f, o9'⟩
end
structure LW where
  bag : List D
  w2 : Option W
  w3 : Option W
  w4 : Option W
  w5 : Option W
  w6 : Option W
  w7 : Option W
  w8 : Option W
  w9 : Option W
  w10 : Option W
  w11 : Option W
  w12 : Option W
  w13 : Option W
  w14 : Option W
  w15 : Option W
  w16 : Option W
  w17 : Option W
def LW.env (ns : D) (a : LW) : Mn.Env := LE ns a.bag a.w2 a.w3 a.w4 a.w5 a.w6 a.w7 a.w8 a.w9 a.w10 a.w11 a.w12 a.w13 a.w14 a.w15 a.w16 a.w17
structure LW.Ok (a : LW) : Prop where
  bag : BagOk a.bag
  o2 : okW a.w2 = true
  o3 : okW a.w3 = true
  o4 : okW a.w4 = true
  o5 : noOwn a.w5 = a.w5
  o6 : noOwn a.w6 = a.w6
  o7 : okW a.w7 = true
  o8 : okW a.w8 = true
  o9 : okW a.w9 = true
  o10 : okW a.w10 = true
  o11 : okW a.w11 = true
  o12 : okW a.w12 = true
  o13 : okW a.w13 = true
  o14 : okW a.w14 = true
  o15 : okW a.w15 = true
  o16 : okW a.w16 = true
  o17 : okW a.w17 = true
theorem lap (ns : D) (a : LW) (h : a.Ok) (x : D) : ∃ a' : LW, (match Tg.set (a.env ns) x (.one 2) with | some ρ => evSs Γl lapSs ρ | none => .stuck) = .nx (a'.env ns) ∧ a'.Ok := by
  obtain ⟨bag, w2, w3, w4, w5, w6, w7, w8, w9, w10, w11, w12, w13, w14, w15, w16, w17⟩ := a
  obtain ⟨hb, o2, o3, o4, o5, o6, o7, o8, o9, o10, o11, o12, o13, o14, o15, o16, o17⟩ := h
  have s0 : Tg.set (LE ns bag w2 w3 w4 w5 w6 w7 w8 w9 w10 w11 w12 w13 w14 w15 w16 w17) x (.one 2) = some (LE ns bag (some (.d x)) w3 w4 w5 w6 w7 w8 w9 w10 w11 w12 w13 w14 w15 w16 w17) := intoW_d rfl o2
  obtain ⟨k, bag1, s1, hb1, h1, h2⟩ := L1 (ns := ns) (w2 := (some (.d x))) (w4 := w4) (w5 := w5) (w6 := w6) (w7 := w7) (w8 := w8) (w9 := w9) (w10 := w10) (w11 := w11) (w12 := w12) (w13 := w13) (w14 := w14) (w15 := w15) (w16 := w16) (w17 := w17) hb o3
  obtain ⟨t, u, bag2, s2, hb2, ht, hu⟩ := L2 (ns := ns) (w2 := (some (.d x))) (w4 := w4) (w5 := w5) (w6 := w6) (w7 := w7) (w8 := w8) (w9 := w9) (w12 := w12) (w13 := w13) (w14 := w14) (w15 := w15) (w16 := w16) (w17 := w17) h1 h2 hb1 o10 o11
  have s3 := L3 (bag := bag2) (u := u) (ns := ns) (w2 := (some (.d x))) (w4 := w4) (w5 := w5) (w6 := w6) (w7 := w7) (w8 := w8) (w9 := w9) (w12 := w12) (w13 := w13) (w14 := w14) (w15 := w15) (w16 := w16) (w17 := w17) h1 h2 ht o12 o13
  have s4 := L4 (bag := bag2) (u := u) (w12 := (some (W.own false ((sayAll (Lt.take k)).map sD)))) (ns := ns) (w2 := (some (.d x))) (w5 := w5) (w6 := w6) (w7 := w7) (w8 := w8) (w9 := w9) (w14 := w14) (w15 := w15) (w16 := w16) (w17 := w17) h1 h2 ht o4 o5 o6
  have s5 := L5 (bag := bag2) (u := u) (w12 := (some (W.own false ((sayAll (Lt.take k)).map sD)))) (ns := ns) (w2 := (some (.d x))) (w5 := w5) (w6 := w6) (w7 := w7) (w8 := w8) (w9 := w9) (w14 := w14) (w15 := w15) (w16 := w16) (w17 := w17) h1 h2 ht
  have s6 := L6 (bag := bag2) (u := u) (w12 := (some (W.own false ((sayAll (Lt.take k)).map sD)))) (ns := ns) (w2 := (some (.d x))) (w5 := w5) (w6 := w6) (w7 := w7) (w8 := w8) (w9 := w9) (w14 := w14) (w15 := w15) (w16 := w16) (w17 := w17) h1 h2 ht hu
  obtain ⟨bag3, v5, s7, hb3, p5⟩ := L7 (u := u) (ns := ns) (w2 := (some (.d x))) (w5 := w5) (w6 := w6) (w7 := w7) (w8 := w8) (w9 := w9) (w14 := w14) (w15 := w15) (w16 := w16) (w17 := w17) h1 h2 ht hb2 o5
  obtain ⟨bag4, v6, v14, s8, hb4, p6, p14⟩ := L8 (u := u) (w12 := (some (W.d (.list ((sayAll (Lt.take k)).map sD))))) (w5 := v5) (ns := ns) (w2 := (some (.d x))) (w6 := w6) (w7 := w7) (w8 := w8) (w9 := w9) (w14 := w14) (w15 := w15) (w16 := w16) (w17 := w17) h1 h2 ht hb3 p5 o6 o14
  obtain ⟨ss, bag5, s9, hb5, hm, hl⟩ := L9 (u := u) (w12 := (some (W.d (.list ((sayAll (Lt.take k)).map sD))))) (w5 := v5) (w6 := v6) (w14 := v14) (ns := ns) (w2 := (some (.d x))) (w7 := w7) (w8 := w8) (w9 := w9) (w15 := w15) (w16 := w16) (w17 := w17) h1 h2 ht hb4 o7
  have s10 := L10 (bag := bag5) (u := u) (w12 := (some (W.d (.list ((sayAll (Lt.take k)).map sD))))) (w5 := v5) (w6 := v6) (w14 := v14) (ns := ns) (w2 := (some (.d x))) (w8 := w8) (w9 := w9) (w15 := w15) (w16 := w16) (w17 := w17) h1 h2 ht hm hl p5 o8
  have s11 := L11 (bag := bag5) (u := u) (w12 := (some (W.d (.list ((sayAll (Lt.take k)).map sD))))) (w5 := v5) (w6 := v6) (w14 := v14) (ns := ns) (w2 := (some (.d x))) (w9 := w9) (w15 := w15) (w16 := w16) (w17 := w17) h1 h2 ht hm hl
  have s12 := L12 (k := k) (bag := bag5) (w4 := (some (W.own false (((thr (Lt.take k)).filter fun u => (sayIn (hasS t) u).isNone).map sD)))) (w5 := v5) (w6 := v6) (w7 := (some (W.d (.tuple (ss.map sD))))) (w8 := (some (W.own false ((ss.filter fun s => !hasS t s).map sD)))) (w10 := (some (W.d t.dat))) (w11 := (some (W.d u.dat))) (w12 := (some (W.d (.list ((sayAll (Lt.take k)).map sD))))) (w13 := (some (W.d (.list (((sayAll (Lt.take k)).filter (hasS t)).map sD))))) (w14 := v14) (ns := ns) (w2 := (some (.d x))) (w9 := w9) (w15 := w15) (w16 := w16) (w17 := w17) h1 h2 o15 o16 o17
  obtain ⟨v9, s13, p9⟩ := L13 (bag := bag5) (w4 := (some (W.own false (((thr (Lt.take k)).filter fun u => (sayIn (hasS t) u).isNone).map sD)))) (w5 := v5) (w6 := v6) (w7 := (some (W.d (.tuple (ss.map sD))))) (w8 := (some (W.own false ((ss.filter fun s => !hasS t s).map sD)))) (w11 := (some (W.d u.dat))) (w12 := (some (W.d (.list ((sayAll (Lt.take k)).map sD))))) (w13 := (some (W.d (.list (((sayAll (Lt.take k)).filter (hasS t)).map sD))))) (w14 := v14) (ns := ns) (w2 := (some (.d x))) (w9 := w9) h1 h2 ht o9
  obtain ⟨v9b, s14, p9b⟩ := L14 (bag := bag5) (w4 := (some (W.own false (((thr (Lt.take k)).filter fun u => (sayIn (hasS t) u).isNone).map sD)))) (w5 := v5) (w6 := v6) (w7 := (some (W.d (.tuple (ss.map sD))))) (w8 := (some (W.own false ((ss.filter fun s => !hasS t s).map sD)))) (w9 := v9) (w11 := (some (W.d u.dat))) (w12 := (some (W.d (.list ((sayAll (Lt.take k)).map sD))))) (w13 := (some (W.d (.list (((sayAll (Lt.take k)).filter (hasS t)).map sD))))) (w14 := v14) (ns := ns) (w2 := (some (.d x)))  h1 h2 ht p9
  have go : evSs Γl lapSs (LE ns bag (some (.d x)) w3 w4 w5 w6 w7 w8 w9 w10 w11 w12 w13 w14 w15 w16 w17) = _ := ss_nx s1 (ss_nx s2 (ss_nx s3 (ss_nx s4 (ss_nx s5 (ss_nx s6 (ss_nx s7 (ss_nx s8 (ss_nx s9 (ss_nx s10 (ss_nx s11 (ss_nx s12 (ss_nx s13 (ss_nx s14 (evSs_nil _ _))))))))))))))
  exact ⟨⟨bag5, (some (.d x)), (some (W.d (tS (Lt.take k)))), (some (W.own false (((thr (Lt.take k)).filter fun u => (sayIn (hasS t) u).isNone).map sD))), v5, v6, (some (W.d (.tuple (ss.map sD)))), (some (W.own false ((ss.filter fun s => !hasS t s).map sD))), v9b, (some (W.d t.dat)), (some (W.d u.dat)), (some (W.d (.list ((sayAll (Lt.take k)).map sD)))), (some (W.d (.list (((sayAll (Lt.take k)).filter (hasS t)).map sD)))), v14, (some (W.d (.str "a"))), (some (W.d (.str "b"))), (some (W.d (.str "c")))⟩, (show (match Tg.set (LE ns bag w2 w3 w4 w5 w6 w7 w8 w9 w10 w11 w12 w13 w14 w15 w16 w17) x (.one 2) with | some ρ => evSs Γl lapSs ρ | none => .stuck) = _ by rw [s0]; exact go), hb5, rfl, rfl, rfl, p5, p6, rfl, rfl, p9b, rfl, rfl, rfl, rfl, p14, rfl, rfl, rfl⟩
theorem pure (ns : List Int) : P.call 20 true "law" [.d (.list (ns.map PyData.int))] = .ret (.d (.bool true)) none := by
  rw [cq_law 19]
  obtain ⟨bag, e, hb⟩ := c_bag ns 18 true
  obtain ⟨a', f1, h'⟩ := for_inv (f := fun x ρ => match Tg.set ρ x (.one 2) with
      | some ρ => evSs Γl lapSs ρ
      | none => .stuck) (LW.env (.list (ns.map .int))) (fun _ a => a.Ok) (xs := (List.range 4).map fun (k : Nat) => PyData.int k) (a := ⟨bag, none, none, none, none, none, none, none, none, none, none, none, none, none, none, none, none⟩)
    ⟨hb, rfl, rfl, rfl, rfl, rfl, rfl, rfl, rfl, rfl, rfl, rfl, rfl, rfl, rfl, rfl, rfl⟩ fun x _ a h => lap _ a h x
  exact runB_rt rfl rfl (ss_nx (s_set (e_p (es_cons (e_vd rfl) es_nil) (ld_bag _ _) rfl e) rfl) (ss_nx (s_for (i_rng1 e_int (by decide)) f1) (ss_rt (s_ret e_bl)))) rfl
end K26
set_option Elab.async false
set_option linter.all false
set_option maxRecDepth 100000
set_option maxHeartbeats 0
open PySem PySem.W PySem.Calls PyProof.Rows
theorem PySem.Challenge.cw_lastparted_k26_whole_sayings_of_trees_holds : PySem.Challenge.rw_lastparted_k26_whole_sayings_of_trees.Holds := by
  w_on; o_law
  refine HandSHeadRun.head_any (r := OpenLaw.row PySem.Challenge.rw_lastparted_k26_whole_sayings_of_trees) (q := view (OpenLaw.row PySem.Challenge.rw_lastparted_k26_whole_sayings_of_trees).prog [51]) (H := K26.hk) (ob := K26.ob) (M := 4000) (loose := K26.loose) (d := HandSHeadRun.topDef (OpenLaw.row PySem.Challenge.rw_lastparted_k26_whole_sayings_of_trees).prog 51) (kwd := []) K26.ob_eq
    (by kernel_rfl) (fun s => by kernel_rfl) K26.run (by kernel_rfl) (by kernel_rfl) (by kernel_rfl) (by rfl) (by first | assumption | decide +kernel) (by decide +kernel) ⟨rfl, rfl, rfl, rfl, rfl, by decide +kernel⟩ ?hw ?hc
  case hw => w_witness2
  case hc => exact Mn.law_walk (n := 20) (d := K26.lawD) rfl rfl (by kernel_rfl) ⟨rfl, by decide, by decide⟩ K26.tx K26.to K26.bn K26.bt K26.one K26.lawD_eq K26.lawD_ps fun ns _ _ => K26.pure ns
