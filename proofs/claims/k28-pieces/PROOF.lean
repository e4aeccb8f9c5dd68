import PyProof.Rows.All
import Wide.All
import OpenK.AllK
import Wide.FinOn
import PySem.Challenge.RW_lastparted_k28_pieces_and_ties
import HandS.ForMost
import HandS.ForExc
import HandS.Deep
import HandS.More
import HandS.NoneIn
import HandS.Flow
import HandS.IsInst
import HandS.TupAny
import HandS.Lambda
import KE.SortData
import HandS.Walk
import HandS.Zip
import HandS.WordsExc
import HandS.CallSlots
import HandS.Text
import HandS.TryOnly
import HandS.ExcOwn
import HandS.TupSets
import HandS.EndTab
import HandS.HeadHook4
import HandS.Head2
import PyProof.ExcBaseAll.ValueError
import HandS.HeadWalk
import PyProof.ReprLen
import PyProof.P3Eq
import HandS.HeadEnd
set_option Elab.async false
set_option linter.all false
set_option maxRecDepth 100000
set_option maxHeartbeats 1000000
/-! ## Mn: a small interpreter over plain data, and what it says of the heap -/
namespace Mn
open PySem L2

abbrev D := PyData
/-- where the defs lie; the tables of code objects -/
structure Ad where
  at_ : Str → Addr
  T : List (Addr × Str)
instance : CoeFun Ad (fun _ => Str → Addr) := ⟨Ad.at_⟩
/-- the heap but for the tables of code objects -/
def mask (H : Hp) : Hp := fun b => match H b with
  | some (.tbl _) => none
  | u => u
def nonT : HO → Prop := fun o => ∀ ps, o ≠ .tbl ps
theorem mask_of {H : Hp} {b : Addr} {o : HO} (h : H b = some o) (n : nonT o) : mask H b = some o := by
  unfold mask
  rw [h]
  cases o <;> first | rfl | exact absurd rfl (n _)
theorem mask_some {H : Hp} {b : Addr} {o : HO} (h : mask H b = some o) : H b = some o ∧ nonT o := by
  unfold mask at h
  split at h
  · cases h
  · rename_i n
    exact ⟨h, fun ps z => n ps (by rw [h, z])⟩
theorem mask_none {H : Hp} {b : Addr} (h : H b = none) : mask H b = none := by
  unfold mask
  rw [h]
theorem mask_upd {H : Hp} {p : Addr} {o : HO} (n : nonT o) : mask (upd H p o) = upd (mask H) p o := by
  funext b
  by_cases hb : b = p
  · subst hb
    rw [upd_same]
    exact mask_of upd_same n
  · rw [upd_ne hb]
    unfold mask
    rw [upd_ne hb]
theorem nonT_lst {vs : List V} : nonT (.lst vs) := fun _ z => nomatch z
theorem nonT_tup {vs : List V} : nonT (.tup vs) := fun _ z => nomatch z
/-- the tables, and nothing of them among what nobody changes -/
structure Tb (Tl : List (Addr × Str)) (H F : Hp) : Prop where
  ft : ∀ b o, F b = some o → nonT o
  tb : LamX.Tabs Tl H
theorem Tb.new {Tl : List (Addr × Str)} {H F : Hp} {p : Addr} {o : HO} (t : Tb Tl H F) (h : H p = none) : Tb Tl (upd H p o) F :=
  ⟨t.ft, t.tb.ext fun b u e => by rw [upd_ne (fun z => by rw [z, h] at e; cases e)]; exact e⟩
theorem Tb.frz {Tl : List (Addr × Str)} {H F : Hp} {p : Addr} {o : HO} (t : Tb Tl H F) (n : nonT o) : Tb Tl H (upd F p o) :=
  ⟨fun b u e => by
    by_cases hb : b = p
    · subst hb; rw [upd_same] at e; cases e; exact n
    · rw [upd_ne hb] at e; exact t.ft b u e, t.tb⟩
theorem Tb.mut {Tl : List (Addr × Str)} {H F : Hp} {p : Addr} {vs us : List V} (t : Tb Tl H F) (h : H p = some (.lst vs)) : Tb Tl (upd H p (.lst us)) F :=
  ⟨t.ft, fun q hq => by
    obtain ⟨ps, h1, h2, h3⟩ := t.tb q hq
    refine ⟨ps, by rw [upd_ne (fun z => by rw [z, h] at h1; cases h1)]; exact h1, h2, fun pos cv hc => ?_⟩
    obtain ⟨c, e1, e2⟩ := h3 pos cv hc
    exact ⟨c, e1, by rw [upd_ne (fun z => by subst z; rw [h] at e2; have e3 := Option.some.inj e2; unfold LamX.CodeO at e3; cases e3)]; exact e2⟩⟩
/-- what a slot holds: data that nobody changes; a list of one's own (lent: by the caller); a def -/
inductive W where
  | d (x : D) | own (lent : Bool) (xs : List D) | fn (f : Str)
/-- what an expression gives -/
inductive R where
  | d (x : D) | fresh (xs : List D) | slot (i : Nat) | fn (f : Str)
abbrev Env := List (Option W)
inductive Res (α : Type) where
  | ok (a : α) | ex (c : Str) (ρ : Env) | stuck
abbrev Tmps := List (R × V)

inductive Owner where
  | slot (i : Nat) | temp (k : Nat)
  deriving DecidableEq

mutual
/-- a value that stands for data: its lists are tracked, its tuples tracked or written -/
inductive Dq (K : PySem.W.Frag) (F : Hp) : V → D → Prop
  | non : Dq K F .non .none
  | bl (b : Bool) : Dq K F (.bl b) (.bool b)
  | int (i : Int) : Dq K F (.int i) (.int i)
  | str (x : Str) : Dq K F (.str x) (.str x)
  | lst {a : Addr} {xs : List V} {ds : List D} : Rd F a (.lst xs) → DqAll K F xs ds → Dq K F (.ref a) (.list ds)
  | tup {a : Addr} {xs : List V} {ds : List D} : SqT K F a xs → DqAll K F xs ds → Dq K F (.ref a) (.tuple ds)
inductive DqAll (K : PySem.W.Frag) (F : Hp) : List V → List D → Prop
  | nil : DqAll K F [] []
  | cons {v : V} {vs : List V} {d : D} {ds : List D} : Dq K F v d → DqAll K F vs ds → DqAll K F (v :: vs) (d :: ds)
end
mutual
theorem Dq.dp {K : PySem.W.Frag} {F : Hp} : ∀ (x : D) (v : V), Dq K F v x → Dp K F v x
  | .none, _, h => by cases h; exact .non
  | .bool _, _, h => by cases h; exact .bl _
  | .int _, _, h => by cases h; exact .int _
  | .str _, _, h => by cases h; exact .str _
  | .list xs, _, h => by
    cases h with
    | lst h1 h2 => exact .lst (.inl h1) (DqAll.dp xs _ h2)
  | .tuple xs, _, h => by
    cases h with
    | tup h1 h2 => exact .tup h1 (DqAll.dp xs _ h2)
  | .dict _, _, h => by cases h
theorem DqAll.dp {K : PySem.W.Frag} {F : Hp} : ∀ (xs : List D) (vs : List V), DqAll K F vs xs → DpAll K F vs xs
  | [], _, h => by cases h; exact .nil
  | x :: xs, _, h => by
    cases h with
    | cons h1 h2 => exact .cons (Dq.dp x _ h1) (DqAll.dp xs _ h2)
end
/-- where a run began: the heap, the part that nobody changes, what was lent -/
structure Bs where
  H : Hp
  F : Hp
  P : Addr → Prop
  L : St
  N : Addr → Prop
  hm : ∀ b o, H b = some o → nonT o

abbrev subB (H F : Hp) (P : Addr → Prop) (L : St) (N : Addr → Prop) : Bs := ⟨mask H, F, P, L, N, fun _ _ h => (mask_some h).2⟩
section
variable (K : PySem.W.Frag) (A : Ad)
def OwnAt (F H : Hp) (O : Addr → Option Owner) (w : Owner) (v : V) (xs : List D) : Prop :=
  ∃ p vs, v = .ref p ∧ O p = some w ∧ H p = some (.lst vs) ∧ DqAll K F vs xs
def SlotOk (F H : Hp) (O : Addr → Option Owner) (i : Nat) (v : V) : W → Prop
  | .d x => Dq K F v x
  | .own _ xs => OwnAt K F H O (.slot i) v xs
  | .fn f => v = .ref (A f)
def TempOk (F H : Hp) (O : Addr → Option Owner) (σ : St) (k : Nat) (v : V) : R → Prop
  | .d x => Dq K F v x
  | .fresh xs => OwnAt K F H O (.temp k) v xs
  | .slot i => σ[i]? = some (some v)
  | .fn f => v = .ref (A f)
structure Sep (B : Bs) (σ : St) (ρ : Env) (T : Tmps) (H F : Hp) (O : Addr → Option Owner) : Prop where
  fh : ∀ b o, F b = some o → H b = some o
  f0 : ∀ b o, B.F b = some o → F b = some o
  fn : ∀ b, F b ≠ none → B.F b ≠ none ∨ B.H b = none ∨ B.P b
  h0 : ∀ b o, B.H b = some o → ¬ B.P b → H b = some o
  h1 : ∀ b, B.H b ≠ none → mask H b ≠ none
  ho : ∀ b, O b ≠ none → F b = none ∧ (B.H b = none ∨ B.P b) ∧ mask H b ≠ none
  len : σ.length = ρ.length
  slots : ∀ i w, ρ[i]? = some (some w) → ∃ v, σ[i]? = some (some v) ∧ SlotOk K A F H O i v w
  temps : ∀ k r v, T[k]? = some (r, v) → TempOk K A F H O σ k v r
  lent : ∀ (i : Nat) (xs : List D), ρ[i]? = some (some (W.own true xs)) → σ[i]? = B.L[i]?
  nt : ∀ (k : Nat) (xs : List D) (p : Addr), T[k]? = some (.fresh xs, .ref p) → B.H p = none
  ns : ∀ (i : Nat) (xs : List D) (p : Addr), ρ[i]? = some (some (W.own false xs)) → σ[i]? = some (some (.ref p)) → B.N p
  nn : ∀ p, B.H p = none → B.N p
  tb : Tb A.T H F
def At (B : Bs) (σ : St) (ρ : Env) (T : Tmps) (H : Hp) : Prop := ∃ F O, Sep K A B σ ρ T H F O
end

/-! ### data: growing heaps -/
section
variable {K : PySem.W.Frag} {A : Ad} {B : Bs} {σ : St} {ρ : Env} {T : Tmps} {H H' F F' : Hp} {O : Addr → Option Owner}
def Sub (F F' : Hp) : Prop := ∀ b o, F b = some o → F' b = some o
theorem Sub.refl (F : Hp) : Sub F F := fun _ _ h => h
theorem Sub.trans {F F' F'' : Hp} (a : Sub F F') (b : Sub F' F'') : Sub F F'' := fun x o h => b x o (a x o h)
theorem Sub.upd {F : Hp} {p : Addr} {o : HO} (h : F p = none) : Sub F (upd F p o) := fun b u e => by
  rw [upd_ne (ne_of_none e h)]; exact e
theorem rd_sub {a : Addr} {u : HO} (e : Sub F F') (h : Rd F a u) : Rd F' a u := by
  rcases h with h | ⟨o, h⟩
  · exact .inl (e _ _ h)
  · exact .inr ⟨o, e _ _ h⟩
theorem sql_sub {a : Addr} {xs : List V} (e : Sub F F') (h : SqL K F a xs) : SqL K F' a xs := by
  rcases h with h | h
  · exact .inl (rd_sub e h)
  · exact .inr h
theorem sqt_sub {a : Addr} {xs : List V} (e : Sub F F') (h : SqT K F a xs) : SqT K F' a xs := by
  rcases h with h | h
  · exact .inl (rd_sub e h)
  · exact .inr h
mutual
theorem dp_sub (e : Sub F F') : ∀ (x : D) (v : V), Dq K F v x → Dq K F' v x
  | .none, _, h => by cases h; exact .non
  | .bool _, _, h => by cases h; exact .bl _
  | .int _, _, h => by cases h; exact .int _
  | .str _, _, h => by cases h; exact .str _
  | .list xs, _, h => by
    cases h with
    | lst h1 h2 => exact .lst (rd_sub e h1) (dpa_sub e xs _ h2)
  | .tuple xs, _, h => by
    cases h with
    | tup h1 h2 => exact .tup (sqt_sub e h1) (dpa_sub e xs _ h2)
  | .dict _, _, h => by cases h
theorem dpa_sub (e : Sub F F') : ∀ (xs : List D) (vs : List V), DqAll K F vs xs → DqAll K F' vs xs
  | [], _, h => by cases h; exact .nil
  | x :: xs, _, h => by
    cases h with
    | cons h1 h2 => exact .cons (dp_sub e x _ h1) (dpa_sub e xs _ h2)
end
theorem dpa_get : ∀ {vs : List V} {xs : List D} {i : Nat} {x : D}, DqAll K F vs xs → xs[i]? = some x → ∃ v, vs[i]? = some v ∧ Dq K F v x
  | _, _, i, x, .nil, h => by simp at h
  | _, _, 0, x, .cons h1 _, h => by simp at h; subst h; exact ⟨_, rfl, h1⟩
  | _, _, i + 1, x, .cons _ h2, h => by
    obtain ⟨v, a, b⟩ := dpa_get (i := i) (x := x) h2 (by simpa using h)
    exact ⟨v, by simpa using a, b⟩
theorem dpa_get' : ∀ {vs : List V} {xs : List D} {i : Nat} {v : V}, DqAll K F vs xs → vs[i]? = some v → ∃ x, xs[i]? = some x ∧ Dq K F v x
  | _, _, i, x, .nil, h => by simp at h
  | _, _, 0, x, .cons h1 _, h => by simp at h; subst h; exact ⟨_, rfl, h1⟩
  | _, _, i + 1, x, .cons _ h2, h => by
    obtain ⟨v, a, b⟩ := dpa_get' (i := i) (v := x) h2 (by simpa using h)
    exact ⟨v, by simpa using a, b⟩
theorem dpa_len : ∀ {vs : List V} {xs : List D}, DqAll K F vs xs → vs.length = xs.length
  | _, _, .nil => rfl
  | _, _, .cons _ h => by simp [dpa_len h]
theorem dpa_app : ∀ {vs : List V} {xs : List D} {us : List V} {ys : List D}, DqAll K F vs xs → DqAll K F us ys → DqAll K F (vs ++ us) (xs ++ ys)
  | _, _, _, _, .nil, h => h
  | _, _, _, _, .cons a b, h => .cons a (dpa_app b h)
theorem dpa_take : ∀ {vs : List V} {xs : List D} (n : Nat), DqAll K F vs xs → DqAll K F (vs.take n) (xs.take n)
  | _, _, 0, _ => .nil
  | _, _, n + 1, .nil => .nil
  | _, _, n + 1, .cons a b => .cons a (dpa_take n b)
theorem dpa_drop : ∀ {vs : List V} {xs : List D} (n : Nat), DqAll K F vs xs → DqAll K F (vs.drop n) (xs.drop n)
  | _, _, 0, h => h
  | _, _, n + 1, .nil => .nil
  | _, _, n + 1, .cons a b => dpa_drop n b
theorem dpa_set : ∀ {vs : List V} {xs : List D} (n : Nat) {v : V} {x : D}, DqAll K F vs xs → Dq K F v x → DqAll K F (vs.set n v) (xs.set n x)
  | _, _, _, _, _, .nil, _ => .nil
  | _, _, 0, _, _, .cons _ b, h => .cons h b
  | _, _, n + 1, _, _, .cons a b, h => .cons a (dpa_set n b h)

/-! ### steps of the relation -/
theorem ownAt_sub {w : Owner} {v : V} {xs : List D} (e : Sub F F') (h : OwnAt K F H O w v xs) : OwnAt K F' H O w v xs := by
  obtain ⟨p, vs, a, b, c, d⟩ := h
  exact ⟨p, vs, a, b, c, dpa_sub e _ _ d⟩
/-- a change that leaves every owned object as it is, and the owners -/
theorem ownAt_step {O' : Addr → Option Owner} {w : Owner} {v : V} {xs : List D} (e : Sub F F') (k : ∀ p, O p = some w → O' p = some w ∧ ∀ o, H p = some o → H' p = some o) (h : OwnAt K F H O w v xs) : OwnAt K F' H' O' w v xs := by
  obtain ⟨p, vs, a, b, c, d⟩ := h
  exact ⟨p, vs, a, (k p b).1, (k p b).2 _ c, dpa_sub e _ _ d⟩
theorem slotOk_step {O' : Addr → Option Owner} {i : Nat} {v : V} {w : W} (e : Sub F F') (k : ∀ p, O p = some (.slot i) → O' p = some (.slot i) ∧ ∀ o, H p = some o → H' p = some o) (h : SlotOk K A F H O i v w) : SlotOk K A F' H' O' i v w := by
  cases w with
  | d x => exact dp_sub e _ _ h
  | own l xs => exact ownAt_step e k h
  | fn f => exact h
theorem tempOk_step {O' : Addr → Option Owner} {k : Nat} {v : V} {r : R} (e : Sub F F') (q : ∀ p, O p = some (.temp k) → O' p = some (.temp k) ∧ ∀ o, H p = some o → H' p = some o) (h : TempOk K A F H O σ k v r) : TempOk K A F' H' O' σ k v r := by
  cases r with
  | d x => exact dp_sub e _ _ h
  | fresh xs => exact ownAt_step e q h
  | slot i => exact h
  | fn f => exact h

/-- fewer temporaries -/
theorem Sep.drop {T' : Tmps} (S : Sep K A B σ ρ (T ++ T') H F O) : Sep K A B σ ρ T H F O :=
  { S with
    temps := fun k r v h => S.temps k r v (by rw [List.getElem?_append_left (List.getElem?_eq_some_iff.mp h).1]; exact h)
    nt := fun k xs p h => S.nt k xs p (by rw [List.getElem?_append_left (List.getElem?_eq_some_iff.mp h).1]; exact h) }
theorem At.drop {T' : Tmps} (h : At K A B σ ρ (T ++ T') H) : At K A B σ ρ T H := let ⟨F, O, S⟩ := h; ⟨F, O, S.drop⟩
theorem Sep.top {r : R} {v : V} (S : Sep K A B σ ρ (T ++ [(r, v)]) H F O) : TempOk K A F H O σ T.length v r := S.temps _ r v (by simp)
/-- one more temporary that owns nothing -/
theorem Sep.withT {T' : Tmps} (S : Sep K A B σ ρ T H F O) (h : ∀ k r v, T'[k]? = some (r, v) → TempOk K A F H O σ k v r ∧ ∀ xs p, r = .fresh xs → v = .ref p → B.H p = none) : Sep K A B σ ρ T' H F O :=
  { S with temps := fun k r v e => (h k r v e).1, nt := fun k xs p e => (h k _ _ e).2 xs p rfl rfl }
theorem Sep.ofT (S : Sep K A B σ ρ T H F O) {k : Nat} {r : R} {v : V} (h : T[k]? = some (r, v)) : TempOk K A F H O σ k v r ∧ ∀ xs p, r = .fresh xs → v = .ref p → B.H p = none :=
  ⟨S.temps k r v h, fun xs p e1 e2 => by subst e1 e2; exact S.nt k xs p h⟩
theorem Sep.push {r : R} {v : V} (S : Sep K A B σ ρ T H F O) (h : TempOk K A F H O σ T.length v r) (hn : ∀ xs p, r = .fresh xs → v = .ref p → B.H p = none := by intro _ _ z; cases z) : Sep K A B σ ρ (T ++ [(r, v)]) H F O := by
  refine S.withT fun k r' v' e => ?_
  by_cases hk : k < T.length
  · rw [List.getElem?_append_left hk] at e
    exact S.ofT e
  · have hk' : k = T.length := by
      have := (List.getElem?_eq_some_iff.mp e).1
      simp at this; omega
    subst hk'
    simp at e
    obtain ⟨e1, e2⟩ := e
    subst e1 e2
    exact ⟨h, hn⟩
theorem Sep.fresh (S : Sep K A B σ ρ T H F O) {p : Addr} (h : H p = none) : F p = none ∧ O p = none ∧ B.H p = none := by
  refine ⟨?_, ?_, ?_⟩
  · cases e : F p with
    | none => rfl
    | some o => rw [S.fh p o e] at h; cases h
  · cases e : O p with
    | none => rfl
    | some o => exact absurd (mask_none h) (S.ho p (by rw [e]; exact Option.some_ne_none _)).2.2
  · cases e : B.H p with
    | none => rfl
    | some o => exact absurd (mask_none h) (S.h1 p (by rw [e]; exact Option.some_ne_none _))
theorem upd_ne_none {H : Hp} {p b : Addr} {o : HO} (n : nonT o) (h : mask H b ≠ none) : mask (upd H p o) b ≠ none := by
  rw [mask_upd n]
  unfold upd
  split
  · exact Option.some_ne_none _
  · exact h
theorem sub_upd2 {p : Addr} {o : HO} (h : Sub F H) : Sub (upd F p o) (upd H p o) := fun b u e => by
  by_cases hb : b = p
  · subst hb; rw [upd_same] at e ⊢; exact e
  · rw [upd_ne hb] at e ⊢; exact h b u e
/-- a new object that nobody will change -/
theorem Sep.laid (S : Sep K A B σ ρ T H F O) {p : Addr} {o : HO} (h : H p = none) (nt : nonT o) : Sep K A B σ ρ T (upd H p o) (upd F p o) O := by
  obtain ⟨f, ow, b⟩ := S.fresh h
  have up : ∀ q w, O q = some w → O q = some w ∧ ∀ u, H q = some u → upd H p o q = some u := fun q w e => ⟨e, fun u eu => by rw [upd_ne (fun z => by rw [z, h] at eu; cases eu)]; exact eu⟩
  refine ⟨sub_upd2 S.fh, fun b' u e => Sub.upd f _ _ (S.f0 b' u e), fun q e => ?_, fun q u e n => ?_, fun q e => upd_ne_none nt (S.h1 q e), fun q e => ?_, S.len, fun i w e => ?_, fun k r v e => ?_, S.lent, S.nt, S.ns, S.nn, (S.tb.new h).frz nt⟩
  · by_cases hq : q = p
    · subst hq; exact .inr (.inl b)
    · rw [upd_ne hq] at e; exact S.fn q e
  · rw [upd_ne (fun z => by rw [z, b] at e; cases e)]
    exact S.h0 q u e n
  · have hq : q ≠ p := fun z => by rw [z, ow] at e; exact e rfl
    rw [upd_ne hq, mask_upd nt, upd_ne hq]
    exact S.ho q e
  · obtain ⟨v, a, c⟩ := S.slots i w e
    exact ⟨v, a, slotOk_step (Sub.upd f) (fun q e => up q _ e) c⟩
  · exact tempOk_step (Sub.upd f) (fun q e => up q _ e) (S.temps k r v e)
def setO (O : Addr → Option Owner) (p : Addr) (w : Option Owner) : Addr → Option Owner := fun b => if b = p then w else O b
theorem setO_same {p : Addr} {w : Option Owner} : setO O p w p = w := if_pos rfl
theorem setO_ne {p q : Addr} {w : Option Owner} (h : q ≠ p) : setO O p w q = O q := if_neg h
/-- a new list of one's own, the topmost temporary -/
theorem Sep.newList (S : Sep K A B σ ρ T H F O) {p : Addr} {vs : List V} {xs : List D} (h : H p = none) (hd : DqAll K F vs xs) :
    Sep K A B σ ρ (T ++ [(.fresh xs, .ref p)]) (upd H p (.lst vs)) F (setO O p (some (.temp T.length))) := by
  obtain ⟨f, ow, b⟩ := S.fresh h
  have up : ∀ q w, O q = some w → setO O p (some (.temp T.length)) q = some w ∧ ∀ u, H q = some u → upd H p (.lst vs) q = some u := fun q w e => by
    have hq : q ≠ p := fun z => by rw [z, ow] at e; cases e
    exact ⟨by rw [setO_ne hq]; exact e, fun u eu => by rw [upd_ne hq]; exact eu⟩
  have S1 : Sep K A B σ ρ T (upd H p (.lst vs)) F (setO O p (some (.temp T.length))) := by
    refine ⟨fun q u e => ?_, S.f0, S.fn, fun q u e n => ?_, fun q e => upd_ne_none nonT_lst (S.h1 q e), fun q e => ?_, S.len, fun i w e => ?_, fun k r v e => ?_, S.lent, S.nt, S.ns, S.nn, S.tb.new h⟩
    · rw [upd_ne (fun z => by rw [z, f] at e; cases e)]; exact S.fh q u e
    · rw [upd_ne (fun z => by rw [z, b] at e; cases e)]; exact S.h0 q u e n
    · by_cases hq : q = p
      · subst hq; exact ⟨f, .inl b, by rw [mask_upd nonT_lst, upd_same]; exact Option.some_ne_none _⟩
      · rw [setO_ne hq] at e; rw [mask_upd nonT_lst, upd_ne hq]; exact S.ho q e
    · obtain ⟨v, a, c⟩ := S.slots i w e
      exact ⟨v, a, slotOk_step (Sub.refl _) (fun q e => up q _ e) c⟩
    · exact tempOk_step (Sub.refl _) (fun q e => up q _ e) (S.temps k r v e)
  exact S1.push ⟨p, vs, rfl, setO_same, upd_same, hd⟩ fun _ q _ e => by cases e; exact b
/-- what is owned is frozen: nobody will change it any more; w: whose it was -/
theorem Sep.freezeAddr {p : Addr} {w : Owner} {vs : List V} (S : Sep K A B σ ρ T H F O) (ho : O p = some w) (hp : H p = some (.lst vs))
    (ρ' : Env) (T' : Tmps) (hl : ρ'.length = ρ.length) (hL : ∀ (i : Nat) (xs : List D), ρ'[i]? = some (some (W.own true xs)) → ρ[i]? = some (some (W.own true xs))) (hs : ∀ i x, ρ'[i]? = some (some x) → ρ[i]? = some (some x) ∧ w ≠ .slot i ∨ ∃ v, σ[i]? = some (some v) ∧ SlotOk K A (upd F p (.lst vs)) H (setO O p none) i v x)
    (hn : ∀ (i : Nat) (xs : List D), ρ'[i]? = some (some (W.own false xs)) → ρ[i]? = some (some (W.own false xs))) (htn : ∀ (k : Nat) (xs : List D) (q : Addr), T'[k]? = some (.fresh xs, .ref q) → T[k]? = some (.fresh xs, .ref q))
    (ht : ∀ k r v, T'[k]? = some (r, v) → T[k]? = some (r, v) ∧ w ≠ .temp k ∨ TempOk K A (upd F p (.lst vs)) H (setO O p none) σ k v r) :
    Sep K A B σ ρ' T' H (upd F p (.lst vs)) (setO O p none) := by
  obtain ⟨f, b, _⟩ := S.ho p (by rw [ho]; exact Option.some_ne_none _)
  have up : ∀ q w', w' ≠ w → O q = some w' → setO O p none q = some w' ∧ ∀ u, H q = some u → H q = some u := fun q w' hw e => by
    have hq : q ≠ p := fun z => by rw [z, ho] at e; exact hw (Option.some.inj e).symm
    exact ⟨by rw [setO_ne hq]; exact e, fun u eu => eu⟩
  refine ⟨fun q u e => ?_, fun q u e => Sub.upd f _ _ (S.f0 q u e), fun q e => ?_, S.h0, S.h1, fun q e => ?_, S.len.trans hl.symm, fun i x e => ?_, fun k r v e => ?_, fun i xs e => S.lent i xs (hL i xs e), fun k xs q e => S.nt k xs q (htn k xs q e), fun i xs q e e2 => S.ns i xs q (hn i xs e) e2, S.nn, S.tb.frz nonT_lst⟩
  · by_cases hq : q = p
    · subst hq; rw [upd_same] at e; rw [← e]; exact hp
    · rw [upd_ne hq] at e; exact S.fh q u e
  · by_cases hq : q = p
    · subst hq; exact .inr b
    · rw [upd_ne hq] at e; exact S.fn q e
  · have hq : q ≠ p := fun z => by subst z; rw [setO_same] at e; exact e rfl
    rw [setO_ne hq] at e
    rw [upd_ne hq]
    exact S.ho q e
  · rcases hs i x e with ⟨h1, h2⟩ | h
    · obtain ⟨v, a, c⟩ := S.slots i x h1
      exact ⟨v, a, slotOk_step (Sub.upd f) (fun q e => up q _ (Ne.symm h2) e) c⟩
    · exact h
  · rcases ht k r v e with ⟨h1, h2⟩ | h
    · exact tempOk_step (Sub.upd f) (fun q e => up q _ (Ne.symm h2) e) (S.temps k r v h1)
    · exact h
theorem dp_of_lst {p : Addr} {vs : List V} {xs : List D} (f : F p = none) (h : DqAll K F vs xs) : Dq K (upd F p (.lst vs)) (.ref p) (.list xs) :=
  .lst (.inl upd_same) (dpa_sub (Sub.upd f) _ _ h)
end
end Mn
set_option Elab.async false
set_option linter.all false
set_option maxRecDepth 100000
set_option maxHeartbeats 1000000
namespace Mn
open PySem L2

/-- the data that a result is, looked at -/
def R.peek (ρ : Env) : R → Option D
  | .d x => some x
  | .fresh xs => some (.list xs)
  | .slot i => match ρ[i]? with
    | some (some (W.own _ xs)) => some (.list xs)
    | some (some (.d x)) => some x
    | _ => none
  | .fn _ => none
/-- the data that a result becomes: kept for good -/
def R.keep (ρ : Env) : R → Option (D × Env)
  | .d x => some (x, ρ)
  | .fresh xs => some (.list xs, ρ)
  | .slot i => match ρ[i]? with
    | some (some (W.own false xs)) => some (.list xs, ρ.set i (some (.d (.list xs))))
    | some (some (.d x)) => some (x, ρ)
    | _ => none
  | .fn _ => none
def R.isSlot (i : Nat) : R → Bool
  | .slot j => decide (j = i)
  | _ => false
def keepAll : List R → Env → Option (List D × Env)
  | [], ρ => some ([], ρ)
  | r :: rs, ρ => match r.keep ρ with
    | none => none
    | some (x, ρ1) => match keepAll rs ρ1 with
      | none => none
      | some (xs, ρ2) => some (x :: xs, ρ2)
/-- a slot takes a result -/
def isFree (ρ : Env) (i : Nat) : Bool := match ρ[i]? with
  | some (some (W.own true _)) => false
  | none => false
  | _ => true
def R.put (i : Nat) (ρ : Env) : R → Option Env
  | .d x => some (ρ.set i (some (.d x)))
  | .fresh xs => some (ρ.set i (some (W.own false xs)))
  | .fn f => some (ρ.set i (some (.fn f)))
  | .slot j => match (R.slot j).keep ρ with
    | none => none
    | some (x, ρ1) => some (ρ1.set i (some (.d x)))
def R.into (i : Nat) (ρ : Env) (r : R) : Option Env := if isFree ρ i then r.put i ρ else none

section
variable {K : PySem.W.Frag} {A : Ad} {B : Bs} {σ : St} {ρ ρ' : Env} {T : Tmps} {H H' F F' : Hp} {O O' : Addr → Option Owner}
theorem Sep.peek (S : Sep K A B σ ρ T H F O) {k : Nat} {r : R} {v : V} {x : D} (h : T[k]? = some (r, v)) (e : r.peek ρ = some x) : Dq K H v x := by
  have t := S.temps k r v h
  have own : ∀ w xs, OwnAt K F H O w v xs → Dq K H v (.list xs) := fun w xs ⟨p, vs, a, _, c, d⟩ => by
    subst a
    exact .lst (.inl c) (dpa_sub S.fh _ _ d)
  cases r with
  | d y => cases e; exact dp_sub S.fh _ _ t
  | fresh xs => cases e; exact own _ _ t
  | fn f => cases e
  | slot i =>
    cases q : ρ[i]? with
    | none => simp only [R.peek, q] at e; cases e
    | some w =>
      simp only [R.peek, q] at e
      cases w with
      | none => cases e
      | some w =>
        obtain ⟨v', h1, h2⟩ := S.slots i w q
        have hv : v' = v := by
          have t' : σ[i]? = some (some v) := t
          rw [t'] at h1
          exact (Option.some.inj (Option.some.inj h1)).symm
        subst hv
        cases w with
        | d y => cases e; exact dp_sub S.fh _ _ h2
        | own l xs => cases e; exact own _ _ h2
        | fn f => cases e
theorem getElem?_set_cases {α : Type} {l : List α} {i j : Nat} {a b : α} (h : (l.set i a)[j]? = some b) : (j = i ∧ b = a ∧ i < l.length) ∨ (j ≠ i ∧ l[j]? = some b) := by
  by_cases hj : j = i
  · subst hj
    by_cases hl : j < l.length
    · rw [List.getElem?_set_self hl] at h
      exact .inl ⟨rfl, (Option.some.inj h).symm, hl⟩
    · rw [List.getElem?_eq_none (by simpa using hl)] at h; cases h
  · rw [List.getElem?_set_ne (Ne.symm hj)] at h
    exact .inr ⟨hj, h⟩
/-- a temporary is kept for good -/
theorem Sep.keep (S : Sep K A B σ ρ T H F O) {k : Nat} {r : R} {v : V} {x : D} (h : T[k]? = some (r, v)) (e : r.keep ρ = some (x, ρ')) :
    ∃ F' O', Sep K A B σ ρ' (T.set k (.d x, v)) H F' O' ∧ Sub F F' ∧ (∀ q i, O q = some (.slot i) → ρ'[i]? = ρ[i]? → O' q = some (.slot i)) := by
  have t := S.temps k r v h
  have plain : ∀ y, Dq K F v y → Sep K A B σ ρ (T.set k (.d y, v)) H F O := fun y hy => S.withT fun j r' v' e' => by
    rcases getElem?_set_cases e' with ⟨_, e2, _⟩ | ⟨_, e2⟩
    · cases e2; exact ⟨hy, fun _ _ z => nomatch z⟩
    · exact S.ofT e2
  cases r with
  | d y => cases e; exact ⟨F, O, plain _ t, Sub.refl _, fun _ _ h _ => h⟩
  | fn f => cases e
  | fresh xs =>
    cases e
    obtain ⟨p, vs, a, b, c, d⟩ := t
    subst a
    have f := (S.ho p (by rw [b]; exact Option.some_ne_none _)).1
    refine ⟨_, _, S.freezeAddr b c ρ (T.set k (R.d (.list xs), V.ref p)) rfl (fun _ _ e => e) (fun i x e => .inl ⟨e, fun z => nomatch z⟩) (fun _ _ e => e) (fun j ys q e' => ?_) (fun j r' v' e' => ?_), Sub.upd f, fun q i hq _ => ?_⟩
    · rcases getElem?_set_cases e' with ⟨_, e2, _⟩ | ⟨_, e2⟩
      · cases e2
      · exact e2
    · rcases getElem?_set_cases e' with ⟨e1, e2, _⟩ | ⟨e1, e2⟩
      · cases e2
        exact .inr (dp_of_lst f d)
      · exact .inl ⟨e2, fun z => e1 (Owner.temp.inj z).symm⟩
    · rw [setO_ne (fun z => by rw [z, b] at hq; cases hq)]; exact hq
  | slot i =>
    cases q : ρ[i]? with
    | none => simp only [R.keep, q] at e; cases e
    | some w =>
      simp only [R.keep, q] at e
      cases w with
      | none => cases e
      | some w =>
        obtain ⟨v', h1, h2⟩ := S.slots i w q
        have hv : v' = v := by
          have t' : σ[i]? = some (some v) := t
          rw [t'] at h1
          exact (Option.some.inj (Option.some.inj h1)).symm
        subst hv
        cases w with
        | fn f => cases e
        | d y => cases e; exact ⟨F, O, plain _ h2, Sub.refl _, fun _ _ h _ => h⟩
        | own l xs =>
          cases l with
          | true => cases e
          | false =>
            cases e
            obtain ⟨p, vs, a, b, c, d⟩ := h2
            subst a
            have f := (S.ho p (by rw [b]; exact Option.some_ne_none _)).1
            refine ⟨_, _, S.freezeAddr b c (ρ.set i (some (W.d (.list xs)))) (T.set k (R.d (.list xs), V.ref p)) (by simp) (fun j ys e' => ?_) (fun j x e' => ?_) (fun j ys e' => ?_) (fun j ys q e' => ?_) (fun j r' v' e' => ?_), Sub.upd f, fun q' i' hq hr => ?_⟩
            · rcases getElem?_set_cases e' with ⟨_, e2, _⟩ | ⟨_, e2⟩
              · cases e2
              · exact e2
            · rcases getElem?_set_cases e' with ⟨e1, e2, _⟩ | ⟨e1, e2⟩
              · subst e1
                cases e2
                exact .inr ⟨_, t, dp_of_lst f d⟩
              · exact .inl ⟨e2, fun z => e1 (Owner.slot.inj z).symm⟩
            · rcases getElem?_set_cases e' with ⟨_, e2, _⟩ | ⟨_, e2⟩
              · cases e2
              · exact e2
            · rcases getElem?_set_cases e' with ⟨_, e2, _⟩ | ⟨_, e2⟩
              · cases e2
              · exact e2
            · rcases getElem?_set_cases e' with ⟨e1, e2, _⟩ | ⟨e1, e2⟩
              · cases e2
                exact .inr (dp_of_lst f d)
              · exact .inl ⟨e2, fun z => nomatch z⟩
            · have hq' : q' ≠ p := fun z => by
                rw [z, b] at hq
                cases hq
                rw [q, List.getElem?_set_self (List.getElem?_eq_some_iff.mp q).1] at hr
                cases hr
              rw [setO_ne hq']; exact hq
theorem keep_len {r : R} {x : D} (e : r.keep ρ = some (x, ρ')) : ρ'.length = ρ.length := by
  cases r with
  | d y => cases e; rfl
  | fn f => cases e
  | fresh xs => cases e; rfl
  | slot i =>
    simp only [R.keep] at e
    split at e <;> first | (cases e; simp) | cases e
theorem set_at_len {α : Type} {l m : List α} {a b : α} : (l ++ a :: m).set l.length b = l ++ b :: m := by simp
/-- several -/
theorem Sep.keepAll : ∀ {rs : List R} {vs : List V} {T : Tmps} {ρ ρ' : Env} {xs : List D} {F : Hp} {O : Addr → Option Owner}, Sep K A B σ ρ (T ++ rs.zip vs) H F O → vs.length = rs.length → Mn.keepAll rs ρ = some (xs, ρ') →
    ∃ F' O', Sep K A B σ ρ' (T ++ (xs.map R.d).zip vs) H F' O' ∧ Sub F F' ∧ DqAll K F' vs xs ∧ (∀ q i, O q = some (.slot i) → ρ'[i]? = ρ[i]? → (∃ w, ρ[i]? = some (some w) ∧ ∃ l ys, w = W.own l ys) → O' q = some (.slot i))
  | [], vs, T, ρ, ρ', xs, F, O, S, hl, e => by
    cases e
    cases vs with
    | nil => exact ⟨F, O, by simpa using S, Sub.refl _, .nil, fun _ _ h _ _ => h⟩
    | cons _ _ => cases hl
  | r :: rs, [], T, ρ, ρ', xs, F, O, S, hl, e => by cases hl
  | r :: rs, v :: vs, T, ρ, ρ', xs, F, O, S, hl, e => by
    unfold Mn.keepAll at e
    cases q : r.keep ρ with
    | none => rw [q] at e; cases e
    | some z =>
      obtain ⟨x, ρ1⟩ := z
      rw [q] at e
      cases q2 : Mn.keepAll rs ρ1 with
      | none => simp only [q2] at e; cases e
      | some z2 =>
        obtain ⟨xs2, ρ2⟩ := z2
        simp only [q2] at e
        cases e
        have S' : Sep K A B σ ρ (T ++ (r, v) :: rs.zip vs) H F O := S
        obtain ⟨F1, O1, S1, u1, k1⟩ := S'.keep (k := T.length) (r := r) (v := v) (by simp) q
        rw [set_at_len] at S1
        have S1' : Sep K A B σ ρ1 ((T ++ [(R.d x, v)]) ++ rs.zip vs) H F1 O1 := by simpa using S1
        obtain ⟨F2, O2, S2, u2, dd, k2⟩ := Sep.keepAll (T := T ++ [(R.d x, v)]) S1' (by simpa using hl) q2
        refine ⟨F2, O2, by simpa using S2, u1.trans u2, .cons ?_ dd, fun p i hp hr ⟨w, hw, l, ys, hy⟩ => ?_⟩
        · exact S2.temps T.length (.d x) v (by simp)
        · -- the slot i is owned all the way
          subst hy
          have mono : ∀ {r : R} {ρ ρ' : Env} {x : D} {w : W}, r.keep ρ = some (x, ρ') → ∀ (i : Nat), ρ'[i]? = some (some (W.own l ys)) → ρ[i]? = some (some (W.own l ys)) := by
            intro r ρ ρ' x w e i h
            cases r with
            | d y => cases e; exact h
            | fn f => cases e
            | fresh xs => cases e; exact h
            | slot j =>
              simp only [R.keep] at e
              split at e
              · cases e
                rcases getElem?_set_cases h with ⟨_, e2, _⟩ | ⟨_, e2⟩
                · cases e2
                · exact e2
              · cases e; exact h
              · cases e
          have monoA : ∀ {rs : List R} {ρ ρ' : Env} {xs : List D}, Mn.keepAll rs ρ = some (xs, ρ') → ∀ (i : Nat), ρ'[i]? = some (some (W.own l ys)) → ρ[i]? = some (some (W.own l ys)) := by
            intro rs
            induction rs with
            | nil => intro ρ ρ' xs e i h; cases e; exact h
            | cons r rs ih =>
              intro ρ ρ' xs e i h
              unfold Mn.keepAll at e
              cases q : r.keep ρ with
              | none => rw [q] at e; cases e
              | some z =>
                obtain ⟨x, ρ1⟩ := z
                rw [q] at e
                cases q2 : Mn.keepAll rs ρ1 with
                | none => simp only [q2] at e; cases e
                | some z2 =>
                  obtain ⟨xs2, ρ2⟩ := z2
                  simp only [q2] at e
                  cases e
                  exact mono (w := .own l ys) q i (ih q2 i h)
          have h1 : ρ1[i]? = some (some (W.own l ys)) := monoA q2 i (hr.trans hw)
          exact k2 p i (k1 p i hp (h1.trans hw.symm)) ((hr.trans hw).trans h1.symm) ⟨_, h1, l, ys, rfl⟩
end
end Mn
set_option Elab.async false
set_option linter.all false
set_option maxRecDepth 100000
set_option maxHeartbeats 1000000
namespace Mn
open PySem L2
section
variable {K : PySem.W.Frag} {A : Ad} {B : Bs} {σ σ' : St} {ρ ρ' : Env} {T : Tmps} {H H' F F' : Hp} {O O' : Addr → Option Owner}
/-- no temporary stands for a slot -/
def NoSlot (T : Tmps) : Prop := ∀ (k i : Nat) (v : V), T[k]? ≠ some (.slot i, v)
theorem NoSlot.nil : NoSlot [] := fun k i v h => by simp at h
theorem temp_set {i k : Nat} {v v' : V} {r : R} (hT : ∀ j, r ≠ .slot j) (h : TempOk K A F H O σ k v r) : TempOk K A F H O σ' k v r := by
  cases r with
  | slot j => exact absurd rfl (hT j)
  | d x => exact h
  | fresh xs => exact h
  | fn f => exact h
theorem notLent {i : Nat} {r : R} (e : r.into i ρ = some ρ') : i < ρ.length ∧ (∀ xs, ρ[i]? ≠ some (some (W.own true xs))) ∧ r.put i ρ = some ρ' := by
  unfold R.into at e
  split at e
  · rename_i hf
    cases q : ρ[i]? with
    | none => simp only [isFree, q] at hf; cases hf
    | some w =>
      refine ⟨(List.getElem?_eq_some_iff.mp q).1, fun xs h => ?_, e⟩
      cases h
      simp only [isFree, q] at hf
      cases hf
  · cases e
/-- a slot is stored, nothing new is owned -/
theorem Sep.setD (S : Sep K A B σ ρ T H F O) (hT : NoSlot T) {i : Nat} {v : V} {w : W} (hi : i < ρ.length) (nl : ∀ xs, ρ[i]? ≠ some (some (W.own true xs))) (hw : SlotOk K A F H O i v w) (nw : ∀ xs, w ≠ W.own true xs) (nf : ∀ xs p, w = W.own false xs → v = .ref p → B.N p := by intro _ _ z; cases z) :
    Sep K A B (σ.set i (some v)) (ρ.set i (some w)) T H F O := by
  refine ⟨S.fh, S.f0, S.fn, S.h0, S.h1, S.ho, by simp [S.len], fun j x e => ?_, fun k r u e => ?_, fun j xs e => ?_, S.nt, fun j xs p e e3 => ?_, S.nn, S.tb⟩
  · rcases getElem?_set_cases e with ⟨e1, e2, _⟩ | ⟨e1, e2⟩
    · subst e1; cases e2
      exact ⟨v, List.getElem?_set_self (by rw [S.len]; exact hi), hw⟩
    · obtain ⟨u, a, c⟩ := S.slots j x e2
      exact ⟨u, by rw [List.getElem?_set_ne (Ne.symm e1)]; exact a, c⟩
  · exact temp_set (i := i) (v' := v) (fun j z => hT k j u (by rw [← z]; exact e)) (S.temps k r u e)
  · rcases getElem?_set_cases e with ⟨e1, e2, _⟩ | ⟨e1, e2⟩
    · cases e2; exact absurd rfl (nw xs)
    · rw [List.getElem?_set_ne (Ne.symm e1)]
      exact S.lent j xs e2
  · rcases getElem?_set_cases e with ⟨e1, e2, _⟩ | ⟨e1, e2⟩
    · subst e1; cases e2
      rw [List.getElem?_set_self (by rw [S.len]; exact hi)] at e3
      cases e3
      exact nf xs p rfl rfl
    · rw [List.getElem?_set_ne (Ne.symm e1)] at e3
      exact S.ns j xs p e2 e3
/-- an owner hands on -/
theorem Sep.reown (S : Sep K A B σ ρ T H F O) {p : Addr} {k i : Nat} (ho : O p = some (.temp k)) (hk : ∀ r v xs, T[k]? = some (r, v) → r ≠ .fresh xs) :
    Sep K A B σ ρ T H F (setO O p (some (.slot i))) := by
  have up : ∀ q w, w ≠ .temp k → O q = some w → setO O p (some (.slot i)) q = some w ∧ ∀ u, H q = some u → H q = some u := fun q w hw e => by
    have hq : q ≠ p := fun z => by rw [z, ho] at e; exact hw (Option.some.inj e).symm
    exact ⟨by rw [setO_ne hq]; exact e, fun u eu => eu⟩
  refine ⟨S.fh, S.f0, S.fn, S.h0, S.h1, fun q e => ?_, S.len, fun j x e => ?_, fun j r u e => ?_, S.lent, S.nt, S.ns, S.nn, S.tb⟩
  · by_cases hq : q = p
    · subst hq; exact S.ho q (by rw [ho]; exact Option.some_ne_none _)
    · rw [setO_ne hq] at e; exact S.ho q e
  · obtain ⟨u, a, c⟩ := S.slots j x e
    exact ⟨u, a, slotOk_step (Sub.refl _) (fun q e => up q _ (fun z => nomatch z) e) c⟩
  · have t := S.temps j r u e
    by_cases hj : j = k
    · subst hj
      cases r with
      | d x => exact t
      | slot j => exact t
      | fn f => exact t
      | fresh xs => exact absurd rfl (hk _ _ xs e)
    · exact tempOk_step (Sub.refl _) (fun q e => up q _ (fun z => hj (Owner.temp.inj z)) e) t
theorem Sep.into {r : R} {v : V} (S : Sep K A B σ ρ (T ++ [(r, v)]) H F O) (hT : NoSlot T) {i : Nat} (e : r.into i ρ = some ρ') : At K A B (σ.set i (some v)) ρ' T H := by
  obtain ⟨hi, nl, e'⟩ := notLent e
  have t := S.top
  cases r with
  | d x => cases e'; exact ⟨F, O, S.drop.setD hT hi nl t (fun _ z => nomatch z)⟩
  | fn f => cases e'; exact ⟨F, O, S.drop.setD hT hi nl t (fun _ z => nomatch z)⟩
  | fresh xs =>
    cases e'
    obtain ⟨p, vs, a, b, c, d⟩ := t
    subst a
    have S1 := S.drop.reown (i := i) b (fun r u ys z => absurd (List.getElem?_eq_some_iff.mp z).1 (Nat.lt_irrefl _))
    exact ⟨F, _, S1.setD hT hi nl (w := W.own false xs) ⟨p, vs, rfl, setO_same, c, d⟩ (fun _ z => nomatch z) fun _ q _ e => by
      have e' : p = q := V.ref.inj e
      rw [← e']
      exact S.nn p (S.nt T.length xs p (by simp))⟩
  | slot j =>
    simp only [R.put] at e'
    cases q : (R.slot j).keep ρ with
    | none => simp only [q] at e'; cases e'
    | some z =>
      obtain ⟨x, ρ1⟩ := z
      simp only [q] at e'
      cases e'
      obtain ⟨F1, O1, S1, _, _⟩ := S.keep (k := T.length) (r := .slot j) (v := v) (by simp) q
      have S1' : Sep K A B σ ρ1 (T ++ [(R.d x, v)]) H F1 O1 := by simpa using S1
      have hl := keep_len q
      refine ⟨F1, O1, S1'.drop.setD hT (by rw [hl]; exact hi) (fun xs h => ?_) (w := W.d x) S1'.top (fun _ z => nomatch z)⟩
      refine nl xs ?_
      simp only [R.keep] at q
      split at q
      · cases q
        rcases getElem?_set_cases h with ⟨_, e2, _⟩ | ⟨_, e2⟩
        · cases e2
        · exact e2
      · cases q; exact h
      · cases q
/-- a list of one's own changes: slot i holds it -/
theorem Sep.mutate (S : Sep K A B σ ρ T H F O) {i : Nat} {l : Bool} {xs ys : List D} {p : Addr} {vs us : List V} (h : ρ[i]? = some (some (W.own l xs))) (hσ : σ[i]? = some (some (.ref p))) (hH : H p = some (.lst vs)) (hd : DqAll K F us ys) :
    Sep K A B σ (ρ.set i (some (W.own l ys))) T (upd H p (.lst us)) F O := by
  obtain ⟨v, a, p', vs', e1, e2, e3, e4⟩ := S.slots i _ h
  subst e1
  rw [hσ] at a
  cases a
  obtain ⟨f, b, _⟩ := S.ho p (by rw [e2]; exact Option.some_ne_none _)
  have up : ∀ q w, w ≠ .slot i → O q = some w → O q = some w ∧ ∀ u, H q = some u → upd H p (.lst us) q = some u := fun q w hw e => by
    have hq : q ≠ p := fun z => by rw [z, e2] at e; exact hw (Option.some.inj e).symm
    exact ⟨e, fun u eu => by rw [upd_ne hq]; exact eu⟩
  refine ⟨fun q u e => ?_, S.f0, S.fn, fun q u e n => ?_, fun q e => upd_ne_none nonT_lst (S.h1 q e), fun q e => ⟨(S.ho q e).1, (S.ho q e).2.1, upd_ne_none nonT_lst (S.ho q e).2.2⟩, by simp [S.len], fun j x e => ?_, fun k r u e => ?_, fun j zs e => ?_, S.nt, fun j zs q e e7 => ?_, S.nn, S.tb.mut hH⟩
  · rw [upd_ne (fun z => by rw [z, f] at e; cases e)]; exact S.fh q u e
  · rw [upd_ne (fun z => ?_)]
    · exact S.h0 q u e n
    · subst z
      rcases b with b | b
      · rw [b] at e; cases e
      · exact n b
  · rcases getElem?_set_cases e with ⟨e5, e6, _⟩ | ⟨e5, e6⟩
    · subst e5; cases e6
      exact ⟨_, hσ, p, us, rfl, e2, upd_same, hd⟩
    · obtain ⟨u, a, c⟩ := S.slots j x e6
      exact ⟨u, a, slotOk_step (Sub.refl _) (fun q e => up q _ (fun z => e5 (Owner.slot.inj z)) e) c⟩
  · exact tempOk_step (Sub.refl _) (fun q e => up q _ (fun z => nomatch z) e) (S.temps k r u e)
  · rcases getElem?_set_cases e with ⟨e5, e6, _⟩ | ⟨e5, e6⟩
    · subst e5; cases e6; exact S.lent j xs h
    · exact S.lent j zs e6
  · rcases getElem?_set_cases e with ⟨e5, e6, _⟩ | ⟨e5, e6⟩
    · subst e5; cases e6; exact S.ns j xs q h e7
    · exact S.ns j zs q e6 e7
/-- back from a part that ran by itself (a comprehension, a call) -/
theorem Sep.resume {P1 N1 : Addr → Prop} {L1 : St} {r : R} {v : V} {m : Nat → Nat} (S : Sep K A B σ ρ T H F O) (Sb : Sep K A (subB H F P1 L1 N1) σ' ρ' [(r, v)] H' F' O') (hP : ∀ b, P1 b → ∃ i, O b = some (.slot i)) (hr : ∀ i, r ≠ .slot i)
    {ρ2 : Env} (hl : ρ2.length = ρ.length)
    (hs : ∀ (j : Nat) (x : W), ρ2[j]? = some (some x) →
      ((ρ[j]? = some (some x) ∧ ((∀ l xs, x ≠ W.own l xs) ∨ ∀ p, O p = some (.slot j) → ¬ P1 p)) ∨
       (∃ i : Nat, ρ'[i]? = some (some x) ∧ (∀ l xs, x ≠ W.own l xs) ∧ ∃ u, σ'[i]? = some (some u) ∧ σ[j]? = some (some u)) ∨
       (∃ (i : Nat) (l l' : Bool) (xs ys : List D), x = W.own l ys ∧ ρ'[i]? = some (some (W.own l' ys)) ∧ ρ[j]? = some (some (W.own l xs)) ∧ m i = j ∧ ∃ u, σ'[i]? = some (some u) ∧ σ[j]? = some (some u) ∧ ∀ p, u = .ref p → P1 p))) :
    At K A B σ ρ2 (T ++ [(r, v)]) H' := by
  classical
  have hsub : Sub F F' := Sb.f0
  -- the new owners
  let O2 : Addr → Option Owner := fun b => match O b with
    | some (.temp k) => some (.temp k)
    | some (.slot j) => if P1 b then (match O' b with | some (.slot i) => some (.slot (m i)) | _ => none) else some (.slot j)
    | none => match O' b with
      | some (.temp _) => some (.temp T.length)
      | _ => none
  have o2t : ∀ {b k}, O b = some (.temp k) → O2 b = some (.temp k) := fun {b k} h => by show (match O b with | some (.temp k) => _ | some (.slot j) => _ | none => _) = _; rw [h]
  have o2s : ∀ {b j}, O b = some (.slot j) → ¬ P1 b → O2 b = some (.slot j) := fun {b j} h n => by show (match O b with | some (.temp k) => _ | some (.slot j) => _ | none => _) = _; rw [h]; exact if_neg n
  have o2p : ∀ {b j i}, O b = some (.slot j) → P1 b → O' b = some (.slot i) → O2 b = some (.slot (m i)) := fun {b j i} h n h' => by
    show (match O b with | some (.temp k) => _ | some (.slot j) => _ | none => _) = _
    rw [h]
    show (if P1 b then _ else _) = _
    rw [if_pos n, h']
  have o2n : ∀ {b k}, O b = none → O' b = some (.temp k) → O2 b = some (.temp T.length) := fun {b k} h h' => by show (match O b with | some (.temp k) => _ | some (.slot j) => _ | none => _) = _; rw [h]; show (match O' b with | some (.temp _) => _ | _ => _) = _; rw [h']
  -- what O2 owns
  have o2of : ∀ b, O2 b ≠ none → (O b ≠ none ∧ ¬ P1 b) ∨ O' b ≠ none := fun b h => by
    have h' : (match O b with
      | some (.temp k) => some (Owner.temp k)
      | some (.slot j) => if P1 b then (match O' b with | some (.slot i) => some (.slot (m i)) | _ => none) else some (.slot j)
      | none => match O' b with
        | some (.temp _) => some (.temp T.length)
        | _ => none) ≠ none := h
    cases q : O b with
    | none =>
      rw [q] at h'
      refine .inr fun z => ?_
      simp only [z] at h'
      exact h' rfl
    | some w =>
      cases w with
      | temp k =>
        refine .inl ⟨Option.some_ne_none _, fun z => ?_⟩
        obtain ⟨i, hi⟩ := hP b z
        rw [q] at hi; cases hi
      | slot j =>
        rw [q] at h'
        by_cases hp : P1 b
        · simp only [hp, if_true] at h'
          refine .inr fun z => ?_
          simp only [z] at h'
          exact h' rfl
        · exact .inl ⟨Option.some_ne_none _, hp⟩
  have keepH : ∀ {b o}, ¬ P1 b → nonT o → H b = some o → H' b = some o := fun {b o} n t h => Sb.h0 b o (mask_of h t) n
  have noF : ∀ {b}, ¬ P1 b → O b ≠ none → F' b = none := fun {b} n h => by
    cases e : F' b with
    | none => rfl
    | some o =>
      rcases Sb.fn b (by rw [e]; exact Option.some_ne_none _) with z | z | z
      · exact absurd (S.ho b h).1 z
      · exact absurd z (S.ho b h).2.2
      · exact absurd z n
  have temp1 : ∀ {k u x}, OwnAt K F H O (.temp k) u x → OwnAt K F' H' O2 (.temp k) u x := fun {k u x} ⟨p, vs, a, b, c, d⟩ => by
    have np : ¬ P1 p := fun z => by
      obtain ⟨i, hi⟩ := hP p z
      rw [b] at hi; cases hi
    exact ⟨p, vs, a, o2t b, keepH np nonT_lst c, dpa_sub hsub _ _ d⟩
  refine ⟨F', O2, Sb.fh, fun b o h => hsub b o (S.f0 b o h), fun b h => ?_, fun b o h n => ?_, fun b h => Sb.h1 b (S.h1 b h), fun b h => ?_, by rw [hl]; exact S.len, fun j x e => ?_, fun k r' u e => ?_, fun j xs e => ?_, fun k xs p e => ?_, fun j xs p e e9 => ?_, S.nn, Sb.tb⟩
  · rcases Sb.fn b h with z | z | z
    · exact S.fn b z
    · refine .inr (.inl ?_)
      cases e : B.H b with
      | none => rfl
      | some o => exact absurd z (S.h1 b (by rw [e]; exact Option.some_ne_none _))
    · obtain ⟨i, hi⟩ := hP b z
      exact .inr (S.ho b (by rw [hi]; exact Option.some_ne_none _)).2.1
  · refine Sb.h0 b o (mask_of (S.h0 b o h n) (B.hm b o h)) fun z => ?_
    obtain ⟨i, hi⟩ := hP b z
    rcases (S.ho b (by rw [hi]; exact Option.some_ne_none _)).2.1 with q | q
    · rw [q] at h; cases h
    · exact n q
  · rcases o2of b h with ⟨h1, h2⟩ | h1
    · obtain ⟨a, c, d⟩ := S.ho b h1
      exact ⟨noF h2 h1, c, Sb.h1 b d⟩
    · obtain ⟨a, c, d⟩ := Sb.ho b h1
      refine ⟨a, ?_, d⟩
      rcases c with c | c
      · refine .inl ?_
        cases e : B.H b with
        | none => rfl
        | some o => exact absurd c (S.h1 b (by rw [e]; exact Option.some_ne_none _))
      · obtain ⟨i, hi⟩ := hP b c
        exact (S.ho b (by rw [hi]; exact Option.some_ne_none _)).2.1
  · rcases hs j x e with ⟨h1, h2⟩ | ⟨i, h1, h2, u, h3, h4⟩ | ⟨i, l, l', xs, ys, h1, h2, h3, h4, u, h5, h6, h7⟩
    · obtain ⟨u, a, c⟩ := S.slots j x h1
      refine ⟨u, a, ?_⟩
      cases x with
      | d y => exact dp_sub hsub _ _ c
      | fn f => exact c
      | own l xs =>
        rcases h2 with h2 | h2
        · exact absurd rfl (h2 l xs)
        · obtain ⟨p, vs, a', b, c', d⟩ := c
          exact ⟨p, vs, a', o2s b (h2 p b), keepH (h2 p b) nonT_lst c', dpa_sub hsub _ _ d⟩
    · obtain ⟨u', a, c⟩ := Sb.slots i x h1
      rw [h3] at a
      cases a
      refine ⟨u, h4, ?_⟩
      cases x with
      | d y => exact c
      | fn f => exact c
      | own l xs => exact absurd rfl (h2 l xs)
    · subst h1
      obtain ⟨u', a, p, vs, e1, e2, e3, e4⟩ := Sb.slots i _ h2
      rw [h5] at a
      cases a
      subst e1
      obtain ⟨u2, a2, p2, vs2, f1, f2, f3, f4⟩ := S.slots j _ h3
      rw [h6] at a2
      cases a2
      cases f1
      refine ⟨_, h6, p, vs, rfl, ?_, e3, e4⟩
      rw [o2p f2 (h7 p rfl) e2, h4]
  · by_cases hk : k < T.length
    · rw [List.getElem?_append_left hk] at e
      have t := S.temps k r' u e
      cases r' with
      | d x => exact dp_sub hsub _ _ t
      | fresh xs => exact temp1 t
      | slot i => exact t
      | fn f => exact t
    · have hk' : k = T.length := by
        have := (List.getElem?_eq_some_iff.mp e).1
        simp at this; omega
      subst hk'
      simp at e
      obtain ⟨e1, e2⟩ := e
      subst e1 e2
      have t := Sb.temps 0 r v rfl
      cases r with
      | d x => exact t
      | fn f => exact t
      | slot i => exact absurd rfl (hr i)
      | fresh xs =>
        obtain ⟨p, vs, a, b, c, d⟩ := t
        refine ⟨p, vs, a, ?_, c, d⟩
        cases q : O p with
        | none => exact o2n q b
        | some w =>
          -- a temporary of the part is new
          exfalso
          subst a
          exact absurd (Sb.nt 0 xs p rfl) (S.ho p (by rw [q]; exact Option.some_ne_none _)).2.2
  · rcases hs j _ e with ⟨h1, _⟩ | ⟨i, h1, h2, _⟩ | ⟨i, l, l', xs', ys, h1, h2, h3, _⟩
    · exact S.lent j xs h1
    · exact absurd rfl (h2 true xs)
    · cases h1
      exact S.lent j xs' h3
  · by_cases hk : k < T.length
    · rw [List.getElem?_append_left hk] at e
      exact S.nt k xs p e
    · have hk' : k = T.length := by
        have := (List.getElem?_eq_some_iff.mp e).1
        simp at this; omega
      subst hk'
      simp at e
      obtain ⟨e1, e2⟩ := e
      subst e1 e2
      have z := Sb.nt 0 xs p rfl
      cases e : B.H p with
      | none => rfl
      | some o => exact absurd z (S.h1 p (by rw [e]; exact Option.some_ne_none _))
  · rcases hs j _ e with ⟨h1, _⟩ | ⟨i, h1, h2, _⟩ | ⟨i, l, l', xs', ys, h1, h2, h3, _⟩
    · exact S.ns j xs p h1 e9
    · exact absurd rfl (h2 false xs)
    · cases h1
      exact S.ns j xs' p h3 e9
end
end Mn
set_option Elab.async false
set_option linter.all false
set_option maxRecDepth 100000
set_option maxHeartbeats 1000000
namespace Mn
open PySem L2

/-! ## the small language -/
inductive Op2 where
  | add | sub | mul | mod | fdiv | pow
  deriving DecidableEq
inductive Cp where
  | eq | ne | lt | le | gt | ge | isin | notin
  deriving DecidableEq
/-- built-ins that take data and give data -/
inductive Blt where
  | len | abs | int | tuple | list | sorted | repr | all | any | isStr | isTup | sset | min2 | max2
  deriving DecidableEq
/-- targets: a slot; a row of slots -/
inductive Tg where
  | one (i : Nat) | row (is : List Nat)
mutual
inductive E where
  | non | bl (b : Bool) | int (i : Int) | str (s : Str)
  | var (i : Nat) | glo (x : Str) | fn (x : Str)
  | tup (es : Es) | lst (es : Es)
  | op (o : Op2) (a b : E) | rep (a b : E)
  | ite (c : C) (a b : E)
  | call (f : Str) (es : Es)
  | blt (b : Blt) (es : Es)
  | idx (a i : E)
  | slc (a : E) (lo hi : Oe)
  | lc (elt : E) (tg : Tg) (it : I) (c : Oc) (own : List Nat)
  | lc2 (elt : E) (t1 : Tg) (i1 : I) (c1 : Oc) (t2 : Tg) (i2 : I) (c2 : Oc) (own own2 : List Nat)
  | ofC (c : C)
  | andV (a b : E) | orV (a b : E)
  | app (i : Nat) (e : E) | ext (i : Nat) (e : E) | ins (i : Nat) (a e : E) | pop (i : Nat)
  | heard (g : Str) (body : E)
inductive Es where
  | nil | cons (e : E) (es : Es)
inductive Oe where
  | none | some (e : E)
inductive Oc where
  | yes | some (c : C)
inductive C where
  | cmp (o : Cp) (a b : E)
  | chain (o o' : Cp) (a b c : E)
  | and (a b : C) | or (a b : C) | not (a : C)
  | tru (e : E)
  | isN (e : E) | notN (e : E)
inductive I where
  | seq (e : E) | rng1 (e : E) | rng2 (a b : E) | zip (a b : E) | enum (a : E)
end
mutual
inductive S where
  | set (i : Nat) (e : E)
  | unp (is : List Nat) (lst : Bool) (e : E)
  | par (i j : Nat) (a b : E)
  | aug (i : Nat) (o : Op2) (e : E)
  | setX (i : Nat) (ix e : E)
  | augX (i : Nat) (ix : E) (o : Op2) (e : E)
  | expr (e : E)
  | iff (c : C) (a b : Ss)
  | for_ (tg : Tg) (it : I) (b : Ss)
  | whil (c : C) (b : Ss)
  | ret (e : E) | retN
  | raise (x : Str)
  | pass | brk | cnt
inductive Ss where
  | nil | cons (s : S) (ss : Ss)
end

/-! ## what it computes -/
def LIM : Nat := 1000000
inductive CRes where
  | ret (r : R) (o : Option (List D)) | ex (c : Str) | stuck
structure Ctx where
  glo : Str → Option D
  isFn : Str → Bool
  lend : Str → Bool
  call : Bool → Str → List W → CRes
  /-- g(lambda: ..): what it makes of what the lambda gave -/
  told : Str → Option (List (Str × D))
  wf : Nat
  g : Bool

def Res.bind {α β : Type} : Res α → (α → Res β) → Res β
  | .ok a, f => f a
  | .ex c ρ, _ => .ex c ρ
  | .stuck, _ => .stuck
instance : Monad Res where
  pure := .ok
  bind := Res.bind
def Res.of {α : Type} : Option α → Res α
  | some a => .ok a
  | none => .stuck

def strList (s : Str) : List D := s.cps.toList.map fun c => .str ⟨#[c]⟩
def bigOk (i j : Int) : Bool := decide (-(2 ^ 64) < i ∧ i < 2 ^ 64) || decide (-(2 ^ 64) < j ∧ j < 2 ^ 64)
def opD : Op2 → D → D → Option R
  | .add, .int i, .int j => some (.d (.int (i + j)))
  | .sub, .int i, .int j => some (.d (.int (i - j)))
  | .mul, .int i, .int j => if bigOk i j then some (.d (.int (i * j))) else none
  | .mod, .int i, .int j => if j ≠ 0 then some (.d (.int (i.fmod j))) else none
  | .fdiv, .int i, .int j => if j ≠ 0 ∧ j.natAbs < 1073741824 then some (.d (.int (i.fdiv j))) else none
  | .pow, .int i, .int j => if 0 ≤ j ∧ j ≤ 1000000 ∧ i.natAbs < 2 ^ 64 then some (.d (.int (i ^ j.toNat))) else none
  | .add, .str a, .str b => if a.length + b.length ≤ LIM then some (.d (.str (a ++ b))) else none
  | .add, .list a, .list b => if a.length + b.length ≤ LIM then some (.fresh (a ++ b)) else none
  | .add, .tuple a, .tuple b => if a.length + b.length ≤ LIM ∧ a ≠ [] then some (.d (.tuple (a ++ b))) else none
  | _, _, _ => none
def isNoneD : D → Bool
  | .none => true
  | _ => false
def cmpD : Cp → D → D → Option Bool
  | .eq, a, b => if SeqAt.shaped a && SeqAt.shaped b then some (PyData.eqv a b) else none
  | .ne, a, b => if SeqAt.shaped a && SeqAt.shaped b then some (!PyData.eqv a b) else none
  | .lt, .int i, .int j => some (decide (i < j))
  | .le, .int i, .int j => some (decide (i ≤ j))
  | .gt, .int i, .int j => some (decide (j < i))
  | .ge, .int i, .int j => some (decide (j ≤ i))
  | .lt, a, b => if PySem.W.alike a b && !isNoneD a && decide (a.depth ≤ 60) then some (PySem.W.dataLt a b) else none
  | .isin, .str a, .str b => match a.cps.toList with
    | [c] => some (decide (c ∈ b.cps.toList))
    | _ => none
  | .notin, .str a, .str b => match a.cps.toList with
    | [c] => some (!decide (c ∈ b.cps.toList))
    | _ => none
  | .isin, a, .list xs => if SeqAt.shaped a && SeqAt.shaped (.list xs) then some (xs.any fun x => PyData.eqv x a) else none
  | .isin, a, .tuple xs => if SeqAt.shaped a && SeqAt.shaped (.tuple xs) then some (xs.any fun x => PyData.eqv x a) else none
  | .notin, a, .list xs => if SeqAt.shaped a && SeqAt.shaped (.list xs) then some (!xs.any fun x => PyData.eqv x a) else none
  | .notin, a, .tuple xs => if SeqAt.shaped a && SeqAt.shaped (.tuple xs) then some (!xs.any fun x => PyData.eqv x a) else none
  | _, _, _ => none
def truD : D → Option Bool
  | .none => some false
  | .bool b => some b
  | .int i => some (i != 0)
  | .str s => if s.length ≤ LIM then some ((s.length : Int) != 0) else none
  | .list xs => some !xs.isEmpty
  | .tuple xs => some !xs.isEmpty
  | .dict _ => none
def idxD : D → D → Option D
  | .list xs, .int i => atI xs i
  | .tuple xs, .int i => atI xs i
  | .str s, .int i => if s.length ≤ LIM then (atI s.cps.toList i).map fun c => .str ⟨#[c]⟩ else none
  | _, _ => none
/-- xs[lo:hi] -/
def cutL {α : Type} (xs : List α) (lo hi : Option Int) : List α :=
  (xs.drop (HT.sIx xs.length 0 lo)).take (HT.sIx xs.length xs.length hi - HT.sIx xs.length 0 lo)
def slcD : D → Option Int → Option Int → Option R
  | .list xs, lo, hi => some (.fresh (cutL xs lo hi))
  | .tuple xs, lo, hi => some (.d (.tuple (cutL xs lo hi)))
  | .str s, lo, hi => if s.length ≤ LIM then some (.d (.str (cutS s lo hi))) else none
  | _, _, _ => none
def itemsD : D → Option (List D)
  | .list xs => some xs
  | .tuple xs => some xs
  | .str s => some (strList s)
  | _ => none
def boolsD : List D → Option (List Bool)
  | [] => some []
  | .bool b :: r => (boolsD r).map (b :: ·)
  | _ => none
/-- sorted of data of one kind -/
def isNeTup : D → Bool
  | .tuple (_ :: _) => true
  | _ => false
def isTupNon : D → Bool
  | .tuple _ => true
  | .none => true
  | _ => false
def sortOk (xs : List D) : Bool := (xs.all fun a => xs.all fun b => PySem.W.alike a b) && (xs.all isNeTup || xs.all fun a => !isTupNon a) && decide (xs.length ≤ LIM) && xs.all fun a => decide (a.depth ≤ 60)
def sortD (xs : List D) : List D := xs.mergeSort (PySem.W.dataLe false fun d => d)
def dedup : List D → List D
  | [] => []
  | x :: xs => if (dedup xs).any (fun y => PyData.eqv y x) then dedup xs else x :: dedup xs
def isKeyD : D → Bool
  | .int _ => true
  | .str _ => true
  | _ => false
def setKey : D → Bool
  | .tuple xs => xs.all isKeyD
  | _ => false
def isSeqD : D → Bool
  | .list _ => true
  | .tuple _ => true
  | _ => false
def bltD (g : Bool) : Blt → List D → Option R
  | .len, [.list xs] => some (.d (.int xs.length))
  | .len, [.tuple xs] => some (.d (.int xs.length))
  | .len, [.str s] => if s.length ≤ LIM then some (.d (.int s.length)) else none
  | .abs, [.int i] => some (.d (.int (if i < 0 then -i else i)))
  | .int, [.int i] => some (.d (.int i))
  | .int, [.bool b] => some (.d (.int (if b = true then 1 else 0)))
  | .tuple, [.list xs] => some (.d (.tuple xs))
  | .tuple, [.tuple xs] => some (.d (.tuple xs))
  | .list, [.list xs] => some (.fresh xs)
  | .list, [.tuple xs] => some (.fresh xs)
  | .sorted, [.list xs] => if sortOk xs then some (.fresh (sortD xs)) else none
  | .sset, [.list xs] => if sortOk xs && xs.all setKey && decide (xs.length < 64) then some (.fresh (sortD (dedup xs))) else none
  | .repr, [d] => if g && d.showable && !d.hasDict && decide (d.depth ≤ 60) && decide (d.shown.length ≤ sizeLine) && isSeqD d then some (.d (.str d.shown)) else none
  | .all, [.list xs] => (boolsD xs).map fun bs => .d (.bool (bs.all id))
  | .any, [.list xs] => (boolsD xs).map fun bs => .d (.bool (bs.any id))
  | .isStr, [.str _] => some (.d (.bool true))
  | .isStr, [_] => some (.d (.bool false))
  | .isTup, [.tuple _] => some (.d (.bool true))
  | .isTup, [_] => some (.d (.bool false))
  | .min2, [.int i, .int j] => some (.d (.int (if j < i then j else i)))
  | .max2, [.int i, .int j] => some (.d (.int (if j > i then j else i)))
  | _, _ => none
def peekAll (ρ : Env) : List R → Option (List D)
  | [] => some []
  | r :: rs => match r.peek ρ, peekAll ρ rs with
    | some x, some xs => some (x :: xs)
    | _, _ => none

/-! ### slots in parts that run by themselves -/
def wipeE (ρ : Env) : List Nat → Env
  | [] => ρ
  | v :: vs => (wipeE ρ vs).set v none
def noOwn : Option W → Option W
  | some (.own _ _) => none
  | w => w
def back1 : Option W → Option W → Option W
  | some (.own l _), some (.own _ ys) => some (.own l ys)
  | _, some (.own _ _) => none
  | _, w => w
/-- behind a comprehension: its own slots are as they were, the others as they are -/
def backE (own : List Nat) : Nat → Env → Env → Env
  | _, [], _ => []
  | _, w :: ρ, [] => none :: ρ.map fun _ => none
  | k, w :: ρ, u :: ρn => (if own.contains k then noOwn w else back1 w u) :: backE own (k + 1) ρ ρn
def Tg.set (ρ : Env) (x : D) : Tg → Option Env
  | .one i => (R.d x).into i ρ
  | .row is => match x with
    | .tuple xs => setRow is xs ρ
    | _ => none
where setRow : List Nat → List D → Env → Option Env
  | [], [], ρ => some ρ
  | i :: is, x :: xs, ρ => match (R.d x).into i ρ with
    | some ρ1 => setRow is xs ρ1
    | none => none
  | _, _, _ => none
/-- the turns of a comprehension -/
def lcLoop (f : D → Env → Res (Option D × Env)) : List D → List D → Env → Res (List D × Env)
  | [], acc, ρ => .ok (acc, ρ)
  | x :: xs, acc, ρ => match f x ρ with
    | .ok (some y, ρ1) => if acc.length < LIM then lcLoop f xs (acc ++ [y]) ρ1 else .stuck
    | .ok (none, ρ1) => lcLoop f xs acc ρ1
    | _ => .stuck
def lc2Loop (f : D → List D → Env → Res (List D × Env)) : List D → List D → Env → Res (List D × Env)
  | [], acc, ρ => .ok (acc, ρ)
  | x :: xs, acc, ρ => match f x acc ρ with
    | .ok (acc1, ρ1) => lc2Loop f xs acc1 ρ1
    | _ => .stuck
def keepR (p : R × Env) : Res (D × Env) := Res.of (p.1.keep p.2)
/-- a call -/
def callF (Γ : Ctx) (f : Str) (rs : List R) (ρ : Env) : Res (R × Env) :=
  if Γ.lend f then match rs with
    | .slot i :: rest => match ρ[i]?, keepAll rest ρ with
      | some (some (.own l xs)), some (ds, ρ1) => match ρ1[i]? with
        | some (some (.own _ _)) => match Γ.call Γ.g f (.own true xs :: ds.map .d) with
          | .ret (.slot _) _ => .stuck
          | .ret r (some ys) => .ok (r, ρ1.set i (some (.own l ys)))
          | _ => .stuck
        | _ => .stuck
      | _, _ => .stuck
    | _ => .stuck
  else match keepAll rs ρ with
    | some (ds, ρ1) => match Γ.call Γ.g f (ds.map .d) with
      | .ret (.slot _) _ => .stuck
      | .ret r _ => .ok (r, ρ1)
      | .ex c => .ex c ρ1
      | .stuck => .stuck
    | none => .stuck
def lookupEx (c : Str) : List (Str × D) → Option D
  | [] => none
  | (x, d) :: r => if x = c then some d else lookupEx c r

mutual
def evE (Γ : Ctx) : E → Env → Res (R × Env)
  | .non, ρ => .ok (.d .none, ρ)
  | .bl b, ρ => .ok (.d (.bool b), ρ)
  | .int i, ρ => .ok (.d (.int i), ρ)
  | .str s, ρ => .ok (.d (.str s), ρ)
  | .var i, ρ => match ρ[i]? with
    | some (some (.d x)) => .ok (.d x, ρ)
    | some (some (.own _ _)) => .ok (.slot i, ρ)
    | some (some (.fn f)) => .ok (.fn f, ρ)
    | _ => .stuck
  | .glo x, ρ => match Γ.glo x with
    | some d => .ok (.d d, ρ)
    | none => .stuck
  | .fn x, ρ => if Γ.isFn x then .ok (.fn x, ρ) else .stuck
  | .tup es, ρ => do
    let (rs, ρ) ← evEs Γ es ρ
    let (xs, ρ) ← Res.of (keepAll rs ρ)
    if xs.length ≤ LIM then .ok (.d (.tuple xs), ρ) else .stuck
  | .lst es, ρ => do
    let (rs, ρ) ← evEs Γ es ρ
    let (xs, ρ) ← Res.of (keepAll rs ρ)
    if xs.length ≤ LIM then .ok (.fresh xs, ρ) else .stuck
  | .op o a b, ρ => do
    let (x, ρ) ← evE Γ a ρ
    let (y, ρ) ← evE Γ b ρ
    let u ← Res.of (x.peek ρ)
    let v ← Res.of (y.peek ρ)
    let r ← Res.of (opD o u v)
    .ok (r, ρ)
  | .rep a b, ρ => do
    let (x, ρ) ← evE Γ a ρ
    let (y, ρ) ← evE Γ b ρ
    match x, y with
    | .fresh xs, .d (.int j) => if 0 ≤ j ∧ j ≤ 1000 ∧ xs.length ≤ 1000 then .ok (.fresh ((List.replicate j.toNat xs).flatten), ρ) else .stuck
    | _, _ => .stuck
  | .ite c a b, ρ => do
    let (t, ρ) ← evC Γ c ρ
    if t then evE Γ a ρ else evE Γ b ρ
  | .call f es, ρ => do
    let (rs, ρ) ← evEs Γ es ρ
    callF Γ f rs ρ
  | .blt b es, ρ => do
    let (rs, ρ) ← evEs Γ es ρ
    let xs ← Res.of (peekAll ρ rs)
    let r ← Res.of (bltD Γ.g b xs)
    .ok (r, ρ)
  | .idx a i, ρ => do
    let (x, ρ) ← evE Γ a ρ
    let (y, ρ) ← evE Γ i ρ
    let u ← Res.of (x.peek ρ)
    let v ← Res.of (y.peek ρ)
    let r ← Res.of (idxD u v)
    .ok (.d r, ρ)
  | .slc a lo hi, ρ => do
    let (x, ρ) ← evE Γ a ρ
    let (l, ρ) ← evO Γ lo ρ
    let (h, ρ) ← evO Γ hi ρ
    let u ← Res.of (x.peek ρ)
    let r ← Res.of (slcD u l h)
    .ok (r, ρ)
  | .lc elt tg it c own, ρ => do
    let (xs, ρ) ← evI Γ it ρ
    let (ys, ρn) ← lcLoop (fun x ρ => do
      let ρ ← Res.of (tg.set ρ x)
      let (b, ρ) ← evOc Γ c ρ
      if b then do
        let p ← evE Γ elt ρ
        let (y, ρ) ← keepR p
        .ok (some y, wipeE ρ own)
      else .ok (none, wipeE ρ own)) xs [] (wipeE ρ own)
    .ok (.fresh ys, backE own 0 ρ ρn)
  | .lc2 elt t1 i1 c1 t2 i2 c2 own own2, ρ => do
    let (xs, ρ) ← evI Γ i1 ρ
    let (ys, ρn) ← lc2Loop (fun x acc ρ => do
      let ρ ← Res.of (t1.set ρ x)
      let (b, ρ) ← evOc Γ c1 ρ
      if b then do
        let (zs, ρ) ← evI Γ i2 ρ
        let (acc, ρ) ← lcLoop (fun x ρ => do
          let ρ ← Res.of (t2.set ρ x)
          let (b, ρ) ← evOc Γ c2 ρ
          if b then do
            let p ← evE Γ elt ρ
            let (y, ρ) ← keepR p
            .ok (some y, wipeE ρ own2)
          else .ok (none, wipeE ρ own2)) zs acc (wipeE ρ own2)
        .ok (acc, wipeE ρ own)
      else .ok (acc, wipeE ρ own)) xs [] (wipeE ρ own)
    .ok (.fresh ys, backE own 0 ρ ρn)
  | .ofC c, ρ => do
    let (b, ρ) ← evC Γ c ρ
    .ok (.d (.bool b), ρ)
  | .andV a b, ρ => do
    let (x, ρ) ← evE Γ a ρ
    match x with
    | .d (.bool true) => evE Γ b ρ
    | .d (.bool false) => .ok (.d (.bool false), ρ)
    | _ => .stuck
  | .orV a b, ρ => do
    let (x, ρ) ← evE Γ a ρ
    match x with
    | .d (.bool false) => evE Γ b ρ
    | .d (.bool true) => .ok (.d (.bool true), ρ)
    | _ => .stuck
  | .app i e, ρ => match ρ[i]? with
    | some (some (.own _ _)) => do
      let p ← evE Γ e ρ
      let (y, ρ) ← keepR p
      match ρ[i]? with
      | some (some (.own l xs)) => if xs.length < LIM then .ok (.d .none, ρ.set i (some (.own l (xs ++ [y])))) else .stuck
      | _ => .stuck
    | _ => .stuck
  | .ext i e, ρ => match ρ[i]? with
    | some (some (.own _ _)) => do
      let (x, ρ) ← evE Γ e ρ
      let u ← Res.of (x.peek ρ)
      match ρ[i]?, u with
      | some (some (.own l xs)), .list ys => if x.isSlot i = false ∧ xs.length + ys.length ≤ LIM then .ok (.d .none, ρ.set i (some (.own l (xs ++ ys)))) else .stuck
      | _, _ => .stuck
    | _ => .stuck
  | .ins i a e, ρ => match ρ[i]? with
    | some (some (.own _ _)) => do
      let (x, ρ) ← evE Γ a ρ
      let p ← evE Γ e ρ
      let (y, ρ) ← keepR p
      match ρ[i]?, x with
      | some (some (.own l xs)), .d (.int j) => if 0 ≤ j ∧ j ≤ LIM ∧ xs.length < LIM then .ok (.d .none, ρ.set i (some (.own l (xs.take j.toNat ++ [y] ++ xs.drop j.toNat)))) else .stuck
      | _, _ => .stuck
    | _ => .stuck
  | .pop i, ρ => match ρ[i]? with
    | some (some (.own l xs)) => match xs.getLast? with
      | some y => .ok (.d y, ρ.set i (some (.own l xs.dropLast)))
      | none => .stuck
    | _ => .stuck
  | .heard g body, ρ => match Γ.told g with
    | none => .stuck
    | some hs => match evE { Γ with g := false, told := fun _ => none } body (wipeE ρ []) with
      | .ok p => match p.1.keep p.2 with
        | some (y, ρ1) => .ok (.d (.tuple [.str "told", y]), backE [] 0 ρ ρ1)
        | none => .stuck
      | .ex c ρ1 => match lookupEx c hs with
        | some d => .ok (.d d, backE [] 0 ρ ρ1)
        | none => .stuck
      | .stuck => .stuck
def evEs (Γ : Ctx) : Es → Env → Res (List R × Env)
  | .nil, ρ => .ok ([], ρ)
  | .cons e es, ρ => do
    let (r, ρ) ← evE Γ e ρ
    let (rs, ρ) ← evEs Γ es ρ
    .ok (r :: rs, ρ)
def evO (Γ : Ctx) : Oe → Env → Res (Option Int × Env)
  | .none, ρ => .ok (none, ρ)
  | .some e, ρ => do
    let (r, ρ) ← evE Γ e ρ
    match r with
    | .d (.int i) => .ok (some i, ρ)
    | _ => .stuck
def evOc (Γ : Ctx) : Oc → Env → Res (Bool × Env)
  | .yes, ρ => .ok (true, ρ)
  | .some c, ρ => evC Γ c ρ
def evC (Γ : Ctx) : C → Env → Res (Bool × Env)
  | .cmp o a b, ρ => do
    let (x, ρ) ← evE Γ a ρ
    let (y, ρ) ← evE Γ b ρ
    let u ← Res.of (x.peek ρ)
    let v ← Res.of (y.peek ρ)
    let t ← Res.of (cmpD o u v)
    .ok (t, ρ)
  | .chain o o' a b c, ρ => do
    let (x, ρ) ← evE Γ a ρ
    let (y, ρ) ← evE Γ b ρ
    let u ← Res.of (x.peek ρ)
    let v ← Res.of (y.peek ρ)
    let t ← Res.of (cmpD o u v)
    if t then do
      let (z, ρ) ← evE Γ c ρ
      let v ← Res.of (y.peek ρ)
      let w ← Res.of (z.peek ρ)
      let t ← Res.of (cmpD o' v w)
      .ok (t, ρ)
    else .ok (false, ρ)
  | .and a b, ρ => do
    let (t, ρ) ← evC Γ a ρ
    if t then evC Γ b ρ else .ok (false, ρ)
  | .or a b, ρ => do
    let (t, ρ) ← evC Γ a ρ
    if t then .ok (true, ρ) else evC Γ b ρ
  | .not a, ρ => do
    let (t, ρ) ← evC Γ a ρ
    .ok (!t, ρ)
  | .tru e, ρ => do
    let (x, ρ) ← evE Γ e ρ
    let u ← Res.of (x.peek ρ)
    let t ← Res.of (truD u)
    .ok (t, ρ)
  | .isN e, ρ => do
    let (x, ρ) ← evE Γ e ρ
    let u ← Res.of (x.peek ρ)
    .ok (isNoneD u, ρ)
  | .notN e, ρ => do
    let (x, ρ) ← evE Γ e ρ
    let u ← Res.of (x.peek ρ)
    .ok (!isNoneD u, ρ)
def evI (Γ : Ctx) : I → Env → Res (List D × Env)
  | .seq e, ρ => do
    let p ← evE Γ e ρ
    let (y, ρ) ← keepR p
    let xs ← Res.of (itemsD y)
    .ok (xs, ρ)
  | .rng1 e, ρ => do
    let (x, ρ) ← evE Γ e ρ
    match x with
    | .d (.int j) => if j < 2 ^ 62 ∧ -(2 ^ 62) ≤ j then .ok ((List.range j.toNat).map fun (k : Nat) => .int k, ρ) else .stuck
    | _ => .stuck
  | .rng2 a b, ρ => do
    let (x, ρ) ← evE Γ a ρ
    let (y, ρ) ← evE Γ b ρ
    match x, y with
    | .d (.int i), .d (.int j) => if (-(2 ^ 62) ≤ i ∧ i < 2 ^ 62) ∧ -(2 ^ 62) ≤ j ∧ j < 2 ^ 62 then .ok ((List.range (j - i).toNat).map fun (k : Nat) => .int (i + k), ρ) else .stuck
    | _, _ => .stuck
  | .zip a b, ρ => do
    let (x, ρ) ← evE Γ a ρ
    let (y, ρ) ← evE Γ b ρ
    let (ds, ρ) ← Res.of (keepAll [x, y] ρ)
    match ds with
    | [.list xs, .list ys] => .ok ((xs.zip ys).map fun p => .tuple [p.1, p.2], ρ)
    | [.tuple xs, .tuple ys] => .ok ((xs.zip ys).map fun p => .tuple [p.1, p.2], ρ)
    | _ => .stuck
  | .enum a, ρ => do
    let p ← evE Γ a ρ
    let (y, ρ) ← keepR p
    match y with
    | .list xs => .ok (xs.zipIdx.map fun p => .tuple [.int p.2, p.1], ρ)
    | _ => .stuck
end

/-! ### statements -/
inductive Fl where
  | nx (ρ : Env) | rt (r : R) (ρ : Env) | bk (ρ : Env) | ct (ρ : Env) | ex (c : Str) (ρ : Env) | stuck
def Res.fl {α : Type} : Res α → (α → Fl) → Fl
  | .ok a, f => f a
  | .ex c ρ, _ => .ex c ρ
  | .stuck, _ => .stuck
def forLoop (f : D → Env → Fl) : List D → Env → Fl
  | [], ρ => .nx ρ
  | x :: xs, ρ => match f x ρ with
    | .nx ρ1 => forLoop f xs ρ1
    | .ct ρ1 => forLoop f xs ρ1
    | .bk ρ1 => .nx ρ1
    | .rt r ρ1 => .rt r ρ1
    | .ex c ρ1 => .ex c ρ1
    | .stuck => .stuck
def whLoop (t : Env → Res (Bool × Env)) (f : Env → Fl) : Nat → Env → Fl
  | 0, _ => .stuck
  | n + 1, ρ => match t ρ with
    | .ok (true, ρ1) => match f ρ1 with
      | .nx ρ2 => whLoop t f n ρ2
      | .ct ρ2 => whLoop t f n ρ2
      | .bk ρ2 => .nx ρ2
      | .rt r ρ2 => .rt r ρ2
      | .ex c ρ2 => .ex c ρ2
      | .stuck => .stuck
    | .ok (false, ρ1) => .nx ρ1
    | .ex c ρ1 => .ex c ρ1
    | .stuck => .stuck
mutual
def evS (Γ : Ctx) : S → Env → Fl
  | .set i e, ρ => (evE Γ e ρ).fl fun (r, ρ) => match r.into i ρ with
    | some ρ1 => .nx ρ1
    | none => .stuck
  | .unp is lst e, ρ => (evE Γ e ρ).fl fun (r, ρ) => match r.keep ρ with
    | some (.tuple xs, ρ) => if lst then .stuck else match Tg.set.setRow is xs ρ with
      | some ρ => .nx ρ
      | none => .stuck
    | some (.list xs, ρ) => if lst then match Tg.set.setRow is xs ρ with
      | some ρ => .nx ρ
      | none => .stuck
      else .stuck
    | _ => .stuck
  | .par i j a b, ρ => (evE Γ a ρ).fl fun (r, ρ) => (evE Γ b ρ).fl fun (r', ρ) => match r.peek ρ, r' with
    | _, .slot _ => .stuck
    | _, r' => if i = j then .stuck else match r with
      | .slot _ => .stuck
      | r => match r.into i ρ with
        | some ρ => match r'.into j ρ with
          | some ρ => .nx ρ
          | none => .stuck
        | none => .stuck
  | .aug i o e, ρ => match ρ[i]? with
    | some (some (.d u)) => (evE Γ e ρ).fl fun (r, ρ) => match r.peek ρ with
      | some v => match u, v, opD o u v with
        | .int _, .int _, some (.d z) => match (R.d z).into i ρ with
          | some ρ => .nx ρ
          | none => .stuck
        | _, _, _ => .stuck
      | none => .stuck
    | _ => .stuck
  | .setX i ix e, ρ => (evE Γ e ρ).fl fun (r, ρ) => match r.keep ρ with
    | some (y, ρ) => match ρ[i]? with
      | some (some (.own _ _)) => (evE Γ ix ρ).fl fun (k, ρ) => match ρ[i]?, k with
        | some (some (.own l xs)), .d (.int k) => match ixN xs.length k with
          | some j => .nx (ρ.set i (some (.own l (xs.set j y))))
          | none => .stuck
        | _, _ => .stuck
      | _ => .stuck
    | none => .stuck
  | .augX i ix o e, ρ => match ρ[i]? with
    | some (some (.own _ _)) => (evE Γ ix ρ).fl fun (k, ρ) => match ρ[i]?, k with
      | some (some (.own _ xs)), .d (.int k) => match atI xs k with
        | some (.int u) => (evE Γ e ρ).fl fun (r, ρ) => match ρ[i]?, r with
          | some (some (.own l xs)), .d (.int v) => match opD o (.int u) (.int v), ixN xs.length k with
            | some (.d z), some j => if o = .add ∨ o = .sub then .nx (ρ.set i (some (.own l (xs.set j z)))) else .stuck
            | _, _ => .stuck
          | _, _ => .stuck
        | _ => .stuck
      | _, _ => .stuck
    | _ => .stuck
  | .expr e, ρ => (evE Γ e ρ).fl fun (_, ρ) => .nx ρ
  | .iff c a b, ρ => (evC Γ c ρ).fl fun (t, ρ) => if t then evSs Γ a ρ else evSs Γ b ρ
  | .for_ tg it b, ρ => (evI Γ it ρ).fl fun (xs, ρ) => forLoop (fun x ρ => match tg.set ρ x with
    | some ρ => evSs Γ b ρ
    | none => .stuck) xs ρ
  | .whil c b, ρ => whLoop (evC Γ c) (evSs Γ b) Γ.wf ρ
  | .ret e, ρ => (evE Γ e ρ).fl fun (r, ρ) => .rt r ρ
  | .retN, ρ => .rt (.d .none) ρ
  | .raise x, ρ => .ex x ρ
  | .pass, ρ => .nx ρ
  | .brk, ρ => .bk ρ
  | .cnt, ρ => .ct ρ
def evSs (Γ : Ctx) : Ss → Env → Fl
  | .nil, ρ => .nx ρ
  | .cons s ss, ρ => match evS Γ s ρ with
    | .nx ρ => evSs Γ ss ρ
    | f => f
end
end Mn
set_option Elab.async false
set_option linter.all false
set_option maxRecDepth 100000
set_option maxHeartbeats 1000000
namespace Mn
open PySem PySem.Spec PyProof.Rows L2

/-! ## defs whose promise may lean on what runs around (repr) -/
structure FnG (g : Bool) (P : Program) (w : World) (K : PySem.W.Frag) (mg : Str → Option Value) (base : Heap) (k : Nat) (f : Addr) (fd : FuncData) (ps : List Str) (sp : Sp) : Prop where
  len : ∀ vs H Q Ex, sp vs H Q Ex → vs.length = ps.length
  run : ∀ (A : Around) (outer : List PySem.Env) (s : Shared) (H : Hp) (args : Args) (us : List Value) (vs : List V) (Q : VK) (Ex : XK), (g = true → A.guards = some []) → Room k A → Env0 P w K mg base A outer s H →
    BindsTo s fd args (ps.zip us) → Vals vs us → sp vs H Q Ex → codeAny (model P w) A (.call (.ref f) args) (CR (L2.CX P w) outer P w H s Q Ex) s
theorem FnG.imp {g : Bool} {P : Program} {w : World} {K : PySem.W.Frag} {mg : Str → Option Value} {base : Heap} {k : Nat} {f : Addr} {fd : FuncData} {ps : List Str} {sp sp' : Sp} (F : FnG g P w K mg base k f fd ps sp)
    (h : ∀ vs H Q Ex, sp' vs H Q Ex → sp vs H Q Ex) : FnG g P w K mg base k f fd ps sp' :=
  ⟨fun _ _ _ _ q => F.len _ _ _ _ (h _ _ _ _ q), fun A outer s H args us vs Q Ex hg hr he hb hv hs => F.run A outer s H args us vs Q Ex hg hr he hb hv (h _ _ _ _ hs)⟩
section
variable {X : Cx} {g : Bool} {k : Nat} {f : Addr} {fd : FuncData} {ps : List Str} {sp : Sp} {Wx : WX} {x : Str} {q pos : Pos} {es : List Expr} {t : TA}
def tCallG (sp : Sp) (Wx : WX) (t : TA) : TE := fun σ H Q => t σ H fun vs H1 => sp vs H1 Q (WE Wx σ)
theorem run_g {pins : List (Addr × Obj)} {σ : L2.St} {H : Hp} {s : Shared} {Q : VK} {us : List Value} {vs : List V} (Fn : FnG g X.prog X.w X.K X.mg X.base k f fd ps sp) (hg : g = true → X.A.guards = some []) (hr : Room k X.A) (hb : Binds X.K fd ps []) (tk : Takes X Wx)
    (I : Inv X pins σ H s) (r : Vals vs us) (h : sp vs H Q (WE Wx σ)) : wpAny (model X.prog X.w) X.A (call (.ref f) us) (EP X pins σ Q) X.xe s := by
  have hl : (us ++ ([] : List Value)).length = ps.length := by
    rw [List.append_nil, ← r.length]
    exact Fn.len _ _ _ _ h
  have b := hb s us I.kIn hl
  rw [List.append_nil] at b
  have rr := Fn.run X.A X.stack s H ⟨us, []⟩ us vs Q (WE Wx σ) hg hr I.env0 b r h
  refine wpAny_call (codeAny_mono rr fun res s' hq => ?_)
  match res, hq with
  | .error e, hq => exact passAt tk σ pins H s e s' I hq
  | .ok (.ret u), hq => exact I.after hq
  | .ok .next, hq => exact (show False from hq).elim
  | .ok .brk, hq => exact (show False from hq).elim
  | .ok .cont, hq => exact (show False from hq).elim
theorem star_head {e : Expr} {es : List Expr} {env : PySem.Env} (h : ∀ v p, e ≠ .Starred v p) : starEach (e :: es) env = (false, eval e env) :: starEach es env := by
  cases e <;> first | rfl | exact absurd rfl (h _ _)
def noStar : Expr → Bool
  | .Starred _ _ => false
  | _ => true
theorem noStar_ne {e : Expr} (h : noStar e = true) : ∀ v p, e ≠ .Starred v p := fun v p z => by subst z; cases h
theorem star_plain {env : PySem.Env} {pos : Pos} : ∀ {es : List Expr}, es.all noStar = true → (backTo pos (starEach es env)).any (·.1) = false
  | [], _ => rfl
  | e :: es, h => by
    rw [List.all_cons, Bool.and_eq_true] at h
    rw [star_head (noStar_ne h.1)]
    exact (star_plain (es := es) h.2)
theorem pe_g {e : Expr} (Fn : FnG g X.prog X.w X.K X.mg X.base k f fd ps sp) (hg : g = true → X.A.guards = some []) (hr : Room k X.A) (hb : Binds X.K fd ps []) (tk : Takes X Wx) (gl : Gl X x) (hm : X.mg x = some (.ref f)) (hk : PySem.W.keepIn X.K (.ref f) = true)
    (ha : PA X (e :: es) t) (hs : (e :: es).all noStar = true) (hdb : (x == ("__debug__" : Str)) = false) : PE X (.Call (.Name x q) (e :: es) [] pos) (tCallG sp Wx t) := by
  rw [List.all_cons, Bool.and_eq_true] at hs
  refine ⟨fun pins s σ H Q I h => wpAny_Call_Name_kw (ld_glob I gl hm ?_ hdb)⟩
  refine PySem.W.callWith_K (h₀ := X.base) I.ok.mod.kin hk (thn (ha.run pos pins s σ H _ I h) fun us s1 hh => ?_) (star_head (noStar_ne hs.1)) (star_plain hs.2)
  obtain ⟨vs, H1, I1, r, q1⟩ := hh
  exact ⟨I1.kIn, run_g Fn hg hr hb tk I1 r q1⟩
theorem pe_g0 (Fn : FnG g X.prog X.w X.K X.mg X.base k f fd ps sp) (hg : g = true → X.A.guards = some []) (hr : Room k X.A) (hb : Binds X.K fd ps []) (tk : Takes X Wx) (gl : Gl X x) (hm : X.mg x = some (.ref f)) (hk : PySem.W.keepIn X.K (.ref f) = true)
    (hdb : (x == ("__debug__" : Str)) = false) : PE X (.Call (.Name x q) [] [] pos) (tCallG sp Wx tNil) := by
  refine ⟨fun pins s σ H Q I h => wpAny_Call_Name_kw (ld_glob I gl hm ?_ hdb)⟩
  exact PySem.W.callWith_K0 I.kIn hk (run_g (us := []) Fn hg hr hb tk I .nil h)
end
section
variable {P : Program} {w : World} {K : PySem.W.Frag} {mg : Str → Option Value} {base : Heap}
theorem fnG_of {g : Bool} {k : Nat} {f : Addr} {name qual : Str} {params : Arguments} {body : List Stmt} {scope : Scope} {dV kV doc pm cdv ct oc : Value} {an od : Option Addr} {osl : Array (Option Value)} {N ps : List Str} {sp : Sp}
    (lk : K.lookup f = some ⟨oc, od, .func (PySem.W.fnOf name qual params body scope dV kV doc pm an cdv ct), osl⟩) (hcd : PySem.W.codeIn K cdv qual = true) (Sc : FnScope N ps scope) (len : ∀ vs H Q Ex, sp vs H Q Ex → vs.length = ps.length)
    (hbody : ∀ (A : Around) (outer : List PySem.Env) (s : Shared) (H : Hp) (vs : List V) (Q : VK) (Ex : XK), (g = true → A.guards = some []) → Room k (A.deeper (envOfC qual scope s.heap.objs.size f cdv)) → sp vs H Q Ex →
      ∃ t, PSs (cxOf (L2.CX P w) P w K mg base N qual scope f cdv A outer s H Ex) body t ∧ t { nx := fun _ H' => Q .non H', rt := Q } (start N vs) H) :
    FnG g P w K mg base (k + 1) f (PySem.W.fnOf name qual params body scope dV kV doc pm an cdv ct) ps sp := by
  refine ⟨len, fun A outer s H args us vs Q Ex hg hr e0 hb r hsp => ?_⟩
  have vl := len _ _ _ _ hsp
  have keepB : ∀ b o, base.get? b = some o → s.heap.get? b = some o := fun b o e => (e0.bs b o e).1
  have kinds : ∀ y ∈ ps.zip us, scope.names.lookup y.1 = some .local ∨ (scope.names.lookup y.1 = some .cell ∧ ((cellsFrom (s.heap.objs.size + 1) scope.names []).lookup y.1).isSome = true) := by
    rintro ⟨n, v⟩ hy
    exact (Sc.par n (List.of_mem_zip hy).1).imp id fun z => ⟨z, PySem.W.cellsFrom_some _ _ _ (.inl z)⟩
  refine codeAny_call_function hr.depth ((e0.mod.kin.keeps keepB) _ _ lk) rfl Sc.co Sc.gen rfl (PySem.W.codeRec_of (e0.mod.kin.keeps keepB) hcd) (hb _ _ _ _ ?_)
  refine wpAny_newFunctionEnv_cells Sc.kind kinds fun env he s1 ic => ?_
  subst he
  refine ⟨(e0.mod.nolimit.keeps keepB).keeps ic.toInCall.keep, codeAny_func ?_⟩
  obtain ⟨t, ht, hq⟩ := hbody A outer s H vs Q Ex hg (hr.deeper _) hsp
  have I : Inv (cxOf (L2.CX P w) P w K mg base N qual scope f cdv A outer s H Ex) [] (start N vs) H s1 := inv_start Sc hr.hd e0 vl r ic
  refine wpAny_mono (ht.run [] s1 (start N vs) H _ I hq) (fun fl s' hs => ?_) fun _ _ hs => hs
  match fl, hs with
  | .ret u, ⟨v, σ', H', J, rv, z⟩ => exact ⟨v, H', J.os, J.bare, J.base, J.hok, rv, z⟩
  | .next, ⟨σ', H', J, z⟩ => exact ⟨.non, H', J.os, J.bare, J.base, J.hok, rfl, z⟩
  | .brk, ⟨_, _, _, z⟩ => exact (show False from z).elim
  | .cont, ⟨_, _, _, z⟩ => exact (show False from z).elim
end
end Mn
set_option Elab.async false
set_option linter.all false
set_option maxRecDepth 100000
set_option maxHeartbeats 1000000
namespace Mn
open PySem PySem.Spec L2

/-! ## readings -/
def Gd {α : Type} (m : Res α) (ok : α → Prop) (ex : Str → Env → Prop) : Prop := match m with
  | .ok a => ok a
  | .ex c ρ => ex c ρ
  | .stuck => False
theorem Gd.mono {α : Type} {m : Res α} {ok ok' : α → Prop} {ex ex' : Str → Env → Prop} (h : Gd m ok ex) (h1 : ∀ a, ok a → ok' a) (h2 : ∀ c ρ, ex c ρ → ex' c ρ) : Gd m ok' ex' := by
  cases m with
  | ok a => exact h1 a h
  | ex c ρ => exact h2 c ρ h
  | stuck => exact h
theorem gd_bind {α β : Type} {m : Res α} {f : α → Res β} {ok : β → Prop} {ex : Str → Env → Prop} : Gd (m >>= f) ok ex ↔ Gd m (fun a => Gd (f a) ok ex) ex := by
  cases m <;> exact Iff.rfl
theorem gd_of {α : Type} {o : Option α} {ok : α → Prop} {ex : Str → Env → Prop} (h : Gd (Res.of o) ok ex) : ∃ a, o = some a ∧ ok a := by
  cases o with
  | some a => exact ⟨a, rfl, h⟩
  | none => exact (show False from h).elim
theorem gd_if {α : Type} {c : Prop} [Decidable c] {m m' : Res α} {ok : α → Prop} {ex : Str → Env → Prop} (h : Gd (if c then m else m') ok ex) : (c ∧ Gd m ok ex) ∨ (¬ c ∧ Gd m' ok ex) := by
  split at h
  · exact .inl ⟨by assumption, h⟩
  · exact .inr ⟨by assumption, h⟩
theorem gd_if_stuck {α : Type} {c : Prop} [Decidable c] {m : Res α} {ok : α → Prop} {ex : Str → Env → Prop} (h : Gd (if c then m else .stuck) ok ex) : c ∧ Gd m ok ex := by
  rcases gd_if h with h | h
  · exact h
  · exact (show False from h.2).elim

section
variable (K : PySem.W.Frag) (A : Ad) (Wx : WX)
/-- what an exception is to find -/
def ExP (B : Bs) (σ : St) : Str → Env → Prop := fun c ρ' => ∀ H', At K A B σ ρ' [] H' → Wx (.ref (A c)) none σ H'
def RdE (ev : Env → Res (R × Env)) : TE := fun σ H Q => ∃ B ρ T, At K A B σ ρ T H ∧
  Gd (ev ρ) (fun p => ∀ v H', At K A B σ p.2 (T ++ [(p.1, v)]) H' → Q v H') (ExP K A Wx B σ)
def RdT (ev : Env → Res (Bool × Env)) : TT := fun σ H Q => ∃ B ρ T, At K A B σ ρ T H ∧
  Gd (ev ρ) (fun p => ∀ H', At K A B σ p.2 T H' → Q p.1 H') (ExP K A Wx B σ)
def RdO (ev : Env → Res (Option Int × Env)) : TO := fun σ H Q => ∃ B ρ T, At K A B σ ρ T H ∧
  Gd (ev ρ) (fun p => ∀ H', At K A B σ p.2 T H' → Q p.1 H') (ExP K A Wx B σ)
def RdA (ev : Env → Res (List R × Env)) : TA := fun σ H Q => ∃ B ρ T, At K A B σ ρ T H ∧
  Gd (ev ρ) (fun p => ∀ vs H', vs.length = p.1.length → At K A B σ p.2 (T ++ p.1.zip vs) H' → Q vs H') (ExP K A Wx B σ)
end
section
variable {X : Cx} {K : PySem.W.Frag} {A : Ad} {Wx : WX} {B : Bs} {σ : St} {ρ ρ' : Env} {T : Tmps} {H H' F : Hp} {O : Addr → Option Owner}
theorem PE_imp {e : Expr} {t t' : TE} (h : PE X e t) (hi : ∀ σ H Q, t' σ H Q → t σ H Q) : PE X e t' := ⟨fun pins s σ H Q I q => h.run pins s σ H Q I (hi _ _ _ q)⟩
theorem PT_imp {e : Expr} {t t' : TT} (h : PT X e t) (hi : ∀ σ H Q, t' σ H Q → t σ H Q) : PT X e t' := ⟨fun pins s σ H Q I q => h.run pins s σ H Q I (hi _ _ _ q)⟩
theorem PW_imp {e : Expr} {t t' : TT} (h : PW X e t) (hi : ∀ σ H Q, t' σ H Q → t σ H Q) : PW X e t' := ⟨fun wh pins s σ H Q I q => h.run wh pins s σ H Q I (hi _ _ _ q)⟩
theorem PA_imp {es : List Expr} {t t' : TA} (h : PA X es t) (hi : ∀ σ H Q, t' σ H Q → t σ H Q) : PA X es t' := ⟨fun pos pins s σ H Q I q => h.run pos pins s σ H Q I (hi _ _ _ q)⟩
theorem PO_imp {e : Option Expr} {t t' : TO} (h : PO X e t) (hi : ∀ σ H Q, t' σ H Q → t σ H Q) : PO X e t' := ⟨fun pins s σ H Q I q => h.run pins s σ H Q I (hi _ _ _ q)⟩
theorem OpR_or {f : Value → Value → Sem Value} {r r' : R2} (h : OpR X f r) (h' : OpR X f r') : OpR X f (fun x y H Q => r x y H Q ∨ r' x y H Q) := fun pins s σ H x y v u Q I rx ry q =>
  q.elim (h pins s σ H x y v u Q I rx ry) (h' pins s σ H x y v u Q I rx ry)
theorem CallR_or {f : Value} {r r' : List V → Hp → VK → Prop} (h : CallR X f r) (h' : CallR X f r') : CallR X f (fun x H Q => r x H Q ∨ r' x H Q) := fun pins s σ H x u Q I rx q =>
  q.elim (h pins s σ H x u Q I rx) (h' pins s σ H x u Q I rx)

/-! ### what a temporary tells of its value -/
theorem dp_int {i : Int} {v : V} (h : Dq K F v (.int i)) : v = .int i := by cases h; rfl
theorem dp_str {i : Str} {v : V} (h : Dq K F v (.str i)) : v = .str i := by cases h; rfl
theorem dp_bl {i : Bool} {v : V} (h : Dq K F v (.bool i)) : v = .bl i := by cases h; rfl
theorem dp_non {v : V} (h : Dq K F v .none) : v = .non := by cases h; rfl
theorem Sep.peekL (S : Sep K A B σ ρ T H F O) {k : Nat} {r : R} {v : V} {xs : List D} (h : T[k]? = some (r, v)) (e : r.peek ρ = some (.list xs)) :
    ∃ p vs, v = .ref p ∧ Rd H p (.lst vs) ∧ DqAll K F vs xs := by
  have t := S.temps k r v h
  have own : ∀ w xs, OwnAt K F H O w v xs → ∃ p vs, v = .ref p ∧ Rd H p (.lst vs) ∧ DqAll K F vs xs := fun w xs ⟨p, vs, a, _, c, d⟩ => ⟨p, vs, a, .inl c, d⟩
  have dat : Dq K F v (.list xs) → ∃ p vs, v = .ref p ∧ Rd H p (.lst vs) ∧ DqAll K F vs xs := fun q => by
    cases q with
    | lst h1 h2 => exact ⟨_, _, rfl, rd_sub S.fh h1, h2⟩
  cases r with
  | d y => cases e; exact dat t
  | fresh ys => cases e; exact own _ _ t
  | fn f => cases e
  | slot i =>
    cases q : ρ[i]? with
    | none => simp only [R.peek, q] at e; cases e
    | some w =>
      simp only [R.peek, q] at e
      cases w with
      | none => cases e
      | some w =>
        obtain ⟨v', h1, h2⟩ := S.slots i w q
        have hv : v' = v := by
          have t' : σ[i]? = some (some v) := t
          rw [t'] at h1
          exact (Option.some.inj (Option.some.inj h1)).symm
        subst hv
        cases w with
        | d y => cases e; exact dat h2
        | own l ys => cases e; exact own _ _ h2
        | fn f => cases e
theorem Sep.peekT (S : Sep K A B σ ρ T H F O) {k : Nat} {r : R} {v : V} {xs : List D} (h : T[k]? = some (r, v)) (e : r.peek ρ = some (.tuple xs)) :
    Dq K F v (.tuple xs) ∧ ∃ p vs, v = .ref p ∧ SqT K H p vs ∧ DqAll K F vs xs := by
  have t := S.temps k r v h
  have dat : Dq K F v (.tuple xs) → Dq K F v (.tuple xs) ∧ ∃ p vs, v = .ref p ∧ SqT K H p vs ∧ DqAll K F vs xs := fun q => ⟨q, by
    cases q with
    | tup h1 h2 => exact ⟨_, _, rfl, sqt_sub S.fh h1, h2⟩⟩
  cases r with
  | d y => cases e; exact dat t
  | fresh ys => cases e
  | fn f => cases e
  | slot i =>
    cases q : ρ[i]? with
    | none => simp only [R.peek, q] at e; cases e
    | some w =>
      simp only [R.peek, q] at e
      cases w with
      | none => cases e
      | some w =>
        obtain ⟨v', h1, h2⟩ := S.slots i w q
        have hv : v' = v := by
          have t' : σ[i]? = some (some v) := t
          rw [t'] at h1
          exact (Option.some.inj (Option.some.inj h1)).symm
        subst hv
        cases w with
        | d y => cases e; exact dat h2
        | own l ys => cases e
        | fn f => cases e
/-- a new tuple of data -/
theorem Sep.newTup (S : Sep K A B σ ρ T H F O) {p : Addr} {vs : List V} {xs : List D} (h : H p = none) (hd : DqAll K F vs xs) : At K A B σ ρ (T ++ [(.d (.tuple xs), .ref p)]) (upd H p (.tup vs)) := by
  have f := (S.fresh h).1
  exact ⟨_, O, (S.laid (o := .tup vs) h nonT_tup).push (.tup (.inl (.inl upd_same)) (dpa_sub (Sub.upd f) _ _ hd))⟩
theorem Sep.newLst (S : Sep K A B σ ρ T H F O) {p : Addr} {vs : List V} {xs : List D} (h : H p = none) (hd : DqAll K F vs xs) : At K A B σ ρ (T ++ [(.fresh xs, .ref p)]) (upd H p (.lst vs)) := ⟨F, _, S.newList h hd⟩
theorem Sep.pushD (S : Sep K A B σ ρ T H F O) {v : V} {x : D} (h : Dq K F v x) : At K A B σ ρ (T ++ [(.d x, v)]) H := ⟨F, O, S.push h⟩
theorem Sep.sc (S : Sep K A B σ ρ T H F O) : At K A B σ ρ T H := ⟨F, O, S⟩

/-! ### constants and names -/
theorem rd_c {v : V} {x : D} {e : Expr} (hp : PE X e (tC v)) (hd : ∀ F, Dq K F v x) : PE X e (RdE K A Wx fun ρ => .ok (.d x, ρ)) := PE_imp hp fun σ H Q ⟨B, ρ, T, ⟨F, O, S⟩, g⟩ => g v H (S.pushD (hd F))
theorem rd_var {i : Nat} {e : Expr} (Γ : Ctx) (hp : PE X e (tVar i)) : PE X e (RdE K A Wx (evE Γ (.var i))) := PE_imp hp fun σ H Q ⟨B, ρ, T, ⟨F, O, S⟩, g⟩ => by
  simp only [evE] at g
  cases q : ρ[i]? with
  | none => simp only [q] at g; exact (show False from g).elim
  | some w =>
    cases w with
    | none => simp only [q] at g; exact (show False from g).elim
    | some w =>
      simp only [q] at g
      obtain ⟨v, h1, h2⟩ := S.slots i w q
      refine ⟨v, h1, ?_⟩
      cases w with
      | d x => exact g v H (S.pushD h2)
      | own l xs => exact g v H ⟨F, O, S.push (r := .slot i) h1⟩
      | fn f => exact g v H ⟨F, O, S.push (r := .fn f) h2⟩

/-! ### rows of expressions -/
theorem rda_nil : PA X [] (RdA K A Wx fun ρ => .ok ([], ρ)) := PA_imp pa_nil fun σ H Q ⟨B, ρ, T, at_, g⟩ => g [] H rfl (by simpa using at_)
theorem rda_cons {e : Expr} {es : List Expr} {ev : Env → Res (R × Env)} {evs : Env → Res (List R × Env)} (h1 : PE X e (RdE K A Wx ev)) (h2 : PA X es (RdA K A Wx evs)) (hs : noStar e = true) :
    PA X (e :: es) (RdA K A Wx fun ρ => do let (r, ρ) ← ev ρ; let (rs, ρ) ← evs ρ; .ok (r :: rs, ρ)) := by
  refine PA_imp (pa_cons h1 h2 (star_head (noStar_ne hs))) fun σ H Q ⟨B, ρ, T, at_, g⟩ => ?_
  refine ⟨B, ρ, T, at_, (gd_bind.mp g).mono (fun ⟨r, ρ1⟩ g1 v H1 at1 => ?_) fun _ _ h => h⟩
  refine ⟨B, ρ1, _, at1, (gd_bind.mp g1).mono (fun ⟨rs, ρ2⟩ g2 vs H2 hl at2 => ?_) fun _ _ h => h⟩
  exact g2 (v :: vs) H2 (by simp [hl]) (by simpa using at2)
/-- displays -/
theorem rd_tup {es : List Expr} {x1 : Nat} {pos : Pos} {evs : Env → Res (List R × Env)} (h : PA X es (RdA K A Wx evs)) :
    PE X (.Tuple es x1 pos) (RdE K A Wx fun ρ => do let (rs, ρ) ← evs ρ; let (xs, ρ) ← Res.of (keepAll rs ρ); if xs.length ≤ LIM then .ok (.d (.tuple xs), ρ) else .stuck) := by
  refine PE_imp (pe_tup h) fun σ H Q ⟨B, ρ, T, at_, g⟩ => ?_
  refine ⟨B, ρ, T, at_, (gd_bind.mp g).mono (fun ⟨rs, ρ1⟩ g1 vs H1 hl ⟨F, O, S⟩ => ?_) fun _ _ h => h⟩
  obtain ⟨⟨xs, ρ2⟩, e1, g2⟩ := gd_of (gd_bind.mp g1)
  obtain ⟨hz, g3⟩ := gd_if_stuck g2
  obtain ⟨F1, O1, S1, _, da, _⟩ := S.keepAll hl e1
  have hn := dpa_len da
  exact ⟨Nat.le_trans (by rw [hn]; exact hz) (by decide), fun p hp => g3 _ _ (S1.drop.newTup hp da)⟩
theorem rd_lst {es : List Expr} {pos : Pos} {evs : Env → Res (List R × Env)} (h : PA X es (RdA K A Wx evs)) :
    PE X (.List es pos) (RdE K A Wx fun ρ => do let (rs, ρ) ← evs ρ; let (xs, ρ) ← Res.of (keepAll rs ρ); if xs.length ≤ LIM then .ok (.fresh xs, ρ) else .stuck) := by
  refine PE_imp (pe_lst h) fun σ H Q ⟨B, ρ, T, at_, g⟩ => ?_
  refine ⟨B, ρ, T, at_, (gd_bind.mp g).mono (fun ⟨rs, ρ1⟩ g1 vs H1 hl ⟨F, O, S⟩ => ?_) fun _ _ h => h⟩
  obtain ⟨⟨xs, ρ2⟩, e1, g2⟩ := gd_of (gd_bind.mp g1)
  obtain ⟨hz, g3⟩ := gd_if_stuck g2
  obtain ⟨F1, O1, S1, _, da, _⟩ := S.keepAll hl e1
  have hn := dpa_len da
  exact ⟨Nat.le_trans (by rw [hn]; exact hz) (by decide), fun p hp => g3 _ _ (S1.drop.newLst hp da)⟩
end
end Mn
set_option Elab.async false
set_option linter.all false
set_option maxRecDepth 100000
set_option maxHeartbeats 1000000
namespace Mn
open PySem PySem.Spec PyProof.Rows L2

section
variable {X : Cx} {K : PySem.W.Frag} {A : Ad} {Wx : WX} {B : Bs} {σ : L2.St} {ρ ρ' : Env} {T : Tmps} {H H' F : Hp} {O : Addr → Option Owner}
theorem rd_list {pins : List (Addr × Obj)} {s : Shared} {a : Addr} {xs : List V} (I : Inv X pins σ H s) (h : Rd H a (.lst xs)) :
    ∃ its n, Vals xs its ∧ s.heap.get? a = some { cls := .type "list", data := .seq its.toArray n } ∧ xs.length ≤ sizeLine := by
  obtain ⟨z, its, n, r, e⟩ := h.ok I.hok
  exact ⟨its, n, r, e, z⟩
/-- xs + ys -/
def rCatL : R2 := fun x y H Q => ∃ l b xs zs, x = V.ref l ∧ y = V.ref b ∧ Rd H l (.lst xs) ∧ Rd H b (.lst zs) ∧ xs.length + zs.length ≤ sizeLine ∧ ∀ p, H p = none → Q (.ref p) (upd H p (.lst (xs ++ zs)))
theorem op_catL : OpR X (binaryOp .Add) rCatL := by
  intro pins s σ H x y v u Q I rx ry h
  obtain ⟨l, b, xs, zs, rfl, rfl, hl, hb, hz, q⟩ := h
  obtain rfl : v = Value.ref l := rx
  obtain rfl : u = Value.ref b := ry
  obtain ⟨i1, n1, r1, e1, _⟩ := rd_list I hl
  obtain ⟨i2, n2, r2, e2, _⟩ := rd_list I hb
  have l1 := r1.length
  have l2 := r2.length
  refine PySem.P.add_list e1 e2 ?_ (by simp only [List.size_toArray]; omega)
  have ea : i1.toArray ++ i2.toArray = (i1 ++ i2).toArray := by simp
  rw [ea]
  refine ⟨V.ref s.heap.objs.size, _, I.laid (t' := s.toks) (o := .lst (xs ++ zs)) (fun c o z => Heap.get?_push_of_some _ z) (Nat.le_refl _) ?_, rfl, q _ (I.hok.fresh (Nat.le_refl _))⟩
  exact ⟨by rw [List.length_append]; omega, i1 ++ i2, 0, r1.append r2, Heap.get?_push_size _ rfl⟩
def opRule (K : PySem.W.Frag) : Op2 → R2
  | .add => fun x y H Q => (rI0 (fun i j => .int (i + j)) x y H Q ∨ (∃ i j, x = V.str i ∧ y = V.str j ∧ i.length + j.length ≤ sizeLine ∧ Q (V.str (i ++ j)) H)) ∨ (rCatL x y H Q ∨ rCatT K x y H Q)
  | .sub => rI0 fun i j => .int (i - j)
  | .mul => rI CMul fun i j => .int (i * j)
  | .mod => rI (fun _ j => j ≠ 0) fun i j => .int (i.fmod j)
  | .fdiv => rI CDivN fun i j => .int (i.fdiv j)
  | .pow => rI CPow fun i j => .int (i ^ j.toNat)
def Op2.py : Op2 → Operator
  | .add => .Add | .sub => .Sub | .mul => .Mult | .mod => .Mod | .fdiv => .FloorDiv | .pow => .Pow
theorem opRule_ok : ∀ o : Op2, OpR X (binaryOp o.py) (opRule X.K o)
  | .add => OpR_or (OpR_or op_add op_add_str) (OpR_or op_catL op_catT)
  | .sub => op_sub
  | .mul => op_mul
  | .mod => op_modN
  | .fdiv => op_fdivN
  | .pow => op_pow
theorem lim_size : LIM ≤ sizeLine := by decide
/-- where two temporaries stand on top -/
theorem two_top {T : Tmps} {a b : R × V} : (T ++ [a] ++ [b])[T.length]? = some a ∧ (T ++ [a] ++ [b])[T.length + 1]? = some b := by
  constructor
  · rw [List.append_assoc, List.getElem?_append_right (Nat.le_refl _)]; simp
  · rw [List.append_assoc, List.getElem?_append_right (by omega)]; simp
theorem one_top {T : Tmps} {a : R × V} : (T ++ [a])[T.length]? = some a := by simp
theorem bigOk_mul {i j : Int} (h : bigOk i j = true) : CMul i j := by
  unfold bigOk at h
  rw [Bool.or_eq_true, decide_eq_true_eq, decide_eq_true_eq] at h
  exact h
/-- an operation on data, on the heap -/
theorem op_sound {o : Op2} {a b : R} {x y : V} {u v : D} {r : R} {Q : VK} (S : Sep K A B σ ρ (T ++ [(a, x)] ++ [(b, y)]) H F O) (hu : a.peek ρ = some u) (hv : b.peek ρ = some v) (e : opD o u v = some r)
    (g : ∀ z H', At K A B σ ρ (T ++ [(r, z)]) H' → Q z H') : opRule K o x y H Q := by
  have px := S.peek two_top.1 hu
  have py := S.peek two_top.2 hv
  have S0 := S.drop.drop
  have int : ∀ z : Int, r = .d (.int z) → Q (.int z) H := fun z hz => g _ _ (by rw [hz]; exact S0.pushD (.int z))
  cases o with
  | add =>
    cases u with
    | int i =>
      cases v with
      | int j => cases e; exact .inl (.inl ⟨i, j, dp_int px, dp_int py, int _ rfl⟩)
      | _ => cases e
    | str i =>
      cases v with
      | str j =>
        simp only [opD] at e
        split at e
        · rename_i hz
          cases e
          exact .inl (.inr ⟨i, j, dp_str px, dp_str py, Nat.le_trans hz lim_size, g _ _ (S0.pushD (.str _))⟩)
        · cases e
      | _ => cases e
    | list xs =>
      cases v with
      | list ys =>
        simp only [opD] at e
        split at e
        · rename_i hz
          cases e
          obtain ⟨p, vs, ex, hp, dp⟩ := S.peekL two_top.1 hu
          obtain ⟨q, us, ey, hq, dq⟩ := S.peekL two_top.2 hv
          refine .inr (.inl ⟨p, q, vs, us, ex, ey, hp, hq, ?_, fun z hz' => g _ _ (S0.newLst hz' (dpa_app dp dq))⟩)
          rw [dpa_len dp, dpa_len dq]; exact Nat.le_trans hz lim_size
        · cases e
      | _ => cases e
    | tuple xs =>
      cases v with
      | tuple ys =>
        simp only [opD] at e
        split at e
        · rename_i hz
          cases e
          obtain ⟨dx, p, vs, ex, hp, dp⟩ := S.peekT two_top.1 hu
          obtain ⟨_, q, us, ey, hq, dq⟩ := S.peekT two_top.2 hv
          refine .inr (.inr ⟨p, q, vs, us, ex, ey, hp, hq, fun z => hz.2 ?_, ?_, fun z => ?_, fun _ z hz' => g _ _ (S0.newTup hz' (dpa_app dp dq))⟩)
          · subst z; cases dp; rfl
          · rw [dpa_len dp, dpa_len dq]; exact Nat.le_trans hz.1 lim_size
          · subst z
            cases dq
            refine g _ _ ?_
            rw [List.append_nil, ← ex]
            exact S0.pushD dx
        · cases e
      | _ => cases e
    | _ => cases v <;> cases e
  | sub =>
    cases u with
    | int i =>
      cases v with
      | int j => cases e; exact ⟨i, j, dp_int px, dp_int py, int _ rfl⟩
      | _ => cases e
    | _ => cases v <;> cases e
  | mul =>
    cases u with
    | int i =>
      cases v with
      | int j =>
        simp only [opD] at e
        split at e
        · rename_i hz
          cases e
          exact ⟨i, j, dp_int px, dp_int py, bigOk_mul hz, int _ rfl⟩
        · cases e
      | _ => cases e
    | _ => cases v <;> cases e
  | mod =>
    cases u with
    | int i =>
      cases v with
      | int j =>
        simp only [opD] at e
        split at e
        · rename_i hz
          cases e
          exact ⟨i, j, dp_int px, dp_int py, hz, int _ rfl⟩
        · cases e
      | _ => cases e
    | _ => cases v <;> cases e
  | fdiv =>
    cases u with
    | int i =>
      cases v with
      | int j =>
        simp only [opD] at e
        split at e
        · rename_i hz
          cases e
          exact ⟨i, j, dp_int px, dp_int py, hz, int _ rfl⟩
        · cases e
      | _ => cases e
    | _ => cases v <;> cases e
  | pow =>
    cases u with
    | int i =>
      cases v with
      | int j =>
        simp only [opD] at e
        split at e
        · rename_i hz
          cases e
          exact ⟨i, j, dp_int px, dp_int py, hz, int _ rfl⟩
        · cases e
      | _ => cases e
    | _ => cases v <;> cases e
theorem rd_op {o : Op2} {a b : Expr} {pos : Pos} {ea eb : Env → Res (R × Env)} (ha : PE X a (RdE X.K A Wx ea)) (hb : PE X b (RdE X.K A Wx eb)) :
    PE X (.BinOp a o.py b pos) (RdE X.K A Wx fun ρ => do
      let (x, ρ) ← ea ρ
      let (y, ρ) ← eb ρ
      let u ← Res.of (x.peek ρ)
      let v ← Res.of (y.peek ρ)
      let r ← Res.of (opD o u v)
      .ok (r, ρ)) := by
  refine PE_imp (pe_op (opRule_ok o) ha hb) fun σ H Q ⟨B, ρ, T, at_, g⟩ => ?_
  refine ⟨B, ρ, T, at_, (gd_bind.mp g).mono (fun ⟨x, ρ1⟩ g1 v H1 at1 => ?_) fun _ _ h => h⟩
  refine ⟨B, ρ1, _, at1, (gd_bind.mp g1).mono (fun ⟨y, ρ2⟩ g2 v' H2 ⟨F, O, S⟩ => ?_) fun _ _ h => h⟩
  obtain ⟨u, e1, g3⟩ := gd_of (gd_bind.mp g2)
  obtain ⟨w, e2, g4⟩ := gd_of (gd_bind.mp g3)
  obtain ⟨r, e3, g5⟩ := gd_of (gd_bind.mp g4)
  exact op_sound S e1 e2 e3 g5
end
end Mn
set_option Elab.async false
set_option linter.all false
set_option maxRecDepth 100000
set_option maxHeartbeats 1000000
namespace Mn
open PySem PySem.Spec PyProof.Rows L2

section
variable {X : Cx} {K : PySem.W.Frag} {A : Ad} {Wx : WX} {B : Bs} {σ : L2.St} {ρ ρ' : Env} {T : Tmps} {H H' F : Hp} {O : Addr → Option Owner}
def Cp.py : Cp → CmpOp
  | .eq => .Eq | .ne => .NotEq | .lt => .Lt | .le => .LtE | .gt => .Gt | .ge => .GtE | .isin => .In | .notin => .NotIn
def rCmp (K : PySem.W.Frag) (o : Cp) : R2 := fun x y H Q => ∃ u v b, Dp K H x u ∧ Dp K H y v ∧ cmpD o u v = some b ∧ Q (.bl b) H
theorem p_int {i : Int} {v : V} (h : Dp K F v (.int i)) : v = .int i := by cases h; rfl
theorem p_str {i : Str} {v : V} (h : Dp K F v (.str i)) : v = .str i := by cases h; rfl
theorem room_in {A : Around} {d : D} {xs : List D} (h : SeqAt.shaped d = true) (hu : A.units + 65 < cLine) : A.units + 1 + min (PyData.depthAll xs) d.depth < cLine := by
  have h1 := SeqAt.depth_of_shaped h
  have h2 : min (PyData.depthAll xs) d.depth ≤ d.depth := Nat.min_le_right _ _
  omega
theorem lt_ok (hu : X.A.units + 65 < cLine) {pins : List (Addr × Obj)} {s : Shared} {x y : V} {u v : Value} {a b : D} {Q : VK} (I : Inv X pins σ H s) (rx : RelV x u) (ry : RelV y v) (ha : Dp X.K H x a) (hb : Dp X.K H y b)
    (hal : PySem.W.alike a b = true) (hn : isNoneD a = false) (hd : a.depth ≤ 60) (q : Q (.bl (PySem.W.dataLt a b)) H) : wpAny (model X.prog X.w) X.A (compareOp .Lt u v) (EP X pins σ Q) X.xe s := by
  obtain ⟨as, r1⟩ := Dp.reads I a x u ha rx
  obtain ⟨bs, r2⟩ := Dp.reads I b y v hb ry
  have hn' : a ≠ .none := fun z => by subst z; cases hn
  have h := PySem.W.rcLt_alike a b X.A s u v as bs r1 r2 hal hn' (by have := Nat.min_le_left a.depth b.depth; omega)
  exact h X.prog X.w X.xe (EP X pins σ Q) ⟨.bl _, H, I, rfl, q⟩
theorem cmp_ok (hu : X.A.units + 65 < cLine) : ∀ o : Cp, OpR X (compareOp o.py) (rCmp X.K o) := by
  have hu64 : X.A.units + 64 < cLine := by omega
  intro o pins s σ H x y v u Q I rx ry ⟨a, b, t, ha, hb, e, q⟩
  cases o with
  | eq =>
    simp only [cmpD] at e
    split at e
    · rename_i hs
      rw [Bool.and_eq_true] at hs
      cases e
      exact op_eqD hu64 pins s σ H x y v u Q I rx ry ⟨a, b, ha, hb, hs.1, hs.2, q⟩
    · cases e
  | ne =>
    simp only [cmpD] at e
    split at e
    · rename_i hs
      rw [Bool.and_eq_true] at hs
      cases e
      exact op_neD hu64 pins s σ H x y v u Q I rx ry ⟨a, b, ha, hb, hs.1, hs.2, q⟩
    · cases e
  | lt =>
    have gen : (if PySem.W.alike a b && !isNoneD a && decide (a.depth ≤ 60) then some (PySem.W.dataLt a b) else none) = some t → wpAny (model X.prog X.w) X.A (compareOp .Lt v u) (EP X pins σ Q) X.xe s := fun e => by
      split at e
      · rename_i hs
        simp only [Bool.and_eq_true, Bool.not_eq_true', decide_eq_true_eq] at hs
        cases e
        exact lt_ok hu I rx ry ha hb hs.1.1 hs.1.2 hs.2 q
      · cases e
    cases a with
    | int i =>
      cases b with
      | int j => cases e; exact op_lt pins s σ H x y v u Q I rx ry ⟨i, j, p_int ha, p_int hb, q⟩
      | _ => exact gen e
    | _ => exact gen e
  | le =>
    cases a with
    | int i =>
      cases b with
      | int j => cases e; exact op_le pins s σ H x y v u Q I rx ry ⟨i, j, p_int ha, p_int hb, q⟩
      | _ => cases e
    | _ => cases b <;> cases e
  | gt =>
    cases a with
    | int i =>
      cases b with
      | int j => cases e; exact op_gt pins s σ H x y v u Q I rx ry ⟨i, j, p_int ha, p_int hb, q⟩
      | _ => cases e
    | _ => cases b <;> cases e
  | ge =>
    cases a with
    | int i =>
      cases b with
      | int j => cases e; exact op_ge pins s σ H x y v u Q I rx ry ⟨i, j, p_int ha, p_int hb, q⟩
      | _ => cases e
    | _ => cases b <;> cases e
  | isin =>
    cases b with
    | str z =>
      cases a with
      | str w =>
        simp only [cmpD] at e
        split at e
        · rename_i c hc
          cases e
          have ew : w = ⟨#[c]⟩ := by
            obtain ⟨cs⟩ := w
            have : cs = #[c] := by
              apply Array.ext'
              simpa using hc
            rw [this]
          subst ew
          exact op_in_sign pins s σ H x y v u Q I rx ry ⟨c, z, p_str ha, p_str hb, q⟩
        · cases e
      | _ => cases e
    | list xs =>
      have gen : (if SeqAt.shaped a && SeqAt.shaped (.list xs) then some (xs.any fun x => PyData.eqv x a) else none) = some t → wpAny (model X.prog X.w) X.A (compareOp .In v u) (EP X pins σ Q) X.xe s := fun e => by
        split at e
        · rename_i hs
          rw [Bool.and_eq_true] at hs
          cases e
          exact op_inD hu pins s σ H x y v u Q I rx ry ⟨a, xs, ha, hb, hs.1, hs.2, q⟩
        · cases e
      cases a <;> exact gen e
    | tuple xs =>
      have gen : (if SeqAt.shaped a && SeqAt.shaped (.tuple xs) then some (xs.any fun x => PyData.eqv x a) else none) = some t → wpAny (model X.prog X.w) X.A (compareOp .In v u) (EP X pins σ Q) X.xe s := fun e => by
        split at e
        · rename_i hs
          rw [Bool.and_eq_true] at hs
          cases e
          obtain ⟨as, r1⟩ := Dp.reads I a x v ha rx
          obtain ⟨bs, r2⟩ := Dp.reads I (.tuple xs) y u hb ry
          exact SeqAt.in_tuple_reads r2 r1 (SeqAt.canLay_of_shaped hs.2) (SeqAt.canLay_of_shaped hs.1) (room_in hs.1 hu) ⟨.bl _, H, I, rfl, q⟩
        · cases e
      cases a <;> exact gen e
    | _ => cases a <;> cases e
  | notin =>
    cases b with
    | str z =>
      cases a with
      | str w =>
        simp only [cmpD] at e
        split at e
        · rename_i c hc
          cases e
          have ew : w = ⟨#[c]⟩ := by
            obtain ⟨cs⟩ := w
            have : cs = #[c] := by
              apply Array.ext'
              simpa using hc
            rw [this]
          subst ew
          exact op_notIn_sign pins s σ H x y v u Q I rx ry ⟨c, z, p_str ha, p_str hb, q⟩
        · cases e
      | _ => cases e
    | list xs =>
      have gen : (if SeqAt.shaped a && SeqAt.shaped (.list xs) then some (!xs.any fun x => PyData.eqv x a) else none) = some t → wpAny (model X.prog X.w) X.A (compareOp .NotIn v u) (EP X pins σ Q) X.xe s := fun e => by
        split at e
        · rename_i hs
          rw [Bool.and_eq_true] at hs
          cases e
          exact op_notInD hu pins s σ H x y v u Q I rx ry ⟨a, xs, ha, hb, hs.1, hs.2, q⟩
        · cases e
      cases a <;> exact gen e
    | tuple xs =>
      have gen : (if SeqAt.shaped a && SeqAt.shaped (.tuple xs) then some (!xs.any fun x => PyData.eqv x a) else none) = some t → wpAny (model X.prog X.w) X.A (compareOp .NotIn v u) (EP X pins σ Q) X.xe s := fun e => by
        split at e
        · rename_i hs
          rw [Bool.and_eq_true] at hs
          cases e
          obtain ⟨as, r1⟩ := Dp.reads I a x v ha rx
          obtain ⟨bs, r2⟩ := Dp.reads I (.tuple xs) y u hb ry
          exact SeqAt.notIn_tuple_reads r2 r1 (SeqAt.canLay_of_shaped hs.2) (SeqAt.canLay_of_shaped hs.1) (room_in hs.1 hu) ⟨.bl _, H, I, rfl, q⟩
        · cases e
      cases a <;> exact gen e
    | _ => cases a <;> cases e

/-! ### tests -/
def noSet : Expr → Bool
  | .Set _ _ _ => false
  | _ => true
theorem noSet_marks {o : CmpOp} {b : Expr} (h : noSet b = true) : behindInMarks o b = false := by
  cases b <;> first | rfl | cases h
theorem rdt_cmp (hu : X.A.units + 65 < cLine) {o : Cp} {a b : Expr} {pos : Pos} {ea eb : Env → Res (R × Env)} (hs : noSet b = true) (ha : PE X a (RdE X.K A Wx ea)) (hb : PE X b (RdE X.K A Wx eb)) :
    PT X (.Compare a [o.py] [b] pos) (RdT X.K A Wx fun ρ => do
      let (x, ρ) ← ea ρ
      let (y, ρ) ← eb ρ
      let u ← Res.of (x.peek ρ)
      let v ← Res.of (y.peek ρ)
      let t ← Res.of (cmpD o u v)
      .ok (t, ρ)) := by
  refine PT_imp (pt_cmpR (cmp_ok hu o) ha hb (noSet_marks hs)) fun σ H Q ⟨B, ρ, T, at_, g⟩ => ?_
  refine ⟨B, ρ, T, at_, (gd_bind.mp g).mono (fun ⟨x, ρ1⟩ g1 v H1 at1 => ?_) fun _ _ h => h⟩
  refine ⟨B, ρ1, _, at1, (gd_bind.mp g1).mono (fun ⟨y, ρ2⟩ g2 v' H2 ⟨F, O, S⟩ => ?_) fun _ _ h => h⟩
  obtain ⟨u, e1, g3⟩ := gd_of (gd_bind.mp g2)
  obtain ⟨w, e2, g4⟩ := gd_of (gd_bind.mp g3)
  obtain ⟨r, e3, g5⟩ := gd_of (gd_bind.mp g4)
  exact ⟨u, w, r, (S.peek two_top.1 e1).dp, (S.peek two_top.2 e2).dp, e3, r, rfl, g5 H2 S.drop.drop.sc⟩
theorem last_marks {o o' : CmpOp} {b c : Expr} (h : noSet c = true) : lastMarks [o, o'] [b, c] = false := by
  show behindInMarks o' c = false
  exact noSet_marks h
theorem rdt_chain (hu : X.A.units + 65 < cLine) {o o' : Cp} {a b c : Expr} {pos : Pos} {ea eb ec : Env → Res (R × Env)} (hs : noSet c = true) (ha : PE X a (RdE X.K A Wx ea)) (hb : PE X b (RdE X.K A Wx eb)) (hc : PE X c (RdE X.K A Wx ec)) :
    PT X (.Compare a [o.py, o'.py] [b, c] pos) (RdT X.K A Wx fun ρ => do
      let (x, ρ) ← ea ρ
      let (y, ρ) ← eb ρ
      let u ← Res.of (x.peek ρ)
      let v ← Res.of (y.peek ρ)
      let t ← Res.of (cmpD o u v)
      if t then do
        let (z, ρ) ← ec ρ
        let v ← Res.of (y.peek ρ)
        let w ← Res.of (z.peek ρ)
        let t ← Res.of (cmpD o' v w)
        .ok (t, ρ)
      else .ok (false, ρ)) := by
  refine PT_imp (pt_chain (cmp_ok hu o) (cmp_ok hu o') ha hb hc (last_marks hs)) fun σ H Q ⟨B, ρ, T, at_, g⟩ => ?_
  refine ⟨B, ρ, T, at_, (gd_bind.mp g).mono (fun ⟨x, ρ1⟩ g1 v H1 at1 => ?_) fun _ _ h => h⟩
  refine ⟨B, ρ1, _, at1, (gd_bind.mp g1).mono (fun ⟨y, ρ2⟩ g2 v' H2 ⟨F, O, S⟩ => ?_) fun _ _ h => h⟩
  obtain ⟨u, e1, g3⟩ := gd_of (gd_bind.mp g2)
  obtain ⟨w, e2, g4⟩ := gd_of (gd_bind.mp g3)
  obtain ⟨r, e3, g5⟩ := gd_of (gd_bind.mp g4)
  refine ⟨u, w, r, (S.peek two_top.1 e1).dp, (S.peek two_top.2 e2).dp, e3, r, rfl, ?_⟩
  cases r with
  | false =>
    refine iteF ⟨false, rfl, ?_⟩
    exact g5 H2 S.drop.drop.sc
  | true =>
    refine iteT ?_
    have g6 := gd_bind.mp g5
    refine ⟨B, ρ2, _, S.sc, g6.mono (fun ⟨z, ρ3⟩ g7 v3 H3 ⟨F3, O3, S3⟩ => ?_) fun _ _ h => h⟩
    obtain ⟨u2, e5, g8⟩ := gd_of (gd_bind.mp g7)
    obtain ⟨w2, e6, g9⟩ := gd_of (gd_bind.mp g8)
    obtain ⟨r2, e7, g10⟩ := gd_of (gd_bind.mp g9)
    have i1 : ((T ++ [(x, v)] ++ [(y, v')]) ++ [(z, v3)])[T.length + 1]? = some (y, v') := by
      rw [List.getElem?_append_left (by simp)]
      exact two_top.2
    exact ⟨u2, w2, r2, (S3.peek i1 e5).dp, (S3.peek one_top e6).dp, e7, r2, rfl, g10 H3 S3.drop.drop.drop.sc⟩
/-- a plain expression's truth -/
def plainTest : Expr → Bool
  | .UnaryOp _ _ _ => false
  | .BoolOp _ _ _ => false
  | .IfExp _ _ _ _ => false
  | .Compare _ _ _ _ => false
  | _ => true
theorem plain_true {e : Expr} {env : PySem.Env} (h : plainTest e = true) (whole : Sem Value) : isTrue e env whole = (do let v ← whole; standAt e.pos; holding [v] (truthy v)) := by
  cases e <;> first | rfl | cases h
theorem tru_sound {v : V} {u : D} {t : Bool} (h : Dp K H v u) (e : truD u = some t) : TruV K v H t := by
  cases u with
  | none => cases h; cases e; rfl
  | bool b => cases h; cases e; rfl
  | int i => cases h; cases e; rfl
  | str s =>
    cases h
    simp only [truD] at e
    split at e
    · rename_i hz
      cases e
      exact ⟨Nat.le_trans hz lim_size, rfl⟩
    · cases e
  | list xs =>
    cases h with
    | lst h1 h2 =>
      cases e
      rename_i a vs
      refine .inl ⟨vs, h1, ?_⟩
      cases h2 <;> rfl
  | tuple xs =>
    cases h with
    | tup h1 h2 =>
      cases e
      rename_i a vs
      refine .inr (.inl ⟨vs, h1, ?_⟩)
      cases h2 <;> rfl
  | dict _ => cases e
theorem rdt_tru {a : Expr} {ea : Env → Res (R × Env)} (hp : plainTest a = true) (ha : PE X a (RdE X.K A Wx ea)) :
    PT X a (RdT X.K A Wx fun ρ => do
      let (x, ρ) ← ea ρ
      let u ← Res.of (x.peek ρ)
      let t ← Res.of (truD u)
      .ok (t, ρ)) := by
  refine PT_imp (pt_truth ha (plain_true hp)) fun σ H Q ⟨B, ρ, T, at_, g⟩ => ?_
  refine ⟨B, ρ, T, at_, (gd_bind.mp g).mono (fun ⟨x, ρ1⟩ g1 v H1 ⟨F, O, S⟩ => ?_) fun _ _ h => h⟩
  obtain ⟨u, e1, g3⟩ := gd_of (gd_bind.mp g1)
  obtain ⟨t, e2, g4⟩ := gd_of (gd_bind.mp g3)
  exact ⟨t, tru_sound (S.peek one_top e1).dp e2, g4 H1 S.drop.sc⟩
end
end Mn
set_option Elab.async false
set_option linter.all false
set_option maxRecDepth 100000
set_option maxHeartbeats 1000000
namespace Mn
open PySem PySem.Spec PyProof.Rows L2

section
variable {X : Cx} {K : PySem.W.Frag} {A : Ad} {Wx : WX} {B : Bs} {σ : L2.St} {ρ ρ' : Env} {T : Tmps} {H H' F : Hp} {O : Addr → Option Owner}
/-! ### sorted, repr -/
def RD (K : PySem.W.Frag) (F : Hp) : Value → D → Prop := fun u d => ∃ x, RelV x u ∧ Dq K F x d
theorem each_of {F : Hp} : ∀ {vs : List V} {us : List Value} {ds : List D}, Vals vs us → DqAll K F vs ds → PySem.W.EachIs (RD K F) us ds
  | _, _, _, .nil, .nil => .nil
  | _, _, _, .cons r t, .cons d ds => .cons ⟨_, r, d⟩ (each_of t ds)
theorem of_each {F : Hp} : ∀ {us : List Value} {ds : List D}, PySem.W.EachIs (RD K F) us ds → ∃ vs, Vals vs us ∧ DqAll K F vs ds
  | _, _, .nil => ⟨[], .nil, .nil⟩
  | _, _, .cons ⟨x, r, d⟩ t => by
    obtain ⟨vs, a, b⟩ := of_each t
    exact ⟨x :: vs, .cons r a, .cons d b⟩
theorem each_reads {pins : List (Addr × Obj)} {s : Shared} (I : Inv X pins σ H s) (hs : Sub F H) : ∀ {us : List Value} {ds : List D}, PySem.W.EachIs (RD X.K F) us ds → PySem.W.EachIs (fun v b => ∃ as, Reads s.heap v b as) us ds
  | _, _, .nil => .nil
  | _, _, .cons ⟨x, r, d⟩ t => .cons (Dp.reads I _ x _ (Dq.dp _ _ (dp_sub hs _ _ d)) r) (each_reads I hs t)
theorem sortOk_of {ds : List D} (h : sortOk ds = true) : PySem.W.AllAlike ds ∧ PySem.W.Sortable ds ∧ ds.length ≤ LIM ∧ ∀ d ∈ ds, d.depth ≤ 60 := by
  unfold sortOk at h
  simp only [Bool.and_eq_true, decide_eq_true_eq, List.all_eq_true, Bool.or_eq_true] at h
  obtain ⟨⟨⟨h1, h2⟩, h3⟩, h4⟩ := h
  refine ⟨fun a ha b hb => h1 a ha b hb, ?_, h3, h4⟩
  rcases h2 with h2 | h2
  · refine .inl fun d hd => ?_
    have := h2 d hd
    cases d with
    | tuple xs =>
      cases xs with
      | nil => cases this
      | cons x r => exact ⟨x, r, rfl⟩
    | _ => cases this
  · refine .inr fun d hd => ?_
    have := h2 d hd
    constructor
    · intro z; subst z; cases this
    · intro xs z; subst z; cases this
def rSortD (K : PySem.W.Frag) : List V → Hp → VK → Prop := fun xs H Q => ∃ F l vs ds, Sub F H ∧ xs = [V.ref l] ∧ Rd H l (.lst vs) ∧ DqAll K F vs ds ∧ sortOk ds = true ∧
  ∀ us p, H p = none → DqAll K F us (sortD ds) → Q (.ref p) (upd H p (.lst us))
theorem cr_sortD (hu : X.A.units + 65 < cLine) : CallR X (.builtin "sorted") (rSortD X.K) := by
  intro pins s σ H xs us Q I r h
  obtain ⟨F, l, vs, ds, hF, rfl, hl, hd, hk, q⟩ := h
  obtain ⟨al, so, len, dep⟩ := sortOk_of hk
  obtain ⟨its, n, rv, e1, hz⟩ := rd_list I hl
  rw [Vals.ref1 r]
  have es := each_of rv hd
  have hlen := PySem.W.EachIs.length es
  refine PySem.W.sorted_data (s := s) (vs := its) (bs := ds) (enc := fun d => d) (R := RD X.K F) ⟨_, e1, rfl, n, rfl⟩ es (each_reads I hF es) (by simpa using al) (by simpa using so) (Nat.le_trans len lim_size) (fun d m => ?_) fun out ho eo => ?_
  · have := dep d m; omega
  · obtain ⟨ws, rw', dw⟩ := of_each eo
    obtain ⟨ep, he⟩ := PyProof.Rows.sortedAll_at s.heap its out.toArray
    have wl : ws.length ≤ sizeLine := by
      rw [rw'.length, ho]; exact Nat.le_trans len lim_size
    refine ⟨.ref (s.heap.objs.size + 1), upd H (s.heap.objs.size + 1) (.lst ws), I.laid (t' := s.toks) (fun b o z => PyProof.Rows.sortedAll_old z) (Nat.le_succ _) ⟨wl, out, ep, rw', he⟩, rfl, q ws _ (I.hok.fresh (Nat.le_succ _)) dw⟩
def rReprD (K : PySem.W.Frag) : List V → Hp → VK → Prop := fun xs H Q => ∃ a d, xs = [V.ref a] ∧ Dp K H (.ref a) d ∧ d.showable = true ∧ d.hasDict = false ∧ d.depth ≤ 60 ∧ d.shown.length ≤ sizeLine ∧ Q (.str d.shown) H
theorem cr_reprD (hu : X.A.units + 65 < cLine) (hg : X.A.guards = some []) : CallR X (.builtin "repr") (rReprD X.K) := by
  intro pins s σ H xs us Q I r h
  obtain ⟨a, d, rfl, hd, hs, hn, dep, hz, q⟩ := h
  rw [Vals.ref1 r]
  obtain ⟨as, rd⟩ := Dp.reads I d (.ref a) (.ref a) hd rfl
  exact repr_of_reads' rd hs (fun z => by rw [hn] at z; cases z) hg (by omega) (fun _ _ e => e) (fun h' u tk k => ⟨.str d.shown, H, I.kept (t' := tk) k, ⟨u, rfl⟩, q⟩) hz

/-! ### built-ins by name -/
/-- an argument alone -/
theorem one_arg {rs : List R} {vs : List V} {d : D} (hl : vs.length = rs.length) (e : peekAll ρ rs = some [d]) : ∃ r v, rs = [r] ∧ vs = [v] ∧ r.peek ρ = some d := by
  cases rs with
  | nil => cases e
  | cons r rs =>
    cases rs with
    | nil =>
      obtain ⟨v, rfl⟩ : ∃ v, vs = [v] := by
        cases vs with
        | nil => cases hl
        | cons v vs =>
          cases vs with
          | nil => exact ⟨v, rfl⟩
          | cons _ _ => cases hl
      refine ⟨r, v, rfl, rfl, ?_⟩
      simp only [peekAll] at e
      split at e
      · rename_i x xs h1 h2
        cases h2
        cases e
        exact h1
      · cases e
    | cons r2 rs =>
      simp only [peekAll] at e
      split at e
      · rename_i x xs h1 h2
        split at h2
        · cases h2; cases e
        · cases h2
      · cases e
theorem two_arg {rs : List R} {vs : List V} {d d' : D} (hl : vs.length = rs.length) (e : peekAll ρ rs = some [d, d']) : ∃ r v r' v', rs = [r, r'] ∧ vs = [v, v'] ∧ r.peek ρ = some d ∧ r'.peek ρ = some d' := by
  cases rs with
  | nil => cases e
  | cons r rs =>
    cases vs with
    | nil => cases hl
    | cons v vs =>
      simp only [peekAll] at e
      split at e
      · rename_i x xs h1 h2
        cases e
        obtain ⟨r', v', e1, e2, e3⟩ := one_arg (rs := rs) (vs := vs) (by simpa using hl) h2
        subst e1 e2
        exact ⟨r, v, r', v', rfl, rfl, h1, e3⟩
      · cases e
def Blt.name : Blt → Str
  | .len => "len" | .abs => "abs" | .int => "int" | .tuple => "tuple" | .list => "list" | .sorted => "sorted" | .repr => "repr" | .all => "all" | .any => "any" | .min2 => "min" | .max2 => "max"
  | .isStr => "isinstance" | .isTup => "isinstance" | .sset => "sorted"
def bltRule (K : PySem.W.Frag) : Blt → List V → Hp → VK → Prop
  | .len => fun xs H Q => ∃ x n, xs = [x] ∧ LenV K x H n ∧ Q (V.int n) H
  | .abs => fun xs H Q => ∃ i, xs = [V.int i] ∧ Q (V.int (if i < 0 then -i else i)) H
  | .int => fun xs H Q => (∃ i, xs = [V.int i] ∧ Q (V.int i) H) ∨ ∃ k, xs = [V.bl k] ∧ Q (V.int (if k = true then 1 else 0)) H
  | .tuple => fun xs H Q => ∃ p ys, xs = [V.ref p] ∧ ((SqL K H p ys ∧ ∀ l, H l = none → Q (V.ref l) (upd H l (HO.tup ys))) ∨ SqT K H p ys ∧ Q (V.ref p) H)
  | .list => fun xs H Q => ∃ p ys, xs = [V.ref p] ∧ (SqL K H p ys ∨ SqT K H p ys) ∧ ∀ l, H l = none → Q (V.ref l) (upd H l (HO.lst ys))
  | .sorted => rSortD K
  | .repr => rReprD K
  | .all => rAll K
  | .any => rAny K
  | .min2 => fun xs H Q => ∃ i j, xs = [V.int i, V.int j] ∧ Q (V.int (if j < i then j else i)) H
  | .max2 => fun xs H Q => ∃ i j, xs = [V.int i, V.int j] ∧ Q (V.int (if j > i then j else i)) H
  | _ => fun _ _ _ => False
theorem bools_of : ∀ {xs : List D} {bs : List Bool} {vs : List V}, boolsD xs = some bs → DqAll K F vs xs → vs = bs.map V.bl
  | [], bs, vs, e, h => by cases e; cases h; rfl
  | .bool b :: r, bs, vs, e, h => by
    simp only [boolsD] at e
    cases q : boolsD r with
    | none => rw [q] at e; cases e
    | some l =>
      rw [q] at e
      cases e
      cases h with
      | cons h1 h2 =>
        rw [bools_of q h2, dp_bl h1]
        rfl
  | .none :: _, _, _, e, _ => by cases e
  | .int _ :: _, _, _, e, _ => by cases e
  | .str _ :: _, _, _, e, _ => by cases e
  | .list _ :: _, _, _, e, _ => by cases e
  | .tuple _ :: _, _, _, e, _ => by cases e
  | .dict _ :: _, _, _, e, _ => by cases e
theorem top_zip {r : R} {v : V} : (T ++ [r].zip [v])[T.length]? = some (r, v) := by simp
theorem zip2_at {a b : R} {v u : V} : (T ++ [a, b].zip [v, u])[T.length]? = some (a, v) ∧ (T ++ [a, b].zip [v, u])[T.length + 1]? = some (b, u) := by
  constructor <;> (rw [List.getElem?_append_right (by omega)]; simp)
theorem blt_sound {b : Blt} {g : Bool} {rs : List R} {vs : List V} {ds : List D} {r : R} {Q : VK} (S : Sep K A B σ ρ (T ++ rs.zip vs) H F O) (hl : vs.length = rs.length) (hp : peekAll ρ rs = some ds) (e : bltD g b ds = some r)
    (q : ∀ z H', At K A B σ ρ (T ++ [(r, z)]) H' → Q z H') (h1 : b ≠ .isStr) (h2 : b ≠ .isTup) (h3 : b ≠ .sset) : bltRule K b vs H Q := by
  have S0 := S.drop
  cases b with
  | isStr => exact absurd rfl h1
  | isTup => exact absurd rfl h2
  | sset => exact absurd rfl h3
  | len =>
    match ds, e with
    | [.list xs], e =>
      cases e
      obtain ⟨a, v, rfl, rfl, pk⟩ := one_arg hl hp
      obtain ⟨p, us, rfl, hp', dd⟩ := S.peekL top_zip pk
      refine ⟨_, us.length, rfl, .inl ⟨us, .inl hp', rfl⟩, q _ _ ?_⟩
      rw [dpa_len dd]; exact S0.pushD (.int _)
    | [.tuple xs], e =>
      cases e
      obtain ⟨a, v, rfl, rfl, pk⟩ := one_arg hl hp
      obtain ⟨_, p, us, rfl, hp', dd⟩ := S.peekT top_zip pk
      refine ⟨_, us.length, rfl, .inr ⟨us, hp', rfl⟩, q _ _ ?_⟩
      rw [dpa_len dd]; exact S0.pushD (.int _)
    | [.str z], e =>
      simp only [bltD] at e
      split at e
      · rename_i hz
        cases e
        obtain ⟨a, v, rfl, rfl, pk⟩ := one_arg hl hp
        have := dp_str (S.peek top_zip pk)
        subst this
        exact ⟨_, z.length, rfl, ⟨Nat.le_trans hz lim_size, rfl⟩, q _ _ (S0.pushD (.int _))⟩
      · cases e
  | abs =>
    match ds, e with
    | [.int i], e =>
      cases e
      obtain ⟨a, v, rfl, rfl, pk⟩ := one_arg hl hp
      have := dp_int (S.peek top_zip pk)
      subst this
      exact ⟨i, rfl, q _ _ (S0.pushD (.int _))⟩
  | int =>
    match ds, e with
    | [.int i], e =>
      cases e
      obtain ⟨a, v, rfl, rfl, pk⟩ := one_arg hl hp
      have := dp_int (S.peek top_zip pk)
      subst this
      exact .inl ⟨i, rfl, q _ _ (S0.pushD (.int _))⟩
    | [.bool i], e =>
      cases e
      obtain ⟨a, v, rfl, rfl, pk⟩ := one_arg hl hp
      have := dp_bl (S.peek top_zip pk)
      subst this
      exact .inr ⟨i, rfl, q _ _ (S0.pushD (.int _))⟩
  | tuple =>
    match ds, e with
    | [.list xs], e =>
      cases e
      obtain ⟨a, v, rfl, rfl, pk⟩ := one_arg hl hp
      obtain ⟨p, us, rfl, hp', dd⟩ := S.peekL top_zip pk
      exact ⟨p, us, rfl, .inl ⟨.inl hp', fun l hl => q _ _ (S0.newTup hl dd)⟩⟩
    | [.tuple xs], e =>
      cases e
      obtain ⟨a, v, rfl, rfl, pk⟩ := one_arg hl hp
      obtain ⟨dt, p, us, rfl, hp', dd⟩ := S.peekT top_zip pk
      exact ⟨p, us, rfl, .inr ⟨hp', q _ _ (S0.pushD dt)⟩⟩
  | list =>
    match ds, e with
    | [.list xs], e =>
      cases e
      obtain ⟨a, v, rfl, rfl, pk⟩ := one_arg hl hp
      obtain ⟨p, us, rfl, hp', dd⟩ := S.peekL top_zip pk
      exact ⟨p, us, rfl, .inl (.inl hp'), fun l hl => q _ _ (S0.newLst hl dd)⟩
    | [.tuple xs], e =>
      cases e
      obtain ⟨a, v, rfl, rfl, pk⟩ := one_arg hl hp
      obtain ⟨dt, p, us, rfl, hp', dd⟩ := S.peekT top_zip pk
      exact ⟨p, us, rfl, .inr hp', fun l hl => q _ _ (S0.newLst hl dd)⟩
  | sorted =>
    match ds, e with
    | [.list xs], e =>
      simp only [bltD] at e
      split at e
      · rename_i hk
        cases e
        obtain ⟨a, v, rfl, rfl, pk⟩ := one_arg hl hp
        obtain ⟨p, us, rfl, hp', dd⟩ := S.peekL top_zip pk
        exact ⟨F, p, us, xs, S.fh, rfl, hp', dd, hk, fun ws l hl dw => q _ _ (S0.newLst hl dw)⟩
      · cases e
  | repr =>
    match ds, e with
    | [d], e =>
      simp only [bltD] at e
      split at e
      · rename_i hk
        cases e
        simp only [Bool.and_eq_true, Bool.not_eq_true', decide_eq_true_eq] at hk
        obtain ⟨a, v, rfl, rfl, pk⟩ := one_arg hl hp
        have pd := S.peek top_zip pk
        obtain ⟨⟨⟨⟨⟨_, h5⟩, h6⟩, h7⟩, h8⟩, h9⟩ := hk
        have rf : ∃ p, v = .ref p := by
          cases pd <;> first | exact ⟨_, rfl⟩ | cases h9
        obtain ⟨p, rfl⟩ := rf
        exact ⟨p, d, rfl, Dq.dp _ _ pd, h5, h6, h7, h8, q _ _ (S0.pushD (.str _))⟩
      · cases e
  | all =>
    match ds, e with
    | [.list xs], e =>
      simp only [bltD] at e
      cases hb : boolsD xs with
      | none => rw [hb] at e; cases e
      | some bs =>
        rw [hb] at e
        cases e
        obtain ⟨a, v, rfl, rfl, pk⟩ := one_arg hl hp
        obtain ⟨p, us, rfl, hp', dd⟩ := S.peekL top_zip pk
        have := bools_of hb dd
        subst this
        exact ⟨p, bs, rfl, .inl hp', q _ _ (S0.pushD (.bl _))⟩
  | any =>
    match ds, e with
    | [.list xs], e =>
      simp only [bltD] at e
      cases hb : boolsD xs with
      | none => rw [hb] at e; cases e
      | some bs =>
        rw [hb] at e
        cases e
        obtain ⟨a, v, rfl, rfl, pk⟩ := one_arg hl hp
        obtain ⟨p, us, rfl, hp', dd⟩ := S.peekL top_zip pk
        have := bools_of hb dd
        subst this
        exact ⟨p, bs, rfl, .inl hp', q _ _ (S0.pushD (.bl _))⟩
  | min2 =>
    match ds, e with
    | [.int i, .int j], e =>
      cases e
      obtain ⟨a, v, a', v', rfl, rfl, p1, p2⟩ := two_arg hl hp
      have e1 := dp_int (S.peek zip2_at.1 p1)
      have e2 := dp_int (S.peek zip2_at.2 p2)
      subst e1 e2
      exact ⟨i, j, rfl, q _ _ (S0.pushD (.int _))⟩
  | max2 =>
    match ds, e with
    | [.int i, .int j], e =>
      cases e
      obtain ⟨a, v, a', v', rfl, rfl, p1, p2⟩ := two_arg hl hp
      have e1 := dp_int (S.peek zip2_at.1 p1)
      have e2 := dp_int (S.peek zip2_at.2 p2)
      subst e1 e2
      exact ⟨i, j, rfl, q _ _ (S0.pushD (.int _))⟩
end
end Mn
set_option Elab.async false
set_option linter.all false
set_option maxRecDepth 100000
set_option maxHeartbeats 1000000
namespace Mn
open PySem PySem.Spec PyProof.Rows L2

section
variable {X : Cx} {A : Ad} {Wx : WX} {B : Bs} {σ : L2.St} {ρ ρ' : Env} {T : Tmps} {H H' F : Hp} {O : Addr → Option Owner}
abbrev bltEv (g : Bool) (b : Blt) (evs : Env → Res (List R × Env)) : Env → Res (R × Env) := fun ρ => do
  let (rs, ρ) ← evs ρ
  let xs ← Res.of (peekAll ρ rs)
  let r ← Res.of (bltD g b xs)
  .ok (r, ρ)
theorem rd_bltB {g : Bool} {b : Blt} {id : String} {e : Expr} {es : List Expr} {p pos : Pos} {evs : Env → Res (List R × Env)} (hc : CallR X (.builtin id) (bltRule X.K b)) (hg : Gl X b.name) (hm : X.mg b.name = none) (hv : bootBuiltins b.name = some (.builtin id))
    (hn : b.name ≠ "__name__") (hdb : (b.name == ("__debug__" : Str)) = false) (ha : PA X (e :: es) (RdA X.K A Wx evs)) (hs : (e :: es).all noStar = true) (h1 : b ≠ .isStr) (h2 : b ≠ .isTup) (h3 : b ≠ .sset) :
    PE X (.Call (.Name b.name p) (e :: es) [] pos) (RdE X.K A Wx (bltEv g b evs)) := by
  rw [List.all_cons, Bool.and_eq_true] at hs
  refine PE_imp (pe_callB hc hg hm hv ha hn hdb (star_head (noStar_ne hs.1)) (star_plain hs.2)) fun σ H Q ⟨B, ρ, T, at_, gg⟩ => ?_
  refine ⟨B, ρ, T, at_, (gd_bind.mp gg).mono (fun ⟨rs, ρ1⟩ g1 vs H1 hl ⟨F, O, S⟩ => ?_) fun _ _ h => h⟩
  obtain ⟨xs, e1, g2⟩ := gd_of (gd_bind.mp g1)
  obtain ⟨r, e2, g3⟩ := gd_of (gd_bind.mp g2)
  exact blt_sound S hl e1 e2 g3 h1 h2 h3
theorem rd_bltT {g : Bool} {b : Blt} {id : String} {e : Expr} {es : List Expr} {p pos : Pos} {evs : Env → Res (List R × Env)} (hc : CallR X (.type id) (bltRule X.K b)) (hg : Gl X b.name) (hm : X.mg b.name = none) (hv : bootBuiltins b.name = some (.type id))
    (hn : b.name ≠ "__name__") (hdb : (b.name == ("__debug__" : Str)) = false) (ha : PA X (e :: es) (RdA X.K A Wx evs)) (hs : (e :: es).all noStar = true) (h1 : b ≠ .isStr) (h2 : b ≠ .isTup) (h3 : b ≠ .sset) :
    PE X (.Call (.Name b.name p) (e :: es) [] pos) (RdE X.K A Wx (bltEv g b evs)) := by
  rw [List.all_cons, Bool.and_eq_true] at hs
  refine PE_imp (pe_callTy hc hg hm hv ha hn hdb (star_head (noStar_ne hs.1)) (star_plain hs.2)) fun σ H Q ⟨B, ρ, T, at_, gg⟩ => ?_
  refine ⟨B, ρ, T, at_, (gd_bind.mp gg).mono (fun ⟨rs, ρ1⟩ g1 vs H1 hl ⟨F, O, S⟩ => ?_) fun _ _ h => h⟩
  obtain ⟨xs, e1, g2⟩ := gd_of (gd_bind.mp g1)
  obtain ⟨r, e2, g3⟩ := gd_of (gd_bind.mp g2)
  exact blt_sound S hl e1 e2 g3 h1 h2 h3
/-- the built-ins that are functions, by their rules -/
theorem blt_fun (hc : X.calm = true) (hu : X.A.units + 65 < cLine) (hg : X.A.guards = some []) : CallR X (.builtin "repr") (bltRule X.K .repr) := cr_reprD hu hg
/-- isinstance(x, str), (x, tuple) -/
def tyD : D → String
  | .none => "NoneType" | .bool _ => "bool" | .int _ => "int" | .str _ => "str" | .list _ => "list" | .tuple _ => "tuple" | .dict _ => "dict"
theorem ty_of {K : PySem.W.Frag} {x : V} : ∀ {d : D}, Dp K H x d → TyX K H x (.type (tyD d))
  | .none, h => by cases h; exact .base .non
  | .bool b, h => by cases h; exact .base (.bl b)
  | .int i, h => by cases h; exact .base (.int i)
  | .str s, h => by cases h; exact .base (.str s)
  | .list xs, h => by
    cases h with
    | lst h1 h2 =>
      rcases h1 with (h1 | ⟨o, h1⟩) | ⟨o, its, n, h1, h3, _⟩
      · exact .base (.lst h1)
      · exact .base (.frz h1)
      · exact .kList h1 h3
  | .tuple xs, h => by
    cases h with
    | tup h1 h2 =>
      rcases h1 with (h1 | ⟨o, h1⟩) | ⟨o, its, n, h1, h3, _⟩
      · exact .base (.tup h1)
      · exact .fTuple h1
      · exact .kTuple h1 h3
theorem isi_val : ∀ d : D, kitB (tyD d) "str" = some (match d with | .str _ => true | _ => false) ∧ kitB (tyD d) "tuple" = some (match d with | .tuple _ => true | _ => false)
  | .none => ⟨(by decide +kernel : kitB "NoneType" "str" = some false), (by decide +kernel : kitB "NoneType" "tuple" = some false)⟩
  | .bool b => ⟨(by decide +kernel : kitB "bool" "str" = some false), (by decide +kernel : kitB "bool" "tuple" = some false)⟩
  | .int i => ⟨(by decide +kernel : kitB "int" "str" = some false), (by decide +kernel : kitB "int" "tuple" = some false)⟩
  | .str i => ⟨(by decide +kernel : kitB "str" "str" = some true), (by decide +kernel : kitB "str" "tuple" = some false)⟩
  | .list i => ⟨(by decide +kernel : kitB "list" "str" = some false), (by decide +kernel : kitB "list" "tuple" = some false)⟩
  | .tuple i => ⟨(by decide +kernel : kitB "tuple" "str" = some false), (by decide +kernel : kitB "tuple" "tuple" = some true)⟩
  | .dict i => ⟨(by decide +kernel : kitB "dict" "str" = some false), (by decide +kernel : kitB "dict" "tuple" = some false)⟩
theorem rd_isi {g : Bool} {b : Blt} {n : String} {e : Expr} {p p2 pos : Pos} {ev : Env → Res (R × Env)} (hb : (b = .isStr ∧ n = "str") ∨ (b = .isTup ∧ n = "tuple")) (hg : Gl X "isinstance") (hm : X.mg "isinstance" = none) (hg2 : Gl X n) (hm2 : X.mg n = none)
    (ha : PE X e (RdE X.K A Wx ev)) (hs : noStar e = true) :
    PE X (.Call (.Name "isinstance" p) [e, .Name n p2] [] pos) (RdE X.K A Wx fun ρ => do
      let (x, ρ) ← ev ρ
      let u ← Res.of (x.peek ρ)
      let r ← Res.of (bltD g b [u])
      .ok (r, ρ)) := by
  have hty : PE X (.Name n p2) (tC (.ty n)) := by
    rcases hb with ⟨_, rfl⟩ | ⟨_, rfl⟩
    · exact pe_bltn (u := .type "str") hg2 hm2 (by decide +kernel) rfl (by decide) (by decide)
    · exact pe_bltn (u := .type "tuple") hg2 hm2 (by decide +kernel) rfl (by decide) (by decide)
  refine PE_imp (pe_callB call_isi hg hm (by decide +kernel) (pa_cons ha (pa_cons hty pa_nil rfl) (star_head (noStar_ne hs))) (by decide) (by decide) (star_head (noStar_ne hs)) rfl) fun σ H Q ⟨B, ρ, T, at_, gg⟩ => ?_
  refine ⟨B, ρ, T, at_, (gd_bind.mp gg).mono (fun ⟨x, ρ1⟩ g1 v H1 ⟨F, O, S⟩ => ?_) fun _ _ h => h⟩
  obtain ⟨u, e1, g2⟩ := gd_of (gd_bind.mp g1)
  obtain ⟨r, e2, g3⟩ := gd_of (gd_bind.mp g2)
  have pd := Dq.dp _ _ (S.peek one_top e1)
  have ty := ty_of pd
  have S0 := S.drop
  rcases hb with ⟨rfl, rfl⟩ | ⟨rfl, rfl⟩
  · refine ⟨v, .ty "str", _, .type "str", _, rfl, .ty "str", ty, kit_ty (isi_val u).1, g3 _ _ ?_⟩
    cases u <;> cases e2 <;> exact S0.pushD (.bl _)
  · refine ⟨v, .ty "tuple", _, .type "tuple", _, rfl, .ty "tuple", ty, kit_ty (isi_val u).2, g3 _ _ ?_⟩
    cases u <;> cases e2 <;> exact S0.pushD (.bl _)

/-! ### places, parts -/
theorem atI_dq {K : PySem.W.Frag} {vs : List V} {xs : List D} {i : Int} {x : D} (h : DqAll K F vs xs) (e : atI xs i = some x) : ∃ v, atI vs i = some v ∧ Dq K F v x := by
  unfold atI at e ⊢
  rw [dpa_len h]
  cases q : ixN xs.length i with
  | none => rw [q] at e; cases e
  | some j =>
    rw [q] at e
    exact dpa_get h e
def plainIx : Expr → Bool
  | .Slice _ _ _ _ => false
  | .Tuple _ _ _ => false
  | _ => true
theorem plain_ix {b : Expr} (h : plainIx b = true) : PlainIx b := by
  cases b <;> first | (exact fun _ _ => rfl) | cases h
theorem rd_idx {a b : Expr} {pos : Pos} {ea eb : Env → Res (R × Env)} (hb : plainIx b = true) (ha : PE X a (RdE X.K A Wx ea)) (hb' : PE X b (RdE X.K A Wx eb)) :
    PE X (.Subscript a b pos) (RdE X.K A Wx fun ρ => do
      let (x, ρ) ← ea ρ
      let (y, ρ) ← eb ρ
      let u ← Res.of (x.peek ρ)
      let v ← Res.of (y.peek ρ)
      let r ← Res.of (idxD u v)
      .ok (.d r, ρ)) := by
  refine PE_imp (pe_ix ix_seq ha hb' (plain_ix hb)) fun σ H Q ⟨B, ρ, T, at_, g⟩ => ?_
  refine ⟨B, ρ, T, at_, (gd_bind.mp g).mono (fun ⟨x, ρ1⟩ g1 v H1 at1 => ?_) fun _ _ h => h⟩
  refine ⟨B, ρ1, _, at1, (gd_bind.mp g1).mono (fun ⟨y, ρ2⟩ g2 v' H2 ⟨F, O, S⟩ => ?_) fun _ _ h => h⟩
  obtain ⟨u, e1, g3⟩ := gd_of (gd_bind.mp g2)
  obtain ⟨w, e2, g4⟩ := gd_of (gd_bind.mp g3)
  obtain ⟨r, e3, g5⟩ := gd_of (gd_bind.mp g4)
  have S0 := S.drop.drop
  have py := S.peek two_top.2 e2
  cases u with
  | list xs =>
    cases w with
    | int i =>
      obtain ⟨p, vs, ex, hp, dd⟩ := S.peekL two_top.1 e1
      obtain ⟨z, hz, dz⟩ := atI_dq dd e3
      exact .inl ⟨p, vs, i, z, ex, dp_int py, .inl hp, hz, g5 _ _ (S0.pushD dz)⟩
    | _ => cases e3
  | tuple xs =>
    cases w with
    | int i =>
      obtain ⟨_, p, vs, ex, hp, dd⟩ := S.peekT two_top.1 e1
      obtain ⟨z, hz, dz⟩ := atI_dq dd e3
      exact .inr (.inl ⟨p, vs, i, z, ex, dp_int py, hp, hz, g5 _ _ (S0.pushD dz)⟩)
    | _ => cases e3
  | str s =>
    cases w with
    | int i =>
      simp only [idxD] at e3
      split at e3
      · rename_i hz
        cases q : atI s.cps.toList i with
        | none => rw [q] at e3; cases e3
        | some c =>
          rw [q] at e3
          cases e3
          exact .inr (.inr ⟨s, i, c, dp_str (S.peek two_top.1 e1), dp_int py, Nat.le_trans hz lim_size, q, g5 _ _ (S0.pushD (.str _))⟩)
      · cases e3
    | _ => cases e3
  | _ => cases w <;> cases e3
theorem rdo_none : PO X none (RdO X.K A Wx fun ρ => .ok (none, ρ)) := PO_imp po_none fun σ H Q ⟨B, ρ, T, at_, g⟩ => g H at_
theorem rdo_some {e : Expr} {ev : Env → Res (R × Env)} (h : PE X e (RdE X.K A Wx ev)) : PO X (some e) (RdO X.K A Wx fun ρ => do
    let (r, ρ) ← ev ρ
    match r with
    | .d (.int i) => .ok (some i, ρ)
    | _ => .stuck) := by
  refine PO_imp (po_some h) fun σ H Q ⟨B, ρ, T, at_, g⟩ => ?_
  refine ⟨B, ρ, T, at_, (gd_bind.mp g).mono (fun ⟨x, ρ1⟩ g1 v H1 ⟨F, O, S⟩ => ?_) fun _ _ h => h⟩
  match x, g1, S with
  | .d (.int i), g1, S => exact ⟨i, dp_int S.top, g1 H1 S.drop.sc⟩
theorem cut_dq {K : PySem.W.Frag} {vs : List V} {xs : List D} {lo hi : Option Int} (h : DqAll K F vs xs) : DqAll K F (cutV vs lo hi) (cutL xs lo hi) := by
  unfold cutV cutL
  rw [dpa_len h]
  exact dpa_take _ (dpa_drop _ h)
theorem SlR_or {r r' : V → Option Int → Option Int → Hp → VK → Prop} (h : SlR X r) (h' : SlR X r') : SlR X (fun x l u H Q => r x l u H Q ∨ r' x l u H Q) := fun pins s σ H x v vl vu lo hi sl Q I rx hs pl pu q =>
  q.elim (h pins s σ H x v vl vu lo hi sl Q I rx hs pl pu) (h' pins s σ H x v vl vu lo hi sl Q I rx hs pl pu)
theorem rd_slc {a : Expr} {lo hi : Option Expr} {pos p2 : Pos} {ea : Env → Res (R × Env)} {el eh : Env → Res (Option Int × Env)} (ha : PE X a (RdE X.K A Wx ea)) (hl : PO X lo (RdO X.K A Wx el)) (hh : PO X hi (RdO X.K A Wx eh)) :
    PE X (.Subscript a (.Slice lo hi none p2) pos) (RdE X.K A Wx fun ρ => do
      let (x, ρ) ← ea ρ
      let (l, ρ) ← el ρ
      let (h, ρ) ← eh ρ
      let u ← Res.of (x.peek ρ)
      let r ← Res.of (slcD u l h)
      .ok (r, ρ)) := by
  refine PE_imp (pe_slice (SlR_or sl_list (SlR_or sl_tupA sl_str)) ha hl hh) fun σ H Q ⟨B, ρ, T, at_, g⟩ => ?_
  refine ⟨B, ρ, T, at_, (gd_bind.mp g).mono (fun ⟨x, ρ1⟩ g1 v H1 at1 => ?_) fun _ _ h => h⟩
  refine ⟨B, ρ1, _, at1, (gd_bind.mp g1).mono (fun ⟨l, ρ2⟩ g2 H2 at2 => ?_) fun _ _ h => h⟩
  refine ⟨B, ρ2, _, at2, (gd_bind.mp g2).mono (fun ⟨h, ρ3⟩ g3 H3 ⟨F, O, S⟩ => ?_) fun _ _ h => h⟩
  obtain ⟨u, e1, g4⟩ := gd_of (gd_bind.mp g3)
  obtain ⟨r, e2, g5⟩ := gd_of (gd_bind.mp g4)
  have S0 := S.drop
  cases u with
  | list xs =>
    cases e2
    obtain ⟨p, vs, ex, hp, dd⟩ := S.peekL one_top e1
    exact .inl ⟨p, vs, ex, .inl hp, fun z hz => g5 _ _ (S0.newLst hz (cut_dq dd))⟩
  | tuple xs =>
    cases e2
    obtain ⟨dt, p, vs, ex, hp, dd⟩ := S.peekT one_top e1
    refine .inr (.inl ⟨p, vs, ex, hp, fun hw => g5 _ _ ?_, fun _ z hz => g5 _ _ (S0.newTup hz (cut_dq dd))⟩)
    have : cutL xs l h = xs := by
      rw [dpa_len dd] at hw
      unfold cutL
      rw [hw.1, hw.2]
      simp
    rw [this, ← ex]
    exact S0.pushD dt
  | str s =>
    simp only [slcD] at e2
    split at e2
    · rename_i hz
      cases e2
      exact .inr (.inr ⟨s, dp_str (S.peek one_top e1), Nat.le_trans hz lim_size, g5 _ _ (S0.pushD (.str _))⟩)
    · cases e2
  | _ => cases e2

/-! ### and, or, not; a if c else b -/
theorem rdw_and {a b : Expr} {rest : List Expr} {pos : Pos} {ea eb : Env → Res (Bool × Env)} (ha : PT X a (RdT X.K A Wx ea)) (hb : PW X (.BoolOp .And (b :: rest) pos) (RdT X.K A Wx eb)) :
    PW X (.BoolOp .And (a :: b :: rest) pos) (RdT X.K A Wx fun ρ => do let (t, ρ) ← ea ρ; if t then eb ρ else .ok (false, ρ)) := by
  refine PW_imp (pw_and ha hb) fun σ H Q ⟨B, ρ, T, at_, g⟩ => ?_
  refine ⟨B, ρ, T, at_, (gd_bind.mp g).mono (fun ⟨t, ρ1⟩ g1 H1 at1 => ?_) fun _ _ h => h⟩
  cases t with
  | true => exact iteT ⟨B, ρ1, T, at1, g1⟩
  | false => exact iteF (g1 H1 at1)
theorem rdw_or {a b : Expr} {rest : List Expr} {pos : Pos} {ea eb : Env → Res (Bool × Env)} (ha : PT X a (RdT X.K A Wx ea)) (hb : PW X (.BoolOp .Or (b :: rest) pos) (RdT X.K A Wx eb)) :
    PW X (.BoolOp .Or (a :: b :: rest) pos) (RdT X.K A Wx fun ρ => do let (t, ρ) ← ea ρ; if t then .ok (true, ρ) else eb ρ) := by
  refine PW_imp (pw_or ha hb) fun σ H Q ⟨B, ρ, T, at_, g⟩ => ?_
  refine ⟨B, ρ, T, at_, (gd_bind.mp g).mono (fun ⟨t, ρ1⟩ g1 H1 at1 => ?_) fun _ _ h => h⟩
  cases t with
  | true => exact iteT (g1 H1 at1)
  | false => exact iteF ⟨B, ρ1, T, at1, g1⟩
theorem rdt_not {a : Expr} {pos : Pos} {ea : Env → Res (Bool × Env)} (ha : PT X a (RdT X.K A Wx ea)) : PT X (.UnaryOp .Not a pos) (RdT X.K A Wx fun ρ => do let (t, ρ) ← ea ρ; .ok (!t, ρ)) := by
  refine PT_imp (pt_not ha) fun σ H Q ⟨B, ρ, T, at_, g⟩ => ?_
  exact ⟨B, ρ, T, at_, (gd_bind.mp g).mono (fun ⟨t, ρ1⟩ g1 H1 at1 => g1 H1 at1) fun _ _ h => h⟩
theorem rd_ite {c a b : Expr} {pos : Pos} {ec : Env → Res (Bool × Env)} {ea eb : Env → Res (R × Env)} (hc : PT X c (RdT X.K A Wx ec)) (ha : PE X a (RdE X.K A Wx ea)) (hb : PE X b (RdE X.K A Wx eb)) :
    PE X (.IfExp c a b pos) (RdE X.K A Wx fun ρ => do let (t, ρ) ← ec ρ; if t then ea ρ else eb ρ) := by
  refine PE_imp (pe_ifExp hc ha hb) fun σ H Q ⟨B, ρ, T, at_, g⟩ => ?_
  refine ⟨B, ρ, T, at_, (gd_bind.mp g).mono (fun ⟨t, ρ1⟩ g1 H1 at1 => ?_) fun _ _ h => h⟩
  cases t with
  | true => exact iteT ⟨B, ρ1, T, at1, g1⟩
  | false => exact iteF ⟨B, ρ1, T, at1, g1⟩
/-- as values -/
theorem rd_one {op : BoolOp} {a : Expr} {pos : Pos} {ea : Env → Res (R × Env)} (ha : PE X a (RdE X.K A Wx ea)) : PE X (.BoolOp op [a] pos) (RdE X.K A Wx ea) := pe_one ha
theorem rd_and {a b : Expr} {rest : List Expr} {pos : Pos} {ea eb : Env → Res (R × Env)} (ha : PE X a (RdE X.K A Wx ea)) (hb : PE X (.BoolOp .And (b :: rest) pos) (RdE X.K A Wx eb)) :
    PE X (.BoolOp .And (a :: b :: rest) pos) (RdE X.K A Wx fun ρ => do
      let (x, ρ) ← ea ρ
      match x with
      | .d (.bool true) => eb ρ
      | .d (.bool false) => .ok (.d (.bool false), ρ)
      | _ => .stuck) := by
  refine PE_imp (pe_and ha hb) fun σ H Q ⟨B, ρ, T, at_, g⟩ => ?_
  refine ⟨B, ρ, T, at_, (gd_bind.mp g).mono (fun ⟨x, ρ1⟩ g1 v H1 ⟨F, O, S⟩ => ?_) fun _ _ h => h⟩
  match x, g1, S with
  | .d (.bool true), g1, S => exact ⟨true, dp_bl S.top, iteT ⟨B, ρ1, T, S.drop.sc, g1⟩⟩
  | .d (.bool false), g1, S => exact ⟨false, dp_bl S.top, iteF (g1 _ _ (S.drop.pushD (.bl _)))⟩
theorem rd_or {a b : Expr} {rest : List Expr} {pos : Pos} {ea eb : Env → Res (R × Env)} (ha : PE X a (RdE X.K A Wx ea)) (hb : PE X (.BoolOp .Or (b :: rest) pos) (RdE X.K A Wx eb)) :
    PE X (.BoolOp .Or (a :: b :: rest) pos) (RdE X.K A Wx fun ρ => do
      let (x, ρ) ← ea ρ
      match x with
      | .d (.bool false) => eb ρ
      | .d (.bool true) => .ok (.d (.bool true), ρ)
      | _ => .stuck) := by
  refine PE_imp (pe_or ha hb) fun σ H Q ⟨B, ρ, T, at_, g⟩ => ?_
  refine ⟨B, ρ, T, at_, (gd_bind.mp g).mono (fun ⟨x, ρ1⟩ g1 v H1 ⟨F, O, S⟩ => ?_) fun _ _ h => h⟩
  match x, g1, S with
  | .d (.bool false), g1, S => exact ⟨false, dp_bl S.top, iteF ⟨B, ρ1, T, S.drop.sc, g1⟩⟩
  | .d (.bool true), g1, S => exact ⟨true, dp_bl S.top, iteT (g1 _ _ (S.drop.pushD (.bl _)))⟩
/-- a comparison, a not as a value -/
theorem rd_cmp (hu : X.A.units + 65 < cLine) {o : Cp} {a b : Expr} {pos : Pos} {ea eb : Env → Res (R × Env)} (hs : noSet b = true) (ha : PE X a (RdE X.K A Wx ea)) (hb : PE X b (RdE X.K A Wx eb)) :
    PE X (.Compare a [o.py] [b] pos) (RdE X.K A Wx fun ρ => do
      let (t, ρ) ← (do
        let (x, ρ) ← ea ρ
        let (y, ρ) ← eb ρ
        let u ← Res.of (x.peek ρ)
        let v ← Res.of (y.peek ρ)
        let t ← Res.of (cmpD o u v)
        .ok (t, ρ) : Res (Bool × Env))
      .ok (.d (.bool t), ρ)) := by
  refine PE_imp (pe_cmpR (cmp_ok hu o) ha hb (noSet_marks hs)) fun σ H Q ⟨B, ρ, T, at_, g⟩ => ?_
  refine ⟨B, ρ, T, at_, (gd_bind.mp (gd_bind.mp g)).mono (fun ⟨x, ρ1⟩ g1 v H1 at1 => ?_) fun _ _ h => h⟩
  refine ⟨B, ρ1, _, at1, (gd_bind.mp g1).mono (fun ⟨y, ρ2⟩ g2 v' H2 ⟨F, O, S⟩ => ?_) fun _ _ h => h⟩
  obtain ⟨u, e1, g3⟩ := gd_of (gd_bind.mp g2)
  obtain ⟨w, e2, g4⟩ := gd_of (gd_bind.mp g3)
  obtain ⟨r, e3, g5⟩ := gd_of (gd_bind.mp g4)
  exact ⟨u, w, r, Dq.dp _ _ (S.peek two_top.1 e1), Dq.dp _ _ (S.peek two_top.2 e2), e3, g5 _ H2 (S.drop.drop.pushD (.bl _))⟩
theorem rd_notT {a : Expr} {pos : Pos} {ea : Env → Res (R × Env)} (ha : PE X a (RdE X.K A Wx ea)) :
    PE X (.UnaryOp .Not a pos) (RdE X.K A Wx fun ρ => do
      let (t, ρ) ← (do
        let (t, ρ) ← (do
          let (x, ρ) ← ea ρ
          let u ← Res.of (x.peek ρ)
          let t ← Res.of (truD u)
          .ok (t, ρ) : Res (Bool × Env))
        .ok (!t, ρ) : Res (Bool × Env))
      .ok (.d (.bool t), ρ)) := by
  refine PE_imp (pe_notT ha) fun σ H Q ⟨B, ρ, T, at_, g⟩ => ?_
  refine ⟨B, ρ, T, at_, (gd_bind.mp (gd_bind.mp (gd_bind.mp g))).mono (fun ⟨x, ρ1⟩ g1 v H1 ⟨F, O, S⟩ => ?_) fun _ _ h => h⟩
  obtain ⟨u, e1, g2⟩ := gd_of (gd_bind.mp g1)
  obtain ⟨t, e2, g3⟩ := gd_of (gd_bind.mp g2)
  exact ⟨t, tru_sound (Dq.dp _ _ (S.peek one_top e1)) e2, g3 _ _ (S.drop.pushD (.bl _))⟩
theorem none_iff {K : PySem.W.Frag} {v : V} {u : D} (h : Dp K H v u) : decide (v = .non) = isNoneD u := by
  cases h <;> rfl
theorem rd_isN {a : Expr} {j : Nat} {p pos : Pos} {ea : Env → Res (R × Env)} (ha : PE X a (RdE X.K A Wx ea)) :
    PE X (.Compare a [.Is] [.Constant .none j p] pos) (RdE X.K A Wx fun ρ => do
      let (t, ρ) ← (do
        let (x, ρ) ← ea ρ
        let u ← Res.of (x.peek ρ)
        .ok (isNoneD u, ρ) : Res (Bool × Env))
      .ok (.d (.bool t), ρ)) := by
  refine PE_imp (pe_cmp (pc_isN ha) rfl) fun σ H Q ⟨B, ρ, T, at_, g⟩ => ?_
  refine ⟨B, ρ, T, at_, (gd_bind.mp (gd_bind.mp g)).mono (fun ⟨x, ρ1⟩ g1 v H1 ⟨F, O, S⟩ => ?_) fun _ _ h => h⟩
  obtain ⟨u, e1, g2⟩ := gd_of (gd_bind.mp g1)
  rw [none_iff (Dq.dp _ _ (S.peek one_top e1))]
  exact g2 _ _ (S.drop.pushD (.bl _))
theorem rd_notN {a : Expr} {j : Nat} {p pos : Pos} {ea : Env → Res (R × Env)} (ha : PE X a (RdE X.K A Wx ea)) :
    PE X (.Compare a [.IsNot] [.Constant .none j p] pos) (RdE X.K A Wx fun ρ => do
      let (t, ρ) ← (do
        let (x, ρ) ← ea ρ
        let u ← Res.of (x.peek ρ)
        .ok (!isNoneD u, ρ) : Res (Bool × Env))
      .ok (.d (.bool t), ρ)) := by
  refine PE_imp (pe_cmp (pc_notN ha) rfl) fun σ H Q ⟨B, ρ, T, at_, g⟩ => ?_
  refine ⟨B, ρ, T, at_, (gd_bind.mp (gd_bind.mp g)).mono (fun ⟨x, ρ1⟩ g1 v H1 ⟨F, O, S⟩ => ?_) fun _ _ h => h⟩
  obtain ⟨u, e1, g2⟩ := gd_of (gd_bind.mp g1)
  rw [none_iff (Dq.dp _ _ (S.peek one_top e1))]
  exact g2 _ _ (S.drop.pushD (.bl _))
/-- a value that is a truth, as a test (for comparisons with None) -/
theorem rdt_isN {a : Expr} {j : Nat} {p pos : Pos} {ea : Env → Res (R × Env)} (ha : PE X a (RdE X.K A Wx ea)) :
    PT X (.Compare a [.Is] [.Constant .none j p] pos) (RdT X.K A Wx fun ρ => do
      let (x, ρ) ← ea ρ
      let u ← Res.of (x.peek ρ)
      .ok (isNoneD u, ρ)) := by
  refine PT_imp (pt_cmp (pc_isN ha) rfl) fun σ H Q ⟨B, ρ, T, at_, g⟩ => ?_
  refine ⟨B, ρ, T, at_, (gd_bind.mp g).mono (fun ⟨x, ρ1⟩ g1 v H1 ⟨F, O, S⟩ => ?_) fun _ _ h => h⟩
  obtain ⟨u, e1, g2⟩ := gd_of (gd_bind.mp g1)
  refine ⟨_, rfl, ?_⟩
  rw [none_iff (Dq.dp _ _ (S.peek one_top e1))]
  exact g2 _ S.drop.sc
theorem rdt_notN {a : Expr} {j : Nat} {p pos : Pos} {ea : Env → Res (R × Env)} (ha : PE X a (RdE X.K A Wx ea)) :
    PT X (.Compare a [.IsNot] [.Constant .none j p] pos) (RdT X.K A Wx fun ρ => do
      let (x, ρ) ← ea ρ
      let u ← Res.of (x.peek ρ)
      .ok (!isNoneD u, ρ)) := by
  refine PT_imp (pt_cmp (pc_notN ha) rfl) fun σ H Q ⟨B, ρ, T, at_, g⟩ => ?_
  refine ⟨B, ρ, T, at_, (gd_bind.mp g).mono (fun ⟨x, ρ1⟩ g1 v H1 ⟨F, O, S⟩ => ?_) fun _ _ h => h⟩
  obtain ⟨u, e1, g2⟩ := gd_of (gd_bind.mp g1)
  refine ⟨_, rfl, ?_⟩
  rw [none_iff (Dq.dp _ _ (S.peek one_top e1))]
  exact g2 _ S.drop.sc
/-- a list times a number -/
theorem rd_rep {a b : Expr} {pos : Pos} {ea eb : Env → Res (R × Env)} (ha : PE X a (RdE X.K A Wx ea)) (hb : PE X b (RdE X.K A Wx eb)) :
    PE X (.BinOp a .Mult b pos) (RdE X.K A Wx fun ρ => do
      let (x, ρ) ← ea ρ
      let (y, ρ) ← eb ρ
      match x, y with
      | .fresh xs, .d (.int j) => if 0 ≤ j ∧ j ≤ 1000 ∧ xs.length ≤ 1000 then .ok (.fresh ((List.replicate j.toNat xs).flatten), ρ) else .stuck
      | _, _ => .stuck) := by
  refine PE_imp (pe_op op_rep ha hb) fun σ H Q ⟨B, ρ, T, at_, g⟩ => ?_
  refine ⟨B, ρ, T, at_, (gd_bind.mp g).mono (fun ⟨x, ρ1⟩ g1 v H1 at1 => ?_) fun _ _ h => h⟩
  refine ⟨B, ρ1, _, at1, (gd_bind.mp g1).mono (fun ⟨y, ρ2⟩ g2 v' H2 ⟨F, O, S⟩ => ?_) fun _ _ h => h⟩
  match x, y, g2, S with
  | .fresh xs, .d (.int j), g2, S =>
    obtain ⟨⟨h1, h2, h3⟩, g3⟩ := gd_if_stuck g2
    obtain ⟨p, vs, e1, e2, e3, e4⟩ := S.temps _ _ _ two_top.1
    have e5 := dp_int (S.temps _ _ _ two_top.2)
    have rep : ∀ n : Nat, DqAll X.K F (List.replicate n vs).flatten (List.replicate n xs).flatten := fun n => by
      induction n with
      | zero => exact .nil
      | succ n ih =>
        rw [List.replicate_succ, List.replicate_succ, List.flatten_cons, List.flatten_cons]
        exact dpa_app e4 ih
    refine ⟨p, j, vs, e1, e5, e3, by omega, by omega, ?_, fun z hz => g3 _ _ (S.drop.drop.newLst hz (rep _))⟩
    have : vs.length * j.toNat ≤ 1000 * 1000 := Nat.mul_le_mul (by rw [dpa_len e4]; exact h3) (by omega)
    exact Nat.le_trans this (by decide)
end
end Mn
set_option Elab.async false
set_option linter.all false
set_option maxRecDepth 100000
set_option maxHeartbeats 1000000
namespace Mn
open PySem PySem.Spec PyProof.Rows L2

section
variable {X : Cx} {A : Ad} {Wx : WX} {B : Bs} {σ : L2.St} {ρ ρ' : Env} {T : Tmps} {H H' F : Hp} {O : Addr → Option Owner}
/-! ### methods that change a list of one's own -/
theorem Sep.ownSlot {K : PySem.W.Frag} (S : Sep K A B σ ρ T H F O) {i : Nat} {l : Bool} {xs : List D} (h : ρ[i]? = some (some (W.own l xs))) : ∃ p vs, σ[i]? = some (some (.ref p)) ∧ H p = some (.lst vs) ∧ DqAll K F vs xs := by
  obtain ⟨v, a, p, vs, e1, e2, e3, e4⟩ := S.slots i _ h
  subst e1
  exact ⟨p, vs, a, e3, e4⟩
theorem tyV_list {K : PySem.W.Frag} {p : Addr} {vs : List V} (h : H p = some (.lst vs)) : tyV K "list" (.ref p) H := .inl ⟨rfl, vs, SqL.of h⟩
theorem base_name {x a : Str} {p : Pos} {env : PySem.Env} : attributeBase (.Name x p) a env (eval (.Name x p) env) = eval (.Name x p) env := rfl
theorem stars1 {e : Expr} {env : PySem.Env} {pos : Pos} (h : noStar e = true) : (((((backTo pos (starEach [e] env)).all fun x => !x.fst) && (backToKw pos (keywordEach [] env)).all fun x => x.fst.isSome) && decide (([e] : List Expr).length + ([] : List Keyword).length + (if ([] : List Keyword).isEmpty = true then 0 else 1) < 30)) = true) := by
  rw [star_head (noStar_ne h)]
  rfl
theorem stars2 {e e' : Expr} {env : PySem.Env} {pos : Pos} (h : noStar e = true) (h' : noStar e' = true) : (((((backTo pos (starEach [e, e'] env)).all fun x => !x.fst) && (backToKw pos (keywordEach [] env)).all fun x => x.fst.isSome) && decide (([e, e'] : List Expr).length + ([] : List Keyword).length + (if ([] : List Keyword).isEmpty = true then 0 else 1) < 30)) = true) := by
  rw [star_head (noStar_ne h), star_head (noStar_ne h')]
  rfl
/-- the object's own reading -/
theorem own_var {i : Nat} {Q : VK} {σ : L2.St} {p : Addr} (h : σ[i]? = some (some (.ref p))) (q : Q (.ref p) H) : tVar i σ H Q := ⟨_, h, q⟩
abbrev appEv (i : Nat) (ev : Env → Res (R × Env)) : Env → Res (R × Env) := fun ρ => match ρ[i]? with
  | some (some (.own _ _)) => do
    let p ← ev ρ
    let (y, ρ) ← keepR p
    match ρ[i]? with
    | some (some (.own l xs)) => if xs.length < LIM then .ok (.d .none, ρ.set i (some (.own l (xs ++ [y])))) else .stuck
    | _ => .stuck
  | _ => .stuck
theorem gd_keepR {p : R × Env} {ok : D × Env → Prop} {ex : Str → Env → Prop} (h : Gd (keepR p) ok ex) : ∃ x ρ', p.1.keep p.2 = some (x, ρ') ∧ ok (x, ρ') := by
  obtain ⟨⟨x, ρ'⟩, e, h⟩ := gd_of h
  exact ⟨x, ρ', e, h⟩
theorem Sep.keepTop {K : PySem.W.Frag} {r : R} {v : V} {x : D} (S : Sep K A B σ ρ (T ++ [(r, v)]) H F O) (e : r.keep ρ = some (x, ρ')) : ∃ F' O', Sep K A B σ ρ' (T ++ [(.d x, v)]) H F' O' ∧ Sub F F' := by
  obtain ⟨F', O', S', u, _⟩ := S.keep one_top e
  rw [set_at_len] at S'
  exact ⟨F', O', S', u⟩
theorem rd_app {i : Nat} {e : Expr} {nm : Expr} {apos cpos : Pos} {ev : Env → Res (R × Env)} (hn : PE X nm (tVar i)) (hb : attributeBase nm "append" X.env (eval nm X.env) = eval nm X.env) (he : PE X e (RdE X.K A Wx ev)) (hs : noStar e = true) (hp : (apos.endLine == cpos.line) = true) :
    PE X (.Call (.Attribute nm "append" apos) [e] [] cpos) (RdE X.K A Wx (appEv i ev)) := by
  refine PE_imp (pe_bm PySem.F.plainAttrs_list PySem.F.slot_list_append PySem.F.type_list_append mt_append hn (pa_cons he pa_nil (star_head (noStar_ne hs))) hb (stars1 hs) hp (star_head (noStar_ne hs)) rfl) fun σ H Q ⟨B, ρ, T, ⟨F, O, S⟩, g⟩ => ?_
  simp only [appEv] at g
  cases q : ρ[i]? with
  | none => simp only [q] at g; exact (show False from g).elim
  | some w =>
    cases w with
    | none => simp only [q] at g; exact (show False from g).elim
    | some w =>
      cases w with
      | d x => simp only [q] at g; exact (show False from g).elim
      | fn f => simp only [q] at g; exact (show False from g).elim
      | own l xs =>
        simp only [q] at g
        obtain ⟨p, vs, hσ, hp, _⟩ := S.ownSlot q
        refine own_var hσ ⟨tyV_list hp, B, ρ, T, ⟨F, O, S⟩, (gd_bind.mp g).mono (fun ⟨r, ρ1⟩ g1 v H1 ⟨F1, O1, S1⟩ => ?_) fun _ _ h => h⟩
        obtain ⟨y, ρ2, ek, g2⟩ := gd_keepR (gd_bind.mp g1)
        obtain ⟨F2, O2, S2, _⟩ := S1.keepTop ek
        simp only at g2
        cases q2 : ρ2[i]? with
        | none => simp only [q2] at g2; exact (show False from g2).elim
        | some w2 =>
          cases w2 with
          | none => simp only [q2] at g2; exact (show False from g2).elim
          | some w2 =>
            cases w2 with
            | d x => simp only [q2] at g2; exact (show False from g2).elim
            | fn f => simp only [q2] at g2; exact (show False from g2).elim
            | own l2 ys =>
              simp only [q2] at g2
              obtain ⟨hz, g3⟩ := gd_if_stuck g2
              obtain ⟨p2, us, hσ2, hp2, dd⟩ := S2.ownSlot q2
              rw [hσ] at hσ2
              cases hσ2
              have dv : Dq X.K F2 v y := S2.top
              refine ⟨p, us, v, rfl, rfl, hp2, ?_, g3 _ _ ?_⟩
              · rw [dpa_len dd]; exact Nat.lt_of_lt_of_le hz lim_size
              · exact (S2.drop.mutate q2 hσ hp2 (dpa_app dd (.cons dv .nil))).pushD .non
/-- xs.extend(ys), ys a list -/
def rExtR : V → List V → Hp → VK → Prop := fun x vs H Q => ∃ l b xs zs, x = .ref l ∧ vs = [.ref b] ∧ H l = some (.lst xs) ∧ Rd H b (.lst zs) ∧ xs.length + zs.length ≤ sizeLine ∧ Q .non (upd H l (.lst (xs ++ zs)))
theorem mt_extR : MtM X "list.extend" rExtR := by
  intro pins s σ H x vs v us Q I rx rv h
  obtain ⟨l, b, xs, zs, rfl, rfl, hl, hb, hz, q⟩ := h
  obtain rfl : v = Value.ref l := rx
  obtain ⟨u, rfl, ru⟩ := rv.one
  obtain rfl : u = Value.ref b := ru
  obtain ⟨z, i1, n1, r1, l1, e1⟩ := I.lstM hl
  obtain ⟨i2, n2, r2, e2, _⟩ := rd_list I hb
  have l2 := r2.length
  have both : i1.toArray.size + i2.toArray.size ≤ sizeLine := by simp only [List.size_toArray]; omega
  have short : ¬ (!i1.toArray.isEmpty && Builtin.List.listTooLong (i1.toArray.size + i2.toArray.size)) = true := by
    rw [notLongL both, Bool.and_false]
    exact Bool.false_ne_true
  refine call_meets F.slot_list_extend ⟨_, e1, rfl⟩ F.entry_list_extend (F.args_list_extend_2 _ _) (AutoSeq1.list_extend_list_list_0 l i1.toArray n1 b i2.toArray n2 short (by simp only [List.size_toArray]; omega) (by omega)) ⟨e1, e2, ?_⟩
  exact ⟨.non, _, I.lset (its' := i1 ++ i2) hl e1 (by simp) (r1.append r2) (by rw [List.length_append]; omega), rfl, q⟩
abbrev extEv (i : Nat) (ev : Env → Res (R × Env)) : Env → Res (R × Env) := fun ρ => match ρ[i]? with
  | some (some (.own _ _)) => do
    let (x, ρ) ← ev ρ
    let u ← Res.of (x.peek ρ)
    match ρ[i]?, u with
    | some (some (.own l xs)), .list ys => if x.isSlot i = false ∧ xs.length + ys.length ≤ LIM then .ok (.d .none, ρ.set i (some (.own l (xs ++ ys)))) else .stuck
    | _, _ => .stuck
  | _ => .stuck
theorem rd_ext {i : Nat} {e : Expr} {nm : Expr} {apos cpos : Pos} {ev : Env → Res (R × Env)} (hn : PE X nm (tVar i)) (hb : attributeBase nm "extend" X.env (eval nm X.env) = eval nm X.env) (he : PE X e (RdE X.K A Wx ev)) (hs : noStar e = true) (hp : (apos.endLine == cpos.line) = true) :
    PE X (.Call (.Attribute nm "extend" apos) [e] [] cpos) (RdE X.K A Wx (extEv i ev)) := by
  refine PE_imp (pe_bm PySem.F.plainAttrs_list PySem.F.slot_list_extend PySem.F.type_list_extend mt_extR hn (pa_cons he pa_nil (star_head (noStar_ne hs))) hb (stars1 hs) hp (star_head (noStar_ne hs)) rfl) fun σ H Q ⟨B, ρ, T, ⟨F, O, S⟩, g⟩ => ?_
  simp only [extEv] at g
  cases q : ρ[i]? with
  | none => simp only [q] at g; exact (show False from g).elim
  | some w =>
    cases w with
    | none => simp only [q] at g; exact (show False from g).elim
    | some w =>
      cases w with
      | d x => simp only [q] at g; exact (show False from g).elim
      | fn f => simp only [q] at g; exact (show False from g).elim
      | own l xs =>
        simp only [q] at g
        obtain ⟨p, vs, hσ, hp, _⟩ := S.ownSlot q
        refine own_var hσ ⟨tyV_list hp, B, ρ, T, ⟨F, O, S⟩, (gd_bind.mp g).mono (fun ⟨r, ρ1⟩ g1 v H1 ⟨F1, O1, S1⟩ => ?_) fun _ _ h => h⟩
        obtain ⟨u, eu, g2⟩ := gd_of (gd_bind.mp g1)
        simp only at g2
        cases q2 : ρ1[i]? with
        | none => simp only [q2] at g2; exact (show False from g2).elim
        | some w2 =>
          cases w2 with
          | none => simp only [q2] at g2; exact (show False from g2).elim
          | some w2 =>
            cases w2 with
            | d x => simp only [q2] at g2; exact (show False from g2).elim
            | fn f => simp only [q2] at g2; exact (show False from g2).elim
            | own l2 ys =>
              cases u with
              | list zs =>
                simp only [q2] at g2
                obtain ⟨⟨_, hz⟩, g3⟩ := gd_if_stuck g2
                obtain ⟨p2, us, hσ2, hp2, dd⟩ := S1.ownSlot q2
                rw [hσ] at hσ2
                cases hσ2
                obtain ⟨b, ws, ex, hb, de⟩ := S1.peekL one_top eu
                refine ⟨p, b, us, ws, rfl, by rw [ex], hp2, hb, ?_, g3 _ _ ?_⟩
                · rw [dpa_len dd, dpa_len de]; exact Nat.le_trans hz lim_size
                · exact (S1.drop.mutate q2 hσ hp2 (dpa_app dd de)).pushD .non
              | _ => simp only [q2] at g2; exact (show False from g2).elim
abbrev insEv (i : Nat) (ea ev : Env → Res (R × Env)) : Env → Res (R × Env) := fun ρ => match ρ[i]? with
  | some (some (.own _ _)) => do
    let (x, ρ) ← ea ρ
    let p ← ev ρ
    let (y, ρ) ← keepR p
    match ρ[i]?, x with
    | some (some (.own l xs)), .d (.int j) => if 0 ≤ j ∧ j ≤ LIM ∧ xs.length < LIM then .ok (.d .none, ρ.set i (some (.own l (xs.take j.toNat ++ [y] ++ xs.drop j.toNat)))) else .stuck
    | _, _ => .stuck
  | _ => .stuck
theorem rd_ins {i : Nat} {a e : Expr} {nm : Expr} {apos cpos : Pos} {ea ev : Env → Res (R × Env)} (hn : PE X nm (tVar i)) (hb : attributeBase nm "insert" X.env (eval nm X.env) = eval nm X.env) (ha : PE X a (RdE X.K A Wx ea)) (he : PE X e (RdE X.K A Wx ev)) (hs' : noStar a = true) (hs : noStar e = true)
    (hp : (apos.endLine == cpos.line) = true) : PE X (.Call (.Attribute nm "insert" apos) [a, e] [] cpos) (RdE X.K A Wx (insEv i ea ev)) := by
  refine PE_imp (pe_bm PySem.F.plainAttrs_list PySem.F.slot_list_insert PySem.F.type_list_insert mt_insert hn (pa_cons ha (pa_cons he pa_nil (star_head (noStar_ne hs))) (star_head (noStar_ne hs'))) hb (stars2 hs' hs) hp (star_head (noStar_ne hs')) (star_plain (by rw [List.all_cons, hs]; rfl))) fun σ H Q ⟨B, ρ, T, ⟨F, O, S⟩, g⟩ => ?_
  simp only [insEv] at g
  cases q : ρ[i]? with
  | none => simp only [q] at g; exact (show False from g).elim
  | some w =>
    cases w with
    | none => simp only [q] at g; exact (show False from g).elim
    | some w =>
      cases w with
      | d x => simp only [q] at g; exact (show False from g).elim
      | fn f => simp only [q] at g; exact (show False from g).elim
      | own l xs =>
        simp only [q] at g
        obtain ⟨p, vs, hσ, hp, _⟩ := S.ownSlot q
        refine own_var hσ ⟨tyV_list hp, B, ρ, T, ⟨F, O, S⟩, (gd_bind.mp g).mono (fun ⟨ra, ρ0⟩ g0 v0 H0 at0 => ?_) fun _ _ h => h⟩
        refine ⟨B, ρ0, _, at0, (gd_bind.mp g0).mono (fun ⟨r, ρ1⟩ g1 v H1 ⟨F1, O1, S1⟩ => ?_) fun _ _ h => h⟩
        obtain ⟨y, ρ2, ek, g2⟩ := gd_keepR (gd_bind.mp g1)
        obtain ⟨F2, O2, S2, _⟩ := S1.keepTop ek
        simp only at g2
        cases q2 : ρ2[i]? with
        | none => simp only [q2] at g2; exact (show False from g2).elim
        | some w2 =>
          cases w2 with
          | none => simp only [q2] at g2; exact (show False from g2).elim
          | some w2 =>
            cases w2 with
            | d x => simp only [q2] at g2; exact (show False from g2).elim
            | fn f => simp only [q2] at g2; exact (show False from g2).elim
            | own l2 ys =>
              match ra, g2, S2 with
              | .d (.int j), g2, S2 =>
                simp only [q2] at g2
                obtain ⟨⟨h1, h2, h3⟩, g3⟩ := gd_if_stuck g2
                obtain ⟨p2, us, hσ2, hp2, dd⟩ := S2.ownSlot q2
                rw [hσ] at hσ2
                cases hσ2
                have dv : Dq X.K F2 v y := S2.top
                have ej := dp_int S2.drop.top
                have lim : (LIM : Int) < 2 ^ 63 := by decide
                refine ⟨p, us, j, v, rfl, by rw [ej], hp2, ?_, h1, by omega, g3 _ _ ?_⟩
                · rw [dpa_len dd]; exact Nat.lt_of_lt_of_le h3 lim_size
                · exact (S2.drop.drop.mutate q2 hσ hp2 (dpa_app (dpa_app (dpa_take _ dd) (.cons dv .nil)) (dpa_drop _ dd))).pushD .non
              | .d .none, g2, _ => simp only [q2] at g2; exact (show False from g2).elim
              | .d (.bool _), g2, _ => simp only [q2] at g2; exact (show False from g2).elim
              | .d (.str _), g2, _ => simp only [q2] at g2; exact (show False from g2).elim
              | .d (.list _), g2, _ => simp only [q2] at g2; exact (show False from g2).elim
              | .d (.tuple _), g2, _ => simp only [q2] at g2; exact (show False from g2).elim
              | .d (.dict _), g2, _ => simp only [q2] at g2; exact (show False from g2).elim
              | .fresh _, g2, _ => simp only [q2] at g2; exact (show False from g2).elim
              | .slot _, g2, _ => simp only [q2] at g2; exact (show False from g2).elim
              | .fn _, g2, _ => simp only [q2] at g2; exact (show False from g2).elim
abbrev popEv (i : Nat) : Env → Res (R × Env) := fun ρ => match ρ[i]? with
  | some (some (.own l xs)) => match xs.getLast? with
    | some y => .ok (.d y, ρ.set i (some (.own l xs.dropLast)))
    | none => .stuck
  | _ => .stuck
theorem dpa_dropLast {K : PySem.W.Frag} : ∀ {vs : List V} {xs : List D}, DqAll K F vs xs → DqAll K F vs.dropLast xs.dropLast
  | _, _, .nil => .nil
  | _, _, .cons _ .nil => .nil
  | _, _, .cons a (.cons b c) => by
    have ih := dpa_dropLast (.cons b c)
    exact .cons a ih
theorem rd_pop {i : Nat} {nm : Expr} {apos cpos : Pos} (hn : PE X nm (tVar i)) (hb : attributeBase nm "pop" X.env (eval nm X.env) = eval nm X.env) (hp : (apos.endLine == cpos.line) = true) :
    PE X (.Call (.Attribute nm "pop" apos) [] [] cpos) (RdE X.K A Wx (popEv i)) := by
  refine PE_imp (pe_bm0 PySem.F.plainAttrs_list PySem.F.slot_list_pop PySem.F.type_list_pop mt_pop hn hb hp) fun σ H Q ⟨B, ρ, T, ⟨F, O, S⟩, g⟩ => ?_
  simp only [popEv] at g
  cases q : ρ[i]? with
  | none => simp only [q] at g; exact (show False from g).elim
  | some w =>
    cases w with
    | none => simp only [q] at g; exact (show False from g).elim
    | some w =>
      cases w with
      | d x => simp only [q] at g; exact (show False from g).elim
      | fn f => simp only [q] at g; exact (show False from g).elim
      | own l xs =>
        simp only [q] at g
        obtain ⟨p, vs, hσ, hp, dd⟩ := S.ownSlot q
        cases q2 : xs.getLast? with
        | none => simp only [q2] at g; exact (show False from g).elim
        | some y =>
          simp only [q2] at g
          rw [List.getLast?_eq_getElem?] at q2
          obtain ⟨v, hv, dv⟩ := dpa_get dd q2
          refine own_var hσ ⟨tyV_list hp, p, vs, v, rfl, rfl, hp, by rw [dpa_len dd]; exact hv, g _ _ ?_⟩
          exact (S.mutate q hσ hp (dpa_dropLast dd)).pushD dv
end
end Mn
set_option Elab.async false
set_option linter.all false
set_option maxRecDepth 100000
set_option maxHeartbeats 1000000
namespace Mn
open PySem PySem.Spec PyProof.Rows L2

section
variable {K : PySem.W.Frag} {A : Ad} {Wx : WX} {B : Bs} {σ σ1 σ2 : L2.St} {ρ ρ' : Env} {T : Tmps} {H H' F : Hp} {O : Addr → Option Owner}
/-! ### parts that run by themselves -/
theorem wipeE_len : ∀ (vs : List Nat) (ρ : Env), (wipeE ρ vs).length = ρ.length
  | [], _ => rfl
  | v :: vs, ρ => by rw [wipeE, List.length_set, wipeE_len vs]
theorem wipeE_some {w : W} : ∀ {vs : List Nat} {ρ : Env} {i : Nat}, (wipeE ρ vs)[i]? = some (some w) → ρ[i]? = some (some w) ∧ i ∉ vs
  | [], _, _, h => ⟨h, by simp⟩
  | v :: vs, ρ, i, h => by
    rw [wipeE] at h
    rcases getElem?_set_cases h with ⟨_, e, _⟩ | ⟨e1, e2⟩
    · cases e
    · obtain ⟨a, b⟩ := wipeE_some e2
      exact ⟨a, by simp only [List.mem_cons, not_or]; exact ⟨e1, b⟩⟩
theorem wipe_ne {i : Nat} : ∀ {vs : List Nat} {σ : L2.St}, i ∉ vs → (wipe σ vs)[i]? = σ[i]?
  | [], _, _ => rfl
  | v :: vs, σ, h => by
    simp only [List.mem_cons, not_or] at h
    unfold wipe
    rw [List.getElem?_set_ne (Ne.symm h.1), wipe_ne h.2]
theorem wipe_in {i : Nat} : ∀ {vs : List Nat} {σ : L2.St}, i ∈ vs → i < σ.length → (wipe σ vs)[i]? = some none
  | v :: vs, σ, h, hl => by
    unfold wipe
    by_cases hi : v = i
    · subst hi
      rw [List.getElem?_set_self (by rw [wipe_length]; exact hl)]
    · rw [List.getElem?_set_ne hi]
      rcases List.mem_cons.mp h with e | e
      · exact absurd e.symm hi
      · exact wipe_in e hl
theorem wipe_agree {vs : List Nat} (hl : σ1.length = σ2.length) (h : ∀ j, j ∉ vs → σ1[j]? = σ2[j]?) : wipe σ1 vs = wipe σ2 vs := by
  refine List.ext_getElem? fun j => ?_
  by_cases hj : j ∈ vs
  · by_cases hl2 : j < σ1.length
    · rw [wipe_in hj hl2, wipe_in hj (by rw [← hl]; exact hl2)]
    · rw [List.getElem?_eq_none (by rw [wipe_length]; omega), List.getElem?_eq_none (by rw [wipe_length]; omega)]
  · rw [wipe_ne hj, wipe_ne hj, h j hj]
def slotsOnly (O : Addr → Option Owner) : Addr → Option Owner := fun b => match O b with
  | some (.slot i) => some (.slot i)
  | _ => none
theorem slotsOnly_slot {p : Addr} {i : Nat} (h : O p = some (.slot i)) : slotsOnly O p = some (.slot i) := by unfold slotsOnly; rw [h]
theorem slotsOnly_of {p : Addr} (h : slotsOnly O p ≠ none) : ∃ i, O p = some (.slot i) := by
  unfold slotsOnly at h
  cases q : O p with
  | none => rw [q] at h; exact absurd rfl h
  | some w =>
    rw [q] at h
    cases w with
    | slot i => exact ⟨i, rfl⟩
    | temp k => exact absurd rfl h
/-- the base of a part: what is here is kept, but for what the slots own -/
abbrev blkB (H F : Hp) (O : Addr → Option Owner) (σ : L2.St) : Bs := subB H F (fun b => ∃ i, O b = some (.slot i)) σ (fun _ => True)
theorem Sep.enter (S : Sep K A B σ ρ T H F O) (own : List Nat) : Sep K A (blkB H F O (wipe σ own)) (wipe σ own) (wipeE ρ own) [] H F (slotsOnly O) where
  fh := S.fh
  f0 := fun _ _ h => h
  fn := fun _ h => .inl h
  h0 := fun _ _ h _ => (mask_some h).1
  h1 := fun _ h => h
  ho := fun b h => by
    obtain ⟨i, hi⟩ := slotsOnly_of h
    have := S.ho b (by rw [hi]; exact Option.some_ne_none _)
    exact ⟨this.1, .inr ⟨i, hi⟩, this.2.2⟩
  len := by rw [wipe_length, wipeE_len]; exact S.len
  slots := fun i w h => by
    obtain ⟨h1, h2⟩ := wipeE_some h
    obtain ⟨v, a, c⟩ := S.slots i w h1
    exact ⟨v, by rw [wipe_ne h2]; exact a, slotOk_step (Sub.refl _) (fun p e => ⟨slotsOnly_slot e, fun _ z => z⟩) c⟩
  temps := fun k r v h => by simp at h
  lent := fun i xs h => rfl
  nt := fun k xs p h => by simp at h
  ns := fun _ _ _ _ _ => trivial
  nn := fun _ _ => trivial
  tb := S.tb
/-- slots forgotten -/
theorem Sep.wiped (S : Sep K A B σ2 ρ T H F O) (hT : NoSlot T) {own : List Nat} (hl : σ1.length = σ2.length) (h : ∀ j, j ∉ own → σ2[j]? = σ1[j]?) : Sep K A B σ1 (wipeE ρ own) T H F O where
  fh := S.fh
  f0 := S.f0
  fn := S.fn
  h0 := S.h0
  h1 := S.h1
  ho := S.ho
  len := by rw [wipeE_len, hl]; exact S.len
  slots := fun i w e => by
    obtain ⟨h1, h2⟩ := wipeE_some e
    obtain ⟨v, a, c⟩ := S.slots i w h1
    exact ⟨v, by rw [← h i h2]; exact a, c⟩
  temps := fun k r v e => temp_set (i := 0) (v' := v) (fun j z => hT k j v (by rw [← z]; exact e)) (S.temps k r v e)
  lent := fun i xs e => by
    obtain ⟨h1, h2⟩ := wipeE_some e
    rw [← h i h2]; exact S.lent i xs h1
  nt := S.nt
  ns := fun i xs p e e2 => by
    obtain ⟨h1, h2⟩ := wipeE_some e
    exact S.ns i xs p h1 (by rw [h i h2]; exact e2)
  nn := S.nn
  tb := S.tb
/-- a temporary list grows -/
theorem Sep.grow {k : Nat} {p : Addr} {xs ys : List D} {vs us : List V} (S : Sep K A B σ ρ T H F O) (ht : T[k]? = some (.fresh xs, .ref p)) (hH : H p = some (.lst vs)) (hd : DqAll K F us ys) :
    Sep K A B σ ρ (T.set k (.fresh ys, .ref p)) (upd H p (.lst us)) F O := by
  obtain ⟨p', vs', e1, e2, e3, e4⟩ := S.temps k _ _ ht
  cases e1
  have bn := S.nt k xs p ht
  obtain ⟨f, _, _⟩ := S.ho p (by rw [e2]; exact Option.some_ne_none _)
  have up : ∀ q w, w ≠ .temp k → O q = some w → O q = some w ∧ ∀ u, H q = some u → upd H p (.lst us) q = some u := fun q w hw e => by
    have hq : q ≠ p := fun z => by rw [z, e2] at e; exact hw (Option.some.inj e).symm
    exact ⟨e, fun u eu => by rw [upd_ne hq]; exact eu⟩
  refine ⟨fun q u e => ?_, S.f0, S.fn, fun q u e n => ?_, fun q e => upd_ne_none nonT_lst (S.h1 q e), fun q e => ⟨(S.ho q e).1, (S.ho q e).2.1, upd_ne_none nonT_lst (S.ho q e).2.2⟩, S.len, fun j x e => ?_, fun j r u e => ?_, S.lent, fun j zs q e => ?_, S.ns, S.nn, S.tb.mut hH⟩
  · rw [upd_ne (fun z => by rw [z, f] at e; cases e)]; exact S.fh q u e
  · rw [upd_ne (fun z => by rw [z, bn] at e; cases e)]; exact S.h0 q u e n
  · obtain ⟨u, a, c⟩ := S.slots j x e
    exact ⟨u, a, slotOk_step (Sub.refl _) (fun q e => up q _ (fun z => nomatch z) e) c⟩
  · rcases getElem?_set_cases e with ⟨e5, e6, _⟩ | ⟨e5, e6⟩
    · subst e5; cases e6
      exact ⟨p, us, rfl, e2, upd_same, hd⟩
    · exact tempOk_step (Sub.refl _) (fun q e => up q _ (fun z => e5 (Owner.temp.inj z)) e) (S.temps j r u e6)
  · rcases getElem?_set_cases e with ⟨e5, e6, _⟩ | ⟨e5, e6⟩
    · cases e6; exact bn
    · exact S.nt j zs q e6
/-- what backE gives -/
theorem back_len (own : List Nat) : ∀ (k : Nat) (ρ ρn : Env), (backE own k ρ ρn).length = ρ.length
  | _, [], _ => rfl
  | _, w :: ρ, [] => by simp [backE]
  | k, w :: ρ, u :: ρn => by simp [backE, back_len own (k + 1) ρ ρn]
theorem back_get {own : List Nat} {x : W} : ∀ {k j : Nat} {ρ ρn : Env}, (backE own k ρ ρn)[j]? = some (some x) →
    ∃ w u, ρ[j]? = some w ∧ ρn[j]? = some u ∧ ((own.contains (k + j) = true ∧ noOwn w = some x) ∨ (own.contains (k + j) = false ∧ back1 w u = some x))
  | _, _, [], _, h => by simp [backE] at h
  | _, j, w :: ρ, [], h => by
    exfalso
    cases j with
    | zero => simp [backE] at h
    | succ j =>
      simp [backE] at h
  | k, 0, w :: ρ, u :: ρn, h => by
    refine ⟨w, u, rfl, rfl, ?_⟩
    simp only [backE, List.getElem?_cons_zero, Option.some.injEq] at h
    cases q : own.contains k with
    | true => rw [q] at h; exact .inl ⟨by simpa using q, h⟩
    | false => rw [q] at h; exact .inr ⟨by simpa using q, h⟩
  | k, j + 1, w :: ρ, u :: ρn, h => by
    simp only [backE, List.getElem?_cons_succ] at h
    obtain ⟨w', u', a, b, c⟩ := back_get h
    refine ⟨w', u', by simpa using a, by simpa using b, ?_⟩
    rw [show k + (j + 1) = k + 1 + j by omega]
    exact c
/-- back from a comprehension -/
theorem Sep.leave {own : List Nat} {r : R} {v : V} {ρn : Env} {O' : Addr → Option Owner} {F' : Hp} (S : Sep K A B σ ρ T H F O) (Sb : Sep K A (blkB H F O (wipe σ own)) (wipe σ own) ρn [(r, v)] H' F' O') (hr : ∀ i, r ≠ .slot i) :
    At K A B σ (backE own 0 ρ ρn) (T ++ [(r, v)]) H' := by
  refine S.resume (m := fun i => i) Sb (fun b h => h) hr (back_len own 0 ρ ρn) fun j x h => ?_
  obtain ⟨w, u, a, b, c⟩ := back_get h
  rw [Nat.zero_add] at c
  rcases c with ⟨_, c⟩ | ⟨hj, c⟩
  · -- its own slot
    refine .inl ⟨?_, .inl fun l xs z => ?_⟩
    · rw [a]
      cases w with
      | none => cases c
      | some w => cases w <;> first | (cases c; rfl) | cases c
    · subst z
      cases w with
      | none => cases c
      | some w => cases w <;> cases c
  · have hj' : j ∉ own := fun z => by
      have : own.contains j = true := List.contains_iff_mem.mpr z
      rw [hj] at this; cases this
    cases u with
    | none => cases w with
      | none => cases c
      | some w => cases w <;> cases c
    | some u =>
      obtain ⟨z, h1, h2⟩ := Sb.slots j u b
      have h1' : (wipe σ own)[j]? = some (some z) := h1
      rw [wipe_ne hj'] at h1'
      cases u with
      | d y =>
        have : x = .d y := by
          cases w with
          | none => cases c; rfl
          | some w => cases w <;> (cases c; rfl)
        subst this
        exact .inr (.inl ⟨j, b, (fun _ _ z => nomatch z), z, h1, h1'⟩)
      | fn f =>
        have : x = .fn f := by
          cases w with
          | none => cases c; rfl
          | some w => cases w <;> (cases c; rfl)
        subst this
        exact .inr (.inl ⟨j, b, (fun _ _ z => nomatch z), z, h1, h1'⟩)
      | own l ys =>
        cases w with
        | none => cases c
        | some w =>
          cases w with
          | d y => cases c
          | fn f => cases c
          | own l' xs =>
            cases c
            refine .inr (.inr ⟨j, l', l, xs, ys, rfl, b, a, rfl, z, h1, h1', fun p hp => ?_⟩)
            obtain ⟨v', a', p', vs, e1, e2, _⟩ := S.slots j _ a
            rw [h1'] at a'
            cases a'
            rw [hp] at e1
            cases e1
            exact ⟨j, e2⟩
end
end Mn
set_option Elab.async false
set_option linter.all false
set_option maxRecDepth 100000
set_option maxHeartbeats 1000000
namespace Mn
open PySem PySem.Spec PyProof.Rows L2

/-! ### targets -/
def Tg.slots : Tg → List Nat
  | .one i => [i]
  | .row is => is
/-- the slots elsewhere are as they were -/
def Agree (own : List Nat) (σ σ' : L2.St) : Prop := σ'.length = σ.length ∧ ∀ j, j ∉ own → σ'[j]? = σ[j]?
theorem Agree.refl (own : List Nat) (σ : L2.St) : Agree own σ σ := ⟨rfl, fun _ _ => rfl⟩
theorem Agree.set {own : List Nat} {σ : L2.St} {i : Nat} {v : V} (h : i ∈ own) : Agree own σ (σ.set i (some v)) := ⟨by simp, fun j hj => by
  rw [List.getElem?_set_ne]
  intro z; subst z; exact hj h⟩
theorem Agree.trans {own : List Nat} {σ σ' σ'' : L2.St} (a : Agree own σ σ') (b : Agree own σ' σ'') : Agree own σ σ'' := ⟨b.1.trans a.1, fun j hj => (b.2 j hj).trans (a.2 j hj)⟩
theorem Agree.mono {own own' : List Nat} {σ σ' : L2.St} (a : Agree own σ σ') (h : ∀ j ∈ own, j ∈ own') : Agree own' σ σ' := ⟨a.1, fun j hj => a.2 j fun z => hj (h j z)⟩
def gRow : List Nat → TGs
  | [] => gNil
  | i :: is => gCons (gName i) (gRow is)
section
variable {X : Cx} {K : PySem.W.Frag} {A : Ad} {Wx : WX} {B : Bs} {σ σ1 σ2 : L2.St} {ρ ρ' : Env} {T : Tmps} {H H' F : Hp} {O : Addr → Option Owner}
theorem into_d {i : Nat} {x : D} (e : (R.d x).into i ρ = some ρ') : i < ρ.length ∧ (∀ xs, ρ[i]? ≠ some (some (W.own true xs))) ∧ ρ' = ρ.set i (some (W.d x)) := by
  obtain ⟨a, b, c⟩ := notLent e
  cases c
  exact ⟨a, b, rfl⟩
theorem Sep.setData (S : Sep K A B σ ρ T H F O) (hT : NoSlot T) {i : Nat} {v : V} {x : D} (e : (R.d x).into i ρ = some ρ') (h : Dq K F v x) : Sep K A B (σ.set i (some v)) ρ' T H F O := by
  obtain ⟨a, b, rfl⟩ := into_d e
  exact S.setD hT a b (w := W.d x) h (fun _ z => nomatch z)
theorem row_sound : ∀ {is : List Nat} {xs : List D} {vs : List V} {σ : L2.St} {ρ : Env} {Q : L2.St → Hp → Prop}, Sep K A B σ ρ T H F O → NoSlot T → DqAll K F vs xs → Tg.set.setRow is xs ρ = some ρ' →
    (∀ σ', Agree is σ σ' → Sep K A B σ' ρ' T H F O → Q σ' H) → gRow is vs σ H Q
  | [], xs, vs, σ, ρ, Q, S, hT, hd, e, q => by
    cases xs with
    | nil =>
      cases hd
      cases e
      exact ⟨rfl, q σ (Agree.refl _ _) S⟩
    | cons _ _ => simp [Tg.set.setRow] at e
  | i :: is, xs, vs, σ, ρ, Q, S, hT, hd, e, q => by
    cases xs with
    | nil => simp [Tg.set.setRow] at e
    | cons x xs =>
      cases hd with
      | cons h1 h2 =>
        rename_i v vs
        simp only [Tg.set.setRow] at e
        cases q1 : (R.d x).into i ρ with
        | none => rw [q1] at e; cases e
        | some ρ1 =>
          rw [q1] at e
          refine ⟨v, vs, rfl, ?_⟩
          show gRow is vs (σ.set i (some v)) H Q
          exact row_sound (S.setData hT q1 h1) hT h2 e fun σ' ag S' => q σ' (((Agree.set (List.mem_cons_self)).trans (ag.mono fun j hj => List.mem_cons_of_mem _ hj))) S'
/-- a target's reading -/
def RdG (K : PySem.W.Frag) (tg : Tg) : TG := match tg with
  | .one i => gName i
  | .row is => gTup K is.length (gRow is)
theorem tg_sound {tg : Tg} {v : V} {x : D} {Q : L2.St → Hp → Prop} (S : Sep K A B σ ρ T H F O) (hT : NoSlot T) (hv : Dq K F v x) (e : tg.set ρ x = some ρ') (q : ∀ σ', Agree tg.slots σ σ' → Sep K A B σ' ρ' T H F O → Q σ' H) : RdG K tg v σ H Q := by
  cases tg with
  | one i => exact q _ (Agree.set (List.mem_cons_self)) (S.setData hT e hv)
  | row is =>
    cases x with
    | tuple xs =>
      cases hv with
      | tup h1 h2 =>
        rename_i a vs
        have e' : Tg.set.setRow is xs ρ = some ρ' := e
        have hl : ∀ {is : List Nat} {xs : List D} {ρ ρ' : Env}, Tg.set.setRow is xs ρ = some ρ' → xs.length = is.length := by
          intro is
          induction is with
          | nil =>
            intro xs ρ ρ' h
            cases xs with
            | nil => rfl
            | cons _ _ => simp [Tg.set.setRow] at h
          | cons i is ih =>
            intro xs ρ ρ' h
            cases xs with
            | nil => simp [Tg.set.setRow] at h
            | cons x xs =>
              simp only [Tg.set.setRow] at h
              split at h
              · rw [List.length_cons, List.length_cons, ih h]
              · cases h
        exact ⟨a, vs, rfl, sqt_sub S.fh h1, by rw [dpa_len h2, hl e'], row_sound S hT h2 e' q⟩
    | _ => cases e

/-! ### what is walked -/
structure IterD (K : PySem.W.Frag) (J : It) (F : Hp) (items : List D) : Prop where
  goes : ∀ i H, i < items.length → Sub F H → J.go i H
  stops : ∀ H, Sub F H → J.stop items.length H
  yields : ∀ i H x H' d, items[i]? = some d → Sub F H → J.yld i H x H' → (H' = H ∧ Dq K F x d) ∨ (∃ T vs ds, x = .ref T ∧ H T = none ∧ H' = upd H T (.tup vs) ∧ d = .tuple ds ∧ DqAll K F vs ds)
def YD (K : PySem.W.Frag) (F : Hp) (items : List D) : Nat → Hp → V → Hp → Prop := fun i H x H' => ∃ d, items[i]? = some d ∧ ((H' = H ∧ Dq K F x d) ∨ (∃ T vs ds, x = .ref T ∧ H T = none ∧ H' = upd H T (.tup vs) ∧ d = .tuple ds ∧ DqAll K F vs ds))
theorem IterD.walk {J : It} {items : List D} (h : IterD K J F items) : Walk J items.length (Sub F) (YD K F items) where
  goes := fun i H hi hs => h.goes i H hi hs
  stops := fun H hs => h.stops H hs
  yields := fun i H x H' hi hs y => ⟨items[i], by simp [hi], h.yields i H x H' _ (by simp [hi]) hs y⟩
theorem iterD_list {a : Addr} {vs : List V} {xs : List D} (h : Rd F a (.lst vs)) (hd : DqAll K F vs xs) : IterD K (Itl K a) F xs where
  goes := fun i H hi hs => walk_list.goes i H (by rw [dpa_len hd]; exact hi) (.inl (rd_sub hs h))
  stops := fun H hs => by
    rw [← dpa_len hd]
    exact walk_list.stops H (.inl (rd_sub hs h))
  yields := fun i H x H' d hd' hs y => by
    have hi : i < vs.length := by rw [dpa_len hd]; exact (List.getElem?_eq_some_iff.mp hd').1
    obtain ⟨e1, e2⟩ := walk_list.yields i H x H' hi (.inl (rd_sub hs h)) y
    obtain ⟨v, h1, h2⟩ := dpa_get hd hd'
    rw [e2] at h1
    cases h1
    exact .inl ⟨e1, h2⟩
theorem iterD_tup {a : Addr} {vs : List V} {xs : List D} (h : SqT K F a vs) (hd : DqAll K F vs xs) : IterD K (Itt K a) F xs where
  goes := fun i H hi hs => walk_tup.goes i H (by rw [dpa_len hd]; exact hi) (sqt_sub hs h)
  stops := fun H hs => by
    rw [← dpa_len hd]
    exact walk_tup.stops H (sqt_sub hs h)
  yields := fun i H x H' d hd' hs y => by
    have hi : i < vs.length := by rw [dpa_len hd]; exact (List.getElem?_eq_some_iff.mp hd').1
    obtain ⟨e1, e2⟩ := walk_tup.yields i H x H' hi (sqt_sub hs h) y
    obtain ⟨v, h1, h2⟩ := dpa_get hd hd'
    rw [e2] at h1
    cases h1
    exact .inl ⟨e1, h2⟩
theorem iterD_str {z : Str} : IterD K (Its z) F (strList z) where
  goes := fun i H hi hs => walk_str.goes i H (by simpa [strList] using hi) trivial
  stops := fun H hs => by
    have e : (strList z).length = z.cps.size := by simp [strList]
    rw [e]
    exact walk_str.stops H trivial
  yields := fun i H x H' d hd' hs y => by
    have e : (strList z).length = z.cps.size := by simp [strList]
    have hi : i < z.cps.size := by rw [← e]; exact (List.getElem?_eq_some_iff.mp hd').1
    obtain ⟨e1, c, e2, e3⟩ := walk_str.yields i H x H' hi trivial y
    refine .inl ⟨e1, ?_⟩
    subst e3
    unfold strList at hd'
    rw [List.getElem?_map] at hd'
    have e4 : z.cps.toList[i]? = some c := by rw [Array.getElem?_toList]; exact e2
    rw [e4] at hd'
    cases hd'
    exact .str _
theorem iterD_range {lo : Int} {n : Nat} : IterD K (Itr lo n) F ((List.range n).map fun (k : Nat) => .int (lo + k)) where
  goes := fun i H hi hs => walk_range.goes i H (by simpa using hi) trivial
  stops := fun H hs => by
    have e : ((List.range n).map fun (k : Nat) => PyData.int (lo + k)).length = n := by simp
    rw [e]
    exact walk_range.stops H trivial
  yields := fun i H x H' d hd' hs y => by
    have hi : i < n := by
      have := (List.getElem?_eq_some_iff.mp hd').1
      simpa using this
    obtain ⟨e1, e2⟩ := walk_range.yields i H x H' hi trivial y
    subst e2
    rw [List.getElem?_map, List.getElem?_range hi] at hd'
    cases hd'
    exact .inl ⟨e1, .int _⟩
/-- anything that is walked by itself: a list, a tuple, a text -/
def iAny (K : PySem.W.Frag) (tl : TE) : TI := fun σ H R => tl σ H fun x H1 => (∃ a xs, x = .ref a ∧ SqL K H1 a xs ∧ R (Itl K a) H1) ∨ (∃ a xs, x = .ref a ∧ SqT K H1 a xs ∧ R (Itt K a) H1) ∨ ∃ z, x = .str z ∧ R (Its z) H1
theorem pi_any {tg l : Expr} {tl : TE} (hl : PE X l tl) : PI X tg l (iAny X.K tl) := by
  refine ⟨fun pins s σ H R I h => thn (hl.run pins s σ H _ I h) fun v s1 hh => ?_⟩
  obtain ⟨x, H1, I1, r1, q1⟩ := hh
  have ffresh : ∀ b, b ∈ [s1.heap.objs.size] → FpOk X pins H1 b := fun b hb => by
    have e : b = s1.heap.objs.size := by simpa using hb
    rw [e]
    exact I1.fpOk (Nat.le_refl _) (I1.hok.fresh (Nat.le_refl _))
  rcases q1 with ⟨a, xs, e, hq, q⟩ | ⟨a, xs, e, hq, q⟩ | ⟨z, e, q⟩
  · subst e
    obtain rfl : v = Value.ref a := r1
    obtain ⟨its, rv, p, hz⟩ := I1.list hq
    refine wpAny_pyIter_list p.isList ?_
    exact ⟨_, [s1.heap.objs.size], _, Itl X.K a, H1, rfl, I1.kept (t' := s1.toks) fun b o e => Heap.get?_push_of_some _ e, turn_list a _, ⟨_, Heap.get?_push_size _ rfl, rfl, rfl⟩, ffresh, q⟩
  · subst e
    obtain rfl : v = Value.ref a := r1
    have pt := pi_tup (X := X) (tg := tg) (l := l) (tl := fun σ' H' Q => σ' = σ ∧ H' = H1 ∧ Q (.ref a) H1)
    obtain ⟨its, rv, p, hz⟩ := I1.tuple hq
    refine wpAny_pyIter_tuple (show s1.heap.IsTuple a its.toArray from p) ?_
    exact ⟨_, [s1.heap.objs.size], _, Itt X.K a, H1, rfl, I1.kept (t' := s1.toks) fun b o e => Heap.get?_push_of_some _ e, turn_tuple a _, ⟨_, Heap.get?_push_size _ rfl, rfl, rfl⟩, ffresh, q⟩
  · subst e
    obtain ⟨t, rfl⟩ := r1
    cases ha : z.cps.all (· < 128)
    · exact wpAny_pyIter_wide ha (pi_one (tk := s1.toks) I1 _ (turn_str _ z t "str_iterator" (.inr rfl)) ⟨_, Heap.get?_push_size _ rfl, rfl, rfl⟩ q)
    · exact wpAny_pyIter_ascii ha (pi_one (tk := s1.toks) I1 _ (turn_str _ z t "str_ascii_iterator" (.inl rfl)) ⟨_, Heap.get?_push_size _ rfl, rfl, rfl⟩ q)
theorem PI_imp {tg it : Expr} {t t' : TI} (h : PI X tg it t) (hi : ∀ σ H R, t' σ H R → t σ H R) : PI X tg it t' := ⟨fun pins s σ H R I q => h.run pins s σ H R I (hi _ _ _ q)⟩
def RdI (K : PySem.W.Frag) (A : Ad) (Wx : WX) (ev : Env → Res (List D × Env)) : TI := fun σ H Rr => ∃ B ρ T, At K A B σ ρ T H ∧
  Gd (ev ρ) (fun p => ∀ J H' F O, Sep K A B σ p.2 T H' F O → IterD K J F p.1 → Rr J H') (ExP K A Wx B σ)
theorem rdi_seq {tg e : Expr} {ev : Env → Res (R × Env)} (he : PE X e (RdE X.K A Wx ev)) : PI X tg e (RdI X.K A Wx fun ρ => do
    let p ← ev ρ
    let (y, ρ) ← keepR p
    let xs ← Res.of (itemsD y)
    .ok (xs, ρ)) := by
  refine PI_imp (pi_any he) fun σ H Rr ⟨B, ρ, T, at_, g⟩ => ?_
  refine ⟨B, ρ, T, at_, (gd_bind.mp g).mono (fun ⟨r, ρ1⟩ g1 v H1 ⟨F, O, S⟩ => ?_) fun _ _ h => h⟩
  obtain ⟨y, ρ2, ek, g2⟩ := gd_keepR (gd_bind.mp g1)
  obtain ⟨xs, ex, g3⟩ := gd_of (gd_bind.mp g2)
  obtain ⟨F2, O2, S2, _⟩ := S.keepTop ek
  have dv : Dq X.K F2 v y := S2.top
  cases y with
  | list ys =>
    cases ex
    cases dv with
    | lst h1 h2 => exact .inl ⟨_, _, rfl, .inl (rd_sub S2.fh h1), g3 _ _ _ _ S2.drop (iterD_list h1 h2)⟩
  | tuple ys =>
    cases ex
    cases dv with
    | tup h1 h2 => exact .inr (.inl ⟨_, _, rfl, sqt_sub S2.fh h1, g3 _ _ _ _ S2.drop (iterD_tup h1 h2)⟩)
  | str z =>
    cases ex
    cases dv
    exact .inr (.inr ⟨z, rfl, g3 _ _ _ _ S2.drop iterD_str⟩)
  | _ => cases ex
theorem rdi_rng1 {tg e : Expr} {p pos : Pos} {ev : Env → Res (R × Env)} (hg : Gl X "range") (hm : X.mg "range" = none) (he : PE X e (RdE X.K A Wx ev)) (hs : noStar e = true) :
    PI X tg (.Call (.Name "range" p) [e] [] pos) (RdI X.K A Wx fun ρ => do
      let (x, ρ) ← ev ρ
      match x with
      | .d (.int j) => if j < 2 ^ 62 ∧ -(2 ^ 62) ≤ j then .ok ((List.range j.toNat).map fun (k : Nat) => .int k, ρ) else .stuck
      | _ => .stuck) := by
  refine PI_imp (pi_range1 hg hm (pa_cons he pa_nil (star_head (noStar_ne hs))) (star_head (noStar_ne hs))) fun σ H Rr ⟨B, ρ, T, at_, g⟩ => ?_
  refine ⟨B, ρ, T, at_, (gd_bind.mp g).mono (fun ⟨r, ρ1⟩ g1 v H1 ⟨F, O, S⟩ => ?_) fun _ _ h => h⟩
  match r, g1, S with
  | .d (.int j), g1, S =>
    obtain ⟨⟨h1, h2⟩, g2⟩ := gd_if_stuck g1
    refine ⟨j, by rw [dp_int S.top], h2, h1, g2 _ _ _ _ S.drop ?_⟩
    have := iterD_range (K := X.K) (F := F) (lo := 0) (n := j.toNat)
    simpa using this
theorem rdi_rng2 {tg e e' : Expr} {p pos : Pos} {ev ev' : Env → Res (R × Env)} (hg : Gl X "range") (hm : X.mg "range" = none) (he : PE X e (RdE X.K A Wx ev)) (he' : PE X e' (RdE X.K A Wx ev')) (hs : noStar e = true) (hs' : noStar e' = true) :
    PI X tg (.Call (.Name "range" p) [e, e'] [] pos) (RdI X.K A Wx fun ρ => do
      let (x, ρ) ← ev ρ
      let (y, ρ) ← ev' ρ
      match x, y with
      | .d (.int i), .d (.int j) => if (-(2 ^ 62) ≤ i ∧ i < 2 ^ 62) ∧ -(2 ^ 62) ≤ j ∧ j < 2 ^ 62 then .ok ((List.range (j - i).toNat).map fun (k : Nat) => .int (i + k), ρ) else .stuck
      | _, _ => .stuck) := by
  refine PI_imp (pi_range2 hg hm (pa_cons he (pa_cons he' pa_nil (star_head (noStar_ne hs'))) (star_head (noStar_ne hs))) (by rw [star_head (noStar_ne hs), star_head (noStar_ne hs')]; rfl) (star_head (noStar_ne hs'))) fun σ H Rr ⟨B, ρ, T, at_, g⟩ => ?_
  refine ⟨B, ρ, T, at_, (gd_bind.mp g).mono (fun ⟨x, ρ1⟩ g1 v H1 at1 => ?_) fun _ _ h => h⟩
  refine ⟨B, ρ1, _, at1, (gd_bind.mp g1).mono (fun ⟨y, ρ2⟩ g2 v' H2 ⟨F, O, S⟩ => ?_) fun _ _ h => h⟩
  match x, y, g2, S with
  | .d (.int i), .d (.int j), g2, S =>
    obtain ⟨⟨h1, h2⟩, g3⟩ := gd_if_stuck g2
    have e1 := dp_int (S.temps _ _ _ two_top.1)
    have e2 := dp_int (S.temps _ _ _ two_top.2)
    exact ⟨i, j, by rw [e1, e2], ⟨h1.1, h1.2, h2.1, h2.2⟩, g3 _ _ _ _ S.drop.drop iterD_range⟩
end
end Mn
set_option Elab.async false
set_option linter.all false
set_option maxRecDepth 100000
set_option maxHeartbeats 1000000
namespace Mn
open PySem PySem.Spec PyProof.Rows L2
section
variable {X : Cx} {K : PySem.W.Frag} {A : Ad} {Wx : WX} {B : Bs} {σ σ1 σ2 : L2.St} {ρ ρ' : Env} {T : Tmps} {H H' F : Hp} {O : Addr → Option Owner}
def pairs (xs ys : List D) : List D := (xs.zip ys).map fun p => .tuple [p.1, p.2]
theorem pairs_get {xs ys : List D} {i : Nat} {d : D} (h : (pairs xs ys)[i]? = some d) : ∃ x y, xs[i]? = some x ∧ ys[i]? = some y ∧ d = .tuple [x, y] := by
  unfold pairs at h
  rw [List.getElem?_map] at h
  cases q : (xs.zip ys)[i]? with
  | none => rw [q] at h; cases h
  | some p =>
    rw [q] at h
    cases h
    obtain ⟨x, y⟩ := p
    rw [List.getElem?_zip_eq_some] at q
    exact ⟨x, y, q.1, q.2, rfl⟩
theorem pairs_len {xs ys : List D} : (pairs xs ys).length = min xs.length ys.length := by simp [pairs]
theorem iterD_zipL {a b : Addr} {vs us : List V} {xs ys : List D} (h : Rd F a (.lst vs)) (h' : Rd F b (.lst us)) (hd : DqAll K F vs xs) (hd' : DqAll K F us ys) : IterD K (Itz K a b) F (pairs xs ys) where
  goes := fun i H hi hs => by
    rw [pairs_len, ← dpa_len hd, ← dpa_len hd'] at hi
    have h1 : i < vs.length := by omega
    have h2 : i < us.length := by omega
    exact ⟨vs, us, vs[i], us[i], .inl (rd_sub hs h), .inl (rd_sub hs h'), by simp [h1], by simp [h2]⟩
  stops := fun H hs => by
    rw [pairs_len, ← dpa_len hd, ← dpa_len hd']
    exact ⟨vs, us, .inl (rd_sub hs h), .inl (rd_sub hs h'), by omega⟩
  yields := fun i H x H' d e hs y => by
    obtain ⟨x1, y1, e1, e2, rfl⟩ := pairs_get e
    obtain ⟨Tt, x2, y2, z1, z2, z3, z4, z5⟩ := y
    have q1 := z4 vs (.inl (rd_sub hs h))
    have q2 := z5 us (.inl (rd_sub hs h'))
    obtain ⟨v1, w1, d1⟩ := dpa_get hd e1
    obtain ⟨v2, w2, d2⟩ := dpa_get hd' e2
    rw [q1] at w1
    rw [q2] at w2
    cases w1
    cases w2
    exact .inr ⟨Tt, _, _, z1, z2, z3, rfl, .cons d1 (.cons d2 .nil)⟩
theorem iterD_zipT {a b : Addr} {vs us : List V} {xs ys : List D} (h : SqT K F a vs) (h' : SqT K F b us) (hd : DqAll K F vs xs) (hd' : DqAll K F us ys) : IterD K (RZ.ItzT K a b) F (pairs xs ys) where
  goes := fun i H hi hs => by
    rw [pairs_len, ← dpa_len hd, ← dpa_len hd'] at hi
    have h1 : i < vs.length := by omega
    have h2 : i < us.length := by omega
    exact ⟨vs, us, vs[i], us[i], sqt_sub hs h, sqt_sub hs h', by simp [h1], by simp [h2]⟩
  stops := fun H hs => by
    rw [pairs_len, ← dpa_len hd, ← dpa_len hd']
    exact ⟨vs, us, sqt_sub hs h, sqt_sub hs h', by omega⟩
  yields := fun i H x H' d e hs y => by
    obtain ⟨x1, y1, e1, e2, rfl⟩ := pairs_get e
    obtain ⟨Tt, x2, y2, z1, z2, z3, z4, z5⟩ := y
    have q1 := z4 vs (sqt_sub hs h)
    have q2 := z5 us (sqt_sub hs h')
    obtain ⟨v1, w1, d1⟩ := dpa_get hd e1
    obtain ⟨v2, w2, d2⟩ := dpa_get hd' e2
    rw [q1] at w1
    rw [q2] at w2
    cases w1
    cases w2
    exact .inr ⟨Tt, _, _, z1, z2, z3, rfl, .cons d1 (.cons d2 .nil)⟩
theorem rdi_zip {es : List Expr} {kk : Nat} {tpos : Pos} {e e' : Expr} {p pos : Pos} {ev ev' : Env → Res (R × Env)} (hg : Gl X "zip") (hm : X.mg "zip" = none) (he : PE X e (RdE X.K A Wx ev)) (he' : PE X e' (RdE X.K A Wx ev')) (hs : noStar e = true) (hs' : noStar e' = true) :
    PI X (.Tuple es kk tpos) (.Call (.Name "zip" p) [e, e'] [] pos) (RdI X.K A Wx fun ρ => do
      let (x, ρ) ← ev ρ
      let (y, ρ) ← ev' ρ
      let (ds, ρ) ← Res.of (keepAll [x, y] ρ)
      match ds with
      | [.list xs, .list ys] => .ok ((xs.zip ys).map fun p => .tuple [p.1, p.2], ρ)
      | [.tuple xs, .tuple ys] => .ok ((xs.zip ys).map fun p => .tuple [p.1, p.2], ρ)
      | _ => .stuck) := by
  refine PI_imp (RZ.pi_zipA hg hm (pa_cons he (pa_cons he' pa_nil (star_head (noStar_ne hs'))) (star_head (noStar_ne hs))) (star_head (noStar_ne hs)) (star_plain (by rw [List.all_cons, hs']; rfl))) fun σ H Rr ⟨B, ρ, T, at_, g⟩ => ?_
  refine ⟨B, ρ, T, at_, (gd_bind.mp g).mono (fun ⟨x, ρ1⟩ g1 v H1 at1 => ?_) fun _ _ h => h⟩
  refine ⟨B, ρ1, _, at1, (gd_bind.mp g1).mono (fun ⟨y, ρ2⟩ g2 v' H2 ⟨F, O, S⟩ => ?_) fun _ _ h => h⟩
  obtain ⟨⟨ds, ρ3⟩, ek, g3⟩ := gd_of (gd_bind.mp g2)
  obtain ⟨F3, O3, S3, _, da, _⟩ := Sep.keepAll (T := T) (rs := [x, y]) (vs := [v, v']) (by simpa using S) rfl ek
  match ds, g3, da with
  | [.list xs, .list ys], g3, .cons d1 (.cons d2 .nil) =>
    cases d1 with
    | lst a1 a2 =>
      cases d2 with
      | lst b1 b2 => exact ⟨_, _, _, _, rfl, .inl ⟨.inl (rd_sub S3.fh a1), .inl (rd_sub S3.fh b1), g3 _ _ _ _ S3.drop (iterD_zipL a1 b1 a2 b2)⟩⟩
  | [.tuple xs, .tuple ys], g3, .cons d1 (.cons d2 .nil) =>
    cases d1 with
    | tup a1 a2 =>
      cases d2 with
      | tup b1 b2 => exact ⟨_, _, _, _, rfl, .inr ⟨sqt_sub S3.fh a1, sqt_sub S3.fh b1, g3 _ _ _ _ S3.drop (iterD_zipT a1 b1 a2 b2)⟩⟩
theorem enum_get {xs : List D} {i : Nat} {d : D} (h : (xs.zipIdx.map fun p => PyData.tuple [.int (p.2 : Nat), p.1])[i]? = some d) : ∃ x, xs[i]? = some x ∧ d = .tuple [.int i, x] := by
  rw [List.getElem?_map, List.getElem?_zipIdx] at h
  cases q : xs[i]? with
  | none => rw [q] at h; cases h
  | some x =>
    rw [q] at h
    cases h
    exact ⟨x, rfl, by simp⟩
theorem iterD_enum {a : Addr} {vs : List V} {xs : List D} (h : Rd F a (.lst vs)) (hd : DqAll K F vs xs) : IterD K (Ite K a) F (xs.zipIdx.map fun p => .tuple [.int (p.2 : Nat), p.1]) where
  goes := fun i H hi hs => walk_enum.goes i H (by rw [dpa_len hd]; simpa using hi) (.inl (rd_sub hs h))
  stops := fun H hs => by
    have e : (xs.zipIdx.map fun p => PyData.tuple [.int (p.2 : Nat), p.1]).length = vs.length := by rw [dpa_len hd]; simp
    rw [e]
    exact walk_enum.stops H (.inl (rd_sub hs h))
  yields := fun i H x H' d e hs y => by
    obtain ⟨x1, e1, rfl⟩ := enum_get e
    obtain ⟨v1, w1, d1⟩ := dpa_get hd e1
    have hi : i < vs.length := (List.getElem?_eq_some_iff.mp w1).1
    obtain ⟨Tt, x2, y2, z1, z2, z3, z4, z5⟩ := walk_enum.yields i H x H' hi (.inl (rd_sub hs h)) y
    have z5' : vs[i]? = some y2 := z5
    rw [w1] at z5'
    cases z4
    cases z5'
    exact .inr ⟨Tt, _, _, z1, z2, z3, rfl, .cons (.int _) (.cons d1 .nil)⟩
theorem rdi_enum {es : List Expr} {kk : Nat} {tpos : Pos} {e : Expr} {p pos : Pos} {ev : Env → Res (R × Env)} (hg : Gl X "enumerate") (hm : X.mg "enumerate" = none) (he : PE X e (RdE X.K A Wx ev)) (hs : noStar e = true) :
    PI X (.Tuple es kk tpos) (.Call (.Name "enumerate" p) [e] [] pos) (RdI X.K A Wx fun ρ => do
      let p ← ev ρ
      let (y, ρ) ← keepR p
      match y with
      | .list xs => .ok (xs.zipIdx.map fun p => .tuple [.int p.2, p.1], ρ)
      | _ => .stuck) := by
  refine PI_imp (pi_enum hg hm (pa_cons he pa_nil (star_head (noStar_ne hs))) (star_head (noStar_ne hs))) fun σ H Rr ⟨B, ρ, T, at_, g⟩ => ?_
  refine ⟨B, ρ, T, at_, (gd_bind.mp g).mono (fun ⟨r, ρ1⟩ g1 v H1 ⟨F, O, S⟩ => ?_) fun _ _ h => h⟩
  obtain ⟨y, ρ2, ek, g2⟩ := gd_keepR (gd_bind.mp g1)
  obtain ⟨F2, O2, S2, _⟩ := S.keepTop ek
  have dv : Dq X.K F2 v y := S2.top
  match y, g2, dv with
  | .list xs, g2, .lst a1 a2 => exact ⟨_, _, rfl, .inl (rd_sub S2.fh a1), g2 _ _ _ _ S2.drop (iterD_enum a1 a2)⟩

/-! ### comprehensions -/
abbrev lcTurn (tg : Tg) (ec : Env → Res (Bool × Env)) (ee : Env → Res (R × Env)) (own : List Nat) : D → Env → Res (Option D × Env) := fun x ρ => do
  let ρ ← Res.of (tg.set ρ x)
  let (b, ρ) ← ec ρ
  if b then do
    let p ← ee ρ
    let (y, ρ) ← keepR p
    .ok (some y, wipeE ρ own)
  else .ok (none, wipeE ρ own)
abbrev lcEv (ei : Env → Res (List D × Env)) (tg : Tg) (ec : Env → Res (Bool × Env)) (ee : Env → Res (R × Env)) (own : List Nat) : Env → Res (R × Env) := fun ρ => do
  let (xs, ρ) ← ei ρ
  let (ys, ρn) ← lcLoop (lcTurn tg ec ee own) xs [] (wipeE ρ own)
  .ok (.fresh ys, backE own 0 ρ ρn)
theorem noSlot_one {r : R} {v : V} (h : ∀ i, r ≠ .slot i) : NoSlot [(r, v)] := fun k i u e => by
  cases k with
  | zero => cases e; exact h i rfl
  | succ k => simp at e
theorem drop_get {α : Type} {xs : List α} {i : Nat} (hi : i < xs.length) : ∃ x, xs[i]? = some x ∧ xs.drop i = x :: xs.drop (i + 1) := ⟨xs[i], by simp [hi], List.drop_eq_getElem_cons hi⟩
/-- the general loop of a comprehension, from any list made so far -/
theorem lc_it2 {J : It} {n : Nat} {G : Hp → Prop} {Y : Nat → Hp → V → Hp → Prop} (w : Walk J n G Y) {H1 : Hp} {Nd : Hp → Prop} {tn : (Hp → Prop) → V → Hp → Prop} (Pv : Nat → Hp → Prop) (h0 : Pv 0 H1) (hG : ∀ i H, i ≤ n → Pv i H → G H)
    (hs : ∀ i x H H', i < n → Pv i H → Y i H x H' → tn (Pv (i + 1)) x H') (hd : ∀ H, Pv n H → Nd H) :
    ∃ W : Nat → Nat → Hp → Prop, (∃ m, W 0 m H1) ∧ ∀ i m H, W i m H → (J.stop i H ∧ Nd H) ∨ (J.go i H ∧ ∃ Nx : Hp → Prop, (∀ H', Nx H' → ∃ m', m' < m ∧ W (i + 1) m' H') ∧ ∀ x H', J.yld i H x H' → tn Nx x H') := by
  refine ⟨fun i m H => (m = n - i ∧ i ≤ n) ∧ Pv i H, ⟨n, ⟨by simp, Nat.zero_le _⟩, h0⟩, fun i m H hw => ?_⟩
  obtain ⟨⟨hm, hi⟩, p⟩ := hw
  have gg := hG i H hi p
  rcases Nat.lt_or_ge i n with lt | ge
  · exact .inr ⟨w.goes i H lt gg, Pv (i + 1), fun H' p' => ⟨n - (i + 1), by omega, ⟨rfl, lt⟩, p'⟩, fun x H' y => hs i x H H' lt p (w.yields i H x H' lt gg y)⟩
  · obtain rfl : i = n := Nat.le_antisymm hi ge
    exact .inl ⟨w.stops H gg, hd H p⟩
/-- one turn: the target, the test, the item; Nx what it is to reach -/
def tTurn (K : PySem.W.Frag) (A : Ad) (tg : Tg) (ec : Env → Res (Bool × Env)) (ee : Env → Res (R × Env)) (own : List Nat) (σ : L2.St) (Da : Addr) (Nx : Hp → Prop) (x : V) (H' : Hp) : Prop :=
  RdG K tg x (wipe σ own) H' fun σ2 H2 => wipe σ2 own = wipe σ own ∧ RdT K A (fun _ _ _ _ => False) ec σ2 H2 fun b H3 =>
    if b = true then RdE K A (fun _ _ _ _ => False) ee σ2 H3 fun y H4 => ∃ acc, H4 Da = some (.lst acc) ∧ acc.length < sizeLine ∧ Nx (upd H4 Da (.lst (acc ++ [y]))) else Nx H3
theorem lcLoop_noex {f : D → Env → Res (Option D × Env)} {c : Str} {ρx : Env} : ∀ (xs acc : List D) (ρ : Env), lcLoop f xs acc ρ ≠ .ex c ρx
  | [], acc, ρ, h => by cases h
  | x :: xs, acc, ρ, h => by
    simp only [lcLoop] at h
    split at h
    · split at h
      · exact lcLoop_noex xs _ _ h
      · cases h
    · exact lcLoop_noex xs _ _ h
    · cases h
theorem lc_inner {B1 : Bs} {J : It} {items acc0 ys : List D} {tg : Tg} {ec : Env → Res (Bool × Env)} {ee : Env → Res (R × Env)} {own : List Nat} {Da : Addr} {Hs : Hp} {ρ0 ρn : Env} {Nd : Hp → Prop} (hown : ∀ j ∈ tg.slots, j ∈ own)
    (at0 : At K A B1 (wipe σ own) ρ0 [(.fresh acc0, .ref Da)] Hs) (hF : Sub F B1.F) (it : IterD K J F items) (hr : lcLoop (lcTurn tg ec ee own) items acc0 ρ0 = .ok (ys, ρn)) (hNd : ∀ H, At K A B1 (wipe σ own) ρn [(.fresh ys, .ref Da)] H → Nd H) :
    ∃ W : Nat → Nat → Hp → Prop, (∃ m, W 0 m Hs) ∧ ∀ i m H, W i m H → (J.stop i H ∧ Nd H) ∨ (J.go i H ∧ ∃ Nx : Hp → Prop, (∀ H', Nx H' → ∃ m', m' < m ∧ W (i + 1) m' H') ∧ ∀ x H', J.yld i H x H' → tTurn K A tg ec ee own σ Da Nx x H') := by
  refine lc_it2 it.walk (fun i H => ∃ acc ρi, At K A B1 (wipe σ own) ρi [(.fresh acc, .ref Da)] H ∧ lcLoop (lcTurn tg ec ee own) (items.drop i) acc ρi = .ok (ys, ρn)) ⟨acc0, ρ0, at0, by simpa using hr⟩ ?_ ?_ ?_
  · rintro i H2 _ ⟨acc, ρi, ⟨F2, O2, S2⟩, _⟩
    exact Sub.trans hF (Sub.trans S2.f0 S2.fh)
  · rintro i x H2 H3 hi ⟨acc, ρi, ⟨F2, O2, S2⟩, hrun⟩ ⟨d, hd, hy⟩
    obtain ⟨d', hd', hdrop⟩ := drop_get hi
    rw [hd] at hd'
    cases hd'
    rw [hdrop] at hrun
    simp only [lcLoop] at hrun
    have S2b := S2
    -- behind the yield
    obtain ⟨F3, S3, dx⟩ : ∃ F3, Sep K A B1 (wipe σ own) ρi [(.fresh acc, .ref Da)] H3 F3 O2 ∧ Dq K F3 x d := by
      rcases hy with ⟨rfl, dx⟩ | ⟨Tt, vs, ds, rfl, hT, rfl, rfl, dd⟩
      · exact ⟨F2, S2, dp_sub (Sub.trans hF S2.f0) _ _ dx⟩
      · have f := (S2.fresh hT).1
        exact ⟨upd F2 Tt (.tup vs), S2.laid (o := .tup vs) hT nonT_tup, .tup (.inl (.inl upd_same)) (dpa_sub (Sub.trans hF (Sub.trans S2.f0 (Sub.upd f))) _ _ dd)⟩
    -- the target
    cases ht : tg.set ρi d with
    | none =>
      exfalso
      have e : lcTurn tg ec ee own d ρi = .stuck := by
        show Res.bind (Res.of (tg.set ρi d)) _ = _
        rw [ht]; rfl
      rw [e] at hrun
      cases hrun
    | some ρa =>
      have e1 : lcTurn tg ec ee own d ρi = (do
          let (b, ρ) ← ec ρa
          if b then do
            let p ← ee ρ
            let (y, ρ) ← keepR p
            .ok (some y, wipeE ρ own)
          else .ok (none, wipeE ρ own)) := by
        show Res.bind (Res.of (tg.set ρi d)) _ = _
        rw [ht]; rfl
      rw [e1] at hrun
      have hT1 : NoSlot [((.fresh acc : R), V.ref Da)] := noSlot_one fun i z => nomatch z
      refine tg_sound S3 hT1 dx ht fun σ' ag S4 => ?_
      have len' : σ'.length = σ.length := by rw [ag.1, wipe_length]
      have ag' : ∀ j, j ∉ own → σ'[j]? = σ[j]? := fun j hj => by rw [ag.2 j fun z => hj (hown j z), wipe_ne hj]
      have agw : ∀ j, j ∉ own → σ'[j]? = (wipe σ own)[j]? := fun j hj => ag.2 j fun z => hj (hown j z)
      refine ⟨wipe_agree len' ag', ?_⟩
      cases hec : ec ρa with
      | stuck => exfalso; simp only [hec, bind, Res.bind] at hrun; cases hrun
      | ex c ρx => exfalso; simp only [hec, bind, Res.bind] at hrun; cases hrun
      | ok z =>
        obtain ⟨b, ρb⟩ := z
        refine ⟨_, ρa, _, S4.sc, ?_⟩
        rw [hec]
        show ∀ H', At K A B1 σ' ρb [(.fresh acc, .ref Da)] H' → _
        intro H4 at4
        cases b with
        | false =>
          refine iteF ?_
          obtain ⟨F4, O4, S5⟩ := at4
          simp only [hec, bind, Res.bind] at hrun
          exact ⟨acc, wipeE ρb own, ⟨F4, O4, S5.wiped hT1 ag.1.symm agw⟩, hrun⟩
        | true =>
          refine iteT ?_
          cases hee : ee ρb with
          | stuck => exfalso; simp only [hec, hee, bind, Res.bind, if_true] at hrun; cases hrun
          | ex c ρx => exfalso; simp only [hec, hee, bind, Res.bind, if_true] at hrun; cases hrun
          | ok z2 =>
            obtain ⟨r, ρc⟩ := z2
            refine ⟨_, ρb, _, at4, ?_⟩
            rw [hee]
            show ∀ v H', At K A B1 σ' ρc ([(.fresh acc, .ref Da)] ++ [(r, v)]) H' → _
            rintro v H5 ⟨F5, O5, S5⟩
            cases hk : r.keep ρc with
            | none => exfalso; simp only [hec, hee, hk, bind, Res.bind, if_true, keepR, Res.of] at hrun; cases hrun
            | some z3 =>
              obtain ⟨y, ρd⟩ := z3
              simp only [hec, hee, hk, bind, Res.bind, if_true, keepR, Res.of] at hrun
              split at hrun
              · rename_i hlen
                obtain ⟨F6, O6, S6, _⟩ := S5.keepTop hk
                obtain ⟨p, vs, e2, e3, e4, e5⟩ := S6.temps 0 _ _ rfl
                cases e2
                have dv : Dq K F6 v y := S6.top
                refine ⟨vs, e4, ?_, acc ++ [y], wipeE ρd own, ⟨F6, O6, ?_⟩, hrun⟩
                · rw [dpa_len e5]; exact Nat.lt_of_lt_of_le hlen lim_size
                · have S7 := S6.drop.grow (k := 0) rfl e4 (dpa_app e5 (.cons dv .nil))
                  exact S7.wiped (noSlot_one fun i z => nomatch z) ag.1.symm agw
              · cases hrun
  · rintro H2 ⟨acc, ρi, at2, hrun⟩
    rw [List.drop_length] at hrun
    cases hrun
    exact hNd _ at2
/-- the reading of a comprehension -/
theorem lc_sound {ei : Env → Res (List D × Env)} {tg : Tg} {ec : Env → Res (Bool × Env)} {ee : Env → Res (R × Env)} {own : List Nat} {Q : VK} (hown : ∀ j ∈ tg.slots, j ∈ own)
    (h : RdE K A Wx (lcEv ei tg ec ee own) σ H Q) : tLc (RdI K A Wx ei) (RdG K tg) (RdT K A (fun _ _ _ _ => False) ec) (RdE K A (fun _ _ _ _ => False) ee) own σ H Q := by
  obtain ⟨B, ρ, T, at_, g⟩ := h
  refine ⟨B, ρ, T, at_, (gd_bind.mp g).mono (fun ⟨items, ρ1⟩ g1 J H1 F O S it => ?_) fun _ _ h => h⟩
  intro Da hDa
  have g2 := gd_bind.mp g1
  cases hl : lcLoop (lcTurn tg ec ee own) items [] (wipeE ρ1 own) with
  | stuck => rw [hl] at g2; exact g2.elim
  | ex c ρx => exact absurd hl (lcLoop_noex _ _ _)
  | ok z =>
    obtain ⟨ys, ρn⟩ := z
    rw [hl] at g2
    have g3 : ∀ v H', At K A B σ (backE own 0 ρ1 ρn) (T ++ [(.fresh ys, v)]) H' → Q v H' := g2
    exact lc_inner (Nd := fun H => Q (.ref Da) H) hown ((S.enter own).newLst hDa .nil) (Sub.refl _) it hl fun H2 ⟨F2, O2, S2⟩ => g3 _ _ (S.leave S2 fun i z => nomatch z)
/-! ### two clauses -/
theorem Sep.refine (S : Sep K A B σ ρ T H F O) : Sep K A { B with F := F } σ ρ T H F O where
  fh := S.fh
  f0 := fun _ _ h => h
  fn := fun _ h => .inl h
  h0 := S.h0
  h1 := S.h1
  ho := S.ho
  len := S.len
  slots := S.slots
  temps := S.temps
  lent := S.lent
  nt := S.nt
  ns := S.ns
  nn := S.nn
  tb := S.tb
theorem Sep.unrefine {F' : Hp} {O' : Addr → Option Owner} {T' : Tmps} (S : Sep K A B σ ρ T H F O) (S' : Sep K A { B with F := F } σ2 ρ' T' H' F' O') : Sep K A B σ2 ρ' T' H' F' O' where
  fh := S'.fh
  f0 := Sub.trans S.f0 S'.f0
  fn := fun b h => (S'.fn b h).elim (S.fn b) .inr
  h0 := S'.h0
  h1 := S'.h1
  ho := S'.ho
  len := S'.len
  slots := S'.slots
  temps := S'.temps
  lent := S'.lent
  nt := S'.nt
  ns := S'.ns
  nn := S'.nn
  tb := S'.tb
abbrev lc2Turn (t1 : Tg) (ec1 : Env → Res (Bool × Env)) (ei2 : Env → Res (List D × Env)) (t2 : Tg) (ec2 : Env → Res (Bool × Env)) (ee : Env → Res (R × Env)) (own own2 : List Nat) : D → List D → Env → Res (List D × Env) := fun x acc ρ => do
  let ρ ← Res.of (t1.set ρ x)
  let (b, ρ) ← ec1 ρ
  if b then do
    let (zs, ρ) ← ei2 ρ
    let (acc, ρ) ← lcLoop (lcTurn t2 ec2 ee own2) zs acc (wipeE ρ own2)
    .ok (acc, wipeE ρ own)
  else .ok (acc, wipeE ρ own)
abbrev lc2Ev (ei : Env → Res (List D × Env)) (t1 : Tg) (ec1 : Env → Res (Bool × Env)) (ei2 : Env → Res (List D × Env)) (t2 : Tg) (ec2 : Env → Res (Bool × Env)) (ee : Env → Res (R × Env)) (own own2 : List Nat) : Env → Res (R × Env) := fun ρ => do
  let (xs, ρ) ← ei ρ
  let (ys, ρn) ← lc2Loop (lc2Turn t1 ec1 ei2 t2 ec2 ee own own2) xs [] (wipeE ρ own)
  .ok (.fresh ys, backE own 0 ρ ρn)
theorem lc2Loop_noex {f : D → List D → Env → Res (List D × Env)} {c : Str} {ρx : Env} : ∀ (xs acc : List D) (ρ : Env), lc2Loop f xs acc ρ ≠ .ex c ρx
  | [], acc, ρ, h => by cases h
  | x :: xs, acc, ρ, h => by
    simp only [lc2Loop] at h
    split at h
    · exact lc2Loop_noex xs _ _ h
    · cases h
theorem lc2_sound {ei ei2 : Env → Res (List D × Env)} {t1 t2 : Tg} {ec1 ec2 : Env → Res (Bool × Env)} {ee : Env → Res (R × Env)} {own own2 : List Nat} {Q : VK} (hown : ∀ j ∈ t1.slots, j ∈ own) (hown2 : ∀ j ∈ t2.slots, j ∈ own2) (h21 : ∀ j ∈ own2, j ∈ own)
    (h : RdE K A Wx (lc2Ev ei t1 ec1 ei2 t2 ec2 ee own own2) σ H Q) :
    tLc2 (RdI K A Wx ei) (RdG K t1) (RdT K A (fun _ _ _ _ => False) ec1) (RdI K A (fun _ _ _ _ => False) ei2) (RdG K t2) (RdT K A (fun _ _ _ _ => False) ec2) (RdE K A (fun _ _ _ _ => False) ee) own own2 σ H Q := by
  obtain ⟨B, ρ, T, at_, g⟩ := h
  refine ⟨B, ρ, T, at_, (gd_bind.mp g).mono (fun ⟨items, ρ1⟩ g1 J H1 F O S it => ?_) fun _ _ h => h⟩
  intro Da hDa
  have g2 := gd_bind.mp g1
  cases hl : lc2Loop (lc2Turn t1 ec1 ei2 t2 ec2 ee own own2) items [] (wipeE ρ1 own) with
  | stuck => rw [hl] at g2; exact g2.elim
  | ex c ρx => exact absurd hl (lc2Loop_noex _ _ _)
  | ok z =>
    obtain ⟨ys, ρn⟩ := z
    rw [hl] at g2
    have g3 : ∀ v H', At K A B σ (backE own 0 ρ1 ρn) (T ++ [(.fresh ys, v)]) H' → Q v H' := g2
    refine lc_it2 (tn := fun Nx x H' => RdG K t1 x (wipe σ own) H' fun σ2 H2 => wipe σ2 own = wipe σ own ∧ RdT K A (fun _ _ _ _ => False) ec1 σ2 H2 fun b H3 =>
        if b = true then RdI K A (fun _ _ _ _ => False) ei2 σ2 H3 fun J1 H4 => ∃ W1 : Nat → Nat → Hp → Prop, (∃ m, W1 0 m H4) ∧ ∀ j k H, W1 j k H →
          (J1.stop j H ∧ Nx H) ∨ (J1.go j H ∧ ∃ Nx1 : Hp → Prop, (∀ H', Nx1 H' → ∃ k', k' < k ∧ W1 (j + 1) k' H') ∧ ∀ x H', J1.yld j H x H' → tTurn K A t2 ec2 ee own2 σ2 Da Nx1 x H')
        else Nx H3) it.walk (fun i H => ∃ acc ρi, At K A (blkB H1 F O (wipe σ own)) (wipe σ own) ρi [(.fresh acc, .ref Da)] H ∧ lc2Loop (lc2Turn t1 ec1 ei2 t2 ec2 ee own own2) (items.drop i) acc ρi = .ok (ys, ρn)) ⟨[], wipeE ρ1 own, (S.enter own).newLst hDa .nil, by simpa using hl⟩ ?_ ?_ ?_
    · rintro i H2 _ ⟨acc, ρi, ⟨F2, O2, S2⟩, _⟩
      exact Sub.trans S2.f0 S2.fh
    · rintro i x H2 H3 hi ⟨acc, ρi, ⟨F2, O2, S2⟩, hrun⟩ ⟨d, hd, hy⟩
      obtain ⟨d', hd', hdrop⟩ := drop_get hi
      rw [hd] at hd'
      cases hd'
      rw [hdrop] at hrun
      simp only [lc2Loop] at hrun
      obtain ⟨F3, S3, dx⟩ : ∃ F3, Sep K A (blkB H1 F O (wipe σ own)) (wipe σ own) ρi [(.fresh acc, .ref Da)] H3 F3 O2 ∧ Dq K F3 x d := by
        rcases hy with ⟨rfl, dx⟩ | ⟨Tt, vs, ds, rfl, hT, rfl, rfl, dd⟩
        · exact ⟨F2, S2, dp_sub S2.f0 _ _ dx⟩
        · have f := (S2.fresh hT).1
          exact ⟨upd F2 Tt (.tup vs), S2.laid (o := .tup vs) hT nonT_tup, .tup (.inl (.inl upd_same)) (dpa_sub (Sub.trans S2.f0 (Sub.upd f)) _ _ dd)⟩
      cases ht : t1.set ρi d with
      | none => exfalso; simp only [lc2Turn, ht, bind, Res.bind, Res.of] at hrun; cases hrun
      | some ρa =>
        have hT1 : NoSlot [((.fresh acc : R), V.ref Da)] := noSlot_one fun i z => nomatch z
        refine tg_sound S3 hT1 dx ht fun σ' ag S4 => ?_
        have len' : σ'.length = σ.length := by rw [ag.1, wipe_length]
        have ag' : ∀ j, j ∉ own → σ'[j]? = σ[j]? := fun j hj => by rw [ag.2 j fun z => hj (hown j z), wipe_ne hj]
        have agw : ∀ j, j ∉ own → σ'[j]? = (wipe σ own)[j]? := fun j hj => ag.2 j fun z => hj (hown j z)
        refine ⟨wipe_agree len' ag', ?_⟩
        cases hec : ec1 ρa with
        | stuck => exfalso; simp only [lc2Turn, ht, hec, bind, Res.bind, Res.of] at hrun; cases hrun
        | ex c ρx => exfalso; simp only [lc2Turn, ht, hec, bind, Res.bind, Res.of] at hrun; cases hrun
        | ok z =>
          obtain ⟨b, ρb⟩ := z
          refine ⟨_, ρa, _, S4.sc, ?_⟩
          rw [hec]
          show ∀ H', At K A (blkB H1 F O (wipe σ own)) σ' ρb [(.fresh acc, .ref Da)] H' → _
          intro H4 at4
          cases b with
          | false =>
            refine iteF ?_
            obtain ⟨F4, O4, S5⟩ := at4
            simp only [lc2Turn, ht, hec, bind, Res.bind, Res.of] at hrun
            exact ⟨acc, wipeE ρb own, ⟨F4, O4, S5.wiped hT1 ag.1.symm agw⟩, hrun⟩
          | true =>
            refine iteT ?_
            cases hei : ei2 ρb with
            | stuck => exfalso; simp only [lc2Turn, ht, hec, hei, bind, Res.bind, Res.of, if_true] at hrun; cases hrun
            | ex c ρx => exfalso; simp only [lc2Turn, ht, hec, hei, bind, Res.bind, Res.of, if_true] at hrun; cases hrun
            | ok z2 =>
              obtain ⟨zs, ρc⟩ := z2
              refine ⟨_, ρb, _, at4, ?_⟩
              rw [hei]
              show ∀ J H' F' O', Sep K A (blkB H1 F O (wipe σ own)) σ' ρc [(.fresh acc, .ref Da)] H' F' O' → IterD K J F' zs → _
              intro J1 H5 F5 O5 S5 it5
              cases hil : lcLoop (lcTurn t2 ec2 ee own2) zs acc (wipeE ρc own2) with
              | stuck => exfalso; simp only [lc2Turn, ht, hec, hei, hil, bind, Res.bind, Res.of, if_true] at hrun; cases hrun
              | ex c ρx => exact absurd hil (lcLoop_noex _ _ _)
              | ok z3 =>
                obtain ⟨acc2, ρd⟩ := z3
                simp only [lc2Turn, ht, hec, hei, hil, bind, Res.bind, Res.of, if_true] at hrun
                have S6 := S5.wiped (σ1 := wipe σ' own2) (own := own2) hT1 (by rw [wipe_length]) fun j hj => by rw [wipe_ne hj]
                refine lc_inner (B1 := { blkB H1 F O (wipe σ own) with F := F5 }) hown2 ⟨_, _, S6.refine⟩ (Sub.refl _) it5 hil fun H6 ⟨F6, O6, S7⟩ => ?_
                have S8 := S6.unrefine S7
                exact ⟨acc2, wipeE ρd own, ⟨F6, O6, S8.wiped (noSlot_one fun i z => nomatch z) (by rw [wipe_length, wipe_length, len']) fun j hj => by rw [wipe_ne fun z => hj (h21 j z), agw j hj]⟩, hrun⟩
    · rintro H2 ⟨acc, ρi, ⟨F2, O2, S2⟩, hrun⟩
      rw [List.drop_length] at hrun
      cases hrun
      exact g3 _ _ (S.leave S2 fun i z => nomatch z)
end
end Mn
set_option Elab.async false
set_option linter.all false
set_option maxRecDepth 100000
set_option maxHeartbeats 1000000
namespace Mn
open PySem PySem.Spec PyProof.Rows L2
section
variable {X : Cx} {K : PySem.W.Frag} {A : Ad} {Wx : WX} {B : Bs} {σ σ1 σ2 : L2.St} {ρ ρ' : Env} {T : Tmps} {H H' F : Hp} {O : Addr → Option Owner}
/-! ### a def's promise -/
def outs : List W → Option (List D) → Env
  | .own true _ :: rest, some ys => some (.own true ys) :: rest.map fun _ => none
  | ws, _ => ws.map fun _ => none
/-- where a call begins -/
abbrev callB (H F : Hp) (O : Addr → Option Owner) (vs : List V) : Bs := subB H F (fun b => O b ≠ none) (vs.map some) (fun b => mask H b = none)
def spC (K : PySem.W.Frag) (A : Ad) (n : Nat) (call : List W → CRes) : Sp := fun vs H Q Ex => vs.length = n ∧ ∃ F O ws, Sep K A (callB H F O vs) (vs.map some) (ws.map some) [] H F O ∧
  match call ws with
  | .ret r o => (∀ i, r ≠ .slot i) ∧ ∀ v H', At K A (callB H F O vs) (vs.map some) (outs ws o) [(r, v)] H' → Q v H'
  | .ex c => ∀ H', At K A (callB H F O vs) (vs.map some) (ws.map fun _ => none) [] H' → Ex (.ref (A c)) none H'
  | .stuck => False
theorem keep_own {r : R} {x : D} {i : Nat} {l : Bool} {ys : List D} (e : r.keep ρ = some (x, ρ')) (h : ρ'[i]? = some (some (W.own l ys))) : ρ[i]? = some (some (W.own l ys)) := by
  cases r with
  | d y => cases e; exact h
  | fn f => cases e
  | fresh xs => cases e; exact h
  | slot j =>
    simp only [R.keep] at e
    split at e
    · cases e
      rcases getElem?_set_cases h with ⟨_, e2, _⟩ | ⟨_, e2⟩
      · cases e2
      · exact e2
    · cases e; exact h
    · cases e
theorem keepAll_own {i : Nat} {l : Bool} {ys : List D} : ∀ {rs : List R} {ρ ρ' : Env} {xs : List D}, keepAll rs ρ = some (xs, ρ') → ρ'[i]? = some (some (W.own l ys)) → ρ[i]? = some (some (W.own l ys))
  | [], ρ, ρ', xs, e, h => by cases e; exact h
  | r :: rs, ρ, ρ', xs, e, h => by
    unfold keepAll at e
    cases q : r.keep ρ with
    | none => rw [q] at e; cases e
    | some z =>
      obtain ⟨x, ρ1⟩ := z
      rw [q] at e
      cases q2 : keepAll rs ρ1 with
      | none => simp only [q2] at e; cases e
      | some z2 =>
        obtain ⟨xs2, ρ2⟩ := z2
        simp only [q2] at e
        cases e
        exact keep_own q (keepAll_own q2 h)
theorem get_map_some {vs : List V} {i : Nat} {v : V} (h : vs[i]? = some v) : (vs.map some)[i]? = some (some v) := by rw [List.getElem?_map, h]; rfl
/-- a call whose arguments are data -/
theorem call_plain {n : Nat} {call : List W → CRes} {vs : List V} {ds : List D} {Q : VK} (S : Sep K A B σ ρ T H F O) (hd : DqAll K F vs ds) (hn : vs.length = n)
    (hr : ∀ r o, call (ds.map .d) = .ret r o → (∀ i, r ≠ .slot i) ∧ ∀ v H', At K A B σ ρ (T ++ [(r, v)]) H' → Q v H') (hx : ∀ c, call (ds.map .d) = .ex c → ExP K A Wx B σ c ρ) (hs : call (ds.map .d) ≠ .stuck) : spC K A n call vs H Q (WE Wx σ) := by
  have P0 : ∀ b, ¬ (callB H F (fun _ => none) vs).P b := fun b z => z rfl
  have S0 : Sep K A (callB H F (fun _ => none) vs) (vs.map some) ((ds.map W.d).map some) [] H F (fun _ => none) := by
    refine ⟨S.fh, fun _ _ h => h, fun _ h => .inl h, fun _ _ h _ => (mask_some h).1, fun _ h => h, fun b h => absurd rfl h, by simp [dpa_len hd], fun i w h => ?_, fun k r v h => by simp at h, fun i xs h => rfl, fun k xs p h => by simp at h, fun i xs p h _ => ?_, fun _ h => h, S.tb⟩
    · rw [List.map_map, List.getElem?_map] at h
      cases q : ds[i]? with
      | none => rw [q] at h; cases h
      | some x =>
        rw [q] at h
        cases h
        obtain ⟨v, h1, h2⟩ := dpa_get hd q
        exact ⟨v, get_map_some h1, h2⟩
    · rw [List.map_map, List.getElem?_map] at h
      cases q : ds[i]? with
      | none => rw [q] at h; cases h
      | some x => rw [q] at h; cases h
  have back : ∀ {r : R} {v : V} {H' : Hp} {ρ0 : Env}, (∀ i, r ≠ .slot i) → At K A (callB H F (fun _ => none) vs) (vs.map some) ρ0 [(r, v)] H' → At K A B σ ρ (T ++ [(r, v)]) H' := fun {r v H' ρ0} hns ⟨F', O', S'⟩ =>
    S.resume (m := fun i => i) S' (fun b h => absurd h (P0 b)) hns rfl fun j x h => .inl ⟨h, .inr fun p _ => P0 p⟩
  refine ⟨hn, F, fun _ => none, ds.map .d, S0, ?_⟩
  cases hc : call (ds.map .d) with
  | stuck => exact absurd hc hs
  | ret r o =>
    obtain ⟨hns, hq⟩ := hr r o hc
    exact ⟨hns, fun v H' at' => hq v H' (back hns at')⟩
  | ex c =>
    intro H' ⟨F', O', S'⟩
    refine hx c hc H' ?_
    have := back (r := .d .none) (v := .non) (fun i z => nomatch z) (S'.pushD .non)
    exact At.drop (T := []) (T' := T ++ [(.d .none, .non)]) this
theorem callF_sound {Γ : Ctx} {f : Str} {n : Nat} {rs : List R} {vs : List V} {Q : VK} (S : Sep K A B σ ρ (T ++ rs.zip vs) H F O) (hl : vs.length = rs.length) (hn : vs.length = n)
    (g : Gd (callF Γ f rs ρ) (fun p => ∀ v H', At K A B σ p.2 (T ++ [(p.1, v)]) H' → Q v H') (ExP K A Wx B σ)) : spC K A n (Γ.call Γ.g f) vs H Q (WE Wx σ) := by
  unfold callF at g
  split at g
  · -- the first argument is lent
    match rs, vs, hl, S, g with
    | .slot i :: rest, v :: vs, hl, S, g =>
      simp only at g
      cases q : ρ[i]? with
      | none => simp only [q] at g; exact (show False from g).elim
      | some w =>
        cases w with
        | none => simp only [q] at g; exact (show False from g).elim
        | some w =>
          cases w with
          | d x => simp only [q] at g; exact (show False from g).elim
          | fn x => simp only [q] at g; exact (show False from g).elim
          | own l xs =>
            cases qk : keepAll rest ρ with
            | none => simp only [q, qk] at g; exact (show False from g).elim
            | some z =>
              obtain ⟨ds, ρ1⟩ := z
              simp only [q, qk] at g
              have S' : Sep K A B σ ρ ((T ++ [(.slot i, v)]) ++ rest.zip vs) H F O := by simpa using S
              obtain ⟨F1, O1, S1, _, dd, _⟩ := S'.keepAll (by simpa using hl) qk
              cases q1 : ρ1[i]? with
              | none => simp only [q1] at g; exact (show False from g).elim
              | some w1 =>
                cases w1 with
                | none => simp only [q1] at g; exact (show False from g).elim
                | some w1 =>
                  cases w1 with
                  | d x => simp only [q1] at g; exact (show False from g).elim
                  | fn x => simp only [q1] at g; exact (show False from g).elim
                  | own l1 xs1 =>
                    simp only [q1] at g
                    have e1 := keepAll_own qk q1
                    rw [q] at e1
                    cases e1
                    have S2 : Sep K A B σ ρ1 (T ++ [(.slot i, v)]) H F1 O1 := S1.drop
                    have hv : σ[i]? = some (some v) := S2.top
                    have S3 := S2.drop
                    obtain ⟨u, hu, p, us, e2, e3, e4, e5⟩ := S3.slots i _ q1
                    rw [hv] at hu
                    cases hu
                    subst e2
                    obtain ⟨fp, bp, _⟩ := S3.ho p (by rw [e3]; exact Option.some_ne_none _)
                    -- the callee's view
                    have oc : ∀ b, (fun b => if b = p then some (Owner.slot 0) else none : Addr → Option Owner) b ≠ none → b = p := fun b h => by
                      by_cases hb : b = p
                      · exact hb
                      · exact absurd (if_neg hb) h
                    generalize hOc : (fun b => if b = p then some (Owner.slot 0) else none : Addr → Option Owner) = Oc at oc
                    have ocp : Oc p = some (.slot 0) := by rw [← hOc]; exact if_pos rfl
                    have S0 : Sep K A (callB H F1 Oc (V.ref p :: vs)) ((V.ref p :: vs).map some) ((W.own true xs :: ds.map W.d).map some) [] H F1 Oc := by
                      refine ⟨S3.fh, fun _ _ h => h, fun _ h => .inl h, fun _ _ h _ => (mask_some h).1, fun _ h => h, fun b h => ?_, by simp [dpa_len dd], fun j w h => ?_, fun k r v h => by simp at h, fun j ys h => rfl, fun k ys q h => by simp at h, fun j ys q h _ => ?_, fun _ h => h, S3.tb⟩
                      · have := oc b h
                        subst this
                        exact ⟨fp, .inr h, by rw [mask_of e4 nonT_lst]; exact Option.some_ne_none _⟩
                      · cases j with
                        | zero => cases h; exact ⟨_, rfl, p, us, rfl, ocp, e4, e5⟩
                        | succ j =>
                          rw [List.map_cons, List.getElem?_cons_succ, List.map_map, List.getElem?_map] at h
                          cases q2 : ds[j]? with
                          | none => rw [q2] at h; cases h
                          | some x =>
                            rw [q2] at h
                            cases h
                            obtain ⟨v, h1, h2⟩ := dpa_get dd q2
                            exact ⟨v, by rw [List.map_cons, List.getElem?_cons_succ]; exact get_map_some h1, h2⟩
                      · cases j with
                        | zero => cases h
                        | succ j =>
                          rw [List.map_cons, List.getElem?_cons_succ, List.map_map, List.getElem?_map] at h
                          cases q2 : ds[j]? with
                          | none => rw [q2] at h; cases h
                          | some x => rw [q2] at h; cases h
                    refine ⟨hn, F1, Oc, W.own true xs :: ds.map W.d, S0, ?_⟩
                    have fin : ∀ {r : R} {ys : List D}, (∀ i, r ≠ .slot i) → (∀ v H', At K A B σ (ρ1.set i (some (.own l ys))) (T ++ [(r, v)]) H' → Q v H') →
                        ∀ v H', At K A (callB H F1 Oc (V.ref p :: vs)) ((V.ref p :: vs).map some) (outs (W.own true xs :: ds.map W.d) (some ys)) [(r, v)] H' → Q v H' := fun {r ys} hns hq v H' ⟨F', O', S4⟩ => by
                      refine hq v H' (S3.resume (m := fun _ => i) S4 (fun b h => ?_) hns (by simp) fun j x h => ?_)
                      · have := oc b h
                        subst this
                        exact ⟨i, e3⟩
                      · rcases getElem?_set_cases h with ⟨h1, h2, _⟩ | ⟨h1, h2⟩
                        · subst h1
                          cases h2
                          exact .inr (.inr ⟨0, l, true, xs, ys, rfl, rfl, q1, rfl, .ref p, rfl, hv, fun p' e => by cases e; show Oc p ≠ none; rw [ocp]; exact Option.some_ne_none _⟩)
                        · refine .inl ⟨h2, .inr fun b hb z => ?_⟩
                          have := oc b z
                          subst this
                          rw [e3] at hb
                          cases hb
                          exact h1 rfl
                    cases hc : Γ.call Γ.g f (W.own true xs :: ds.map W.d) with
                    | stuck => simp only [hc] at g; exact (show False from g).elim
                    | ex c => simp only [hc] at g; exact (show False from g).elim
                    | ret r o =>
                      cases o with
                      | none => cases r <;> (simp only [hc] at g; exact (show False from g).elim)
                      | some ys =>
                        cases r with
                        | slot k => simp only [hc] at g; exact (show False from g).elim
                        | d x => simp only [hc] at g; exact ⟨(fun i z => nomatch z), fin (fun i z => nomatch z) g⟩
                        | fresh x => simp only [hc] at g; exact ⟨(fun i z => nomatch z), fin (fun i z => nomatch z) g⟩
                        | fn x => simp only [hc] at g; exact ⟨(fun i z => nomatch z), fin (fun i z => nomatch z) g⟩
    | .d _ :: _, _, _, _, g => exact (show False from g).elim
    | .fresh _ :: _, _, _, _, g => exact (show False from g).elim
    | .fn _ :: _, _, _, _, g => exact (show False from g).elim
    | [], _, _, _, g => exact (show False from g).elim
  · cases qk : keepAll rs ρ with
    | none => simp only [qk] at g; exact (show False from g).elim
    | some z =>
      obtain ⟨ds, ρ1⟩ := z
      simp only [qk] at g
      obtain ⟨F1, O1, S1, _, dd, _⟩ := S.keepAll hl qk
      refine call_plain (ρ := ρ1) S1.drop dd hn (fun r o hc => ?_) (fun c hc => ?_) fun hc => ?_
      · cases r with
        | slot k => simp only [hc] at g; exact (show False from g).elim
        | d x => simp only [hc] at g; exact ⟨(fun i z => nomatch z), g⟩
        | fresh x => simp only [hc] at g; exact ⟨(fun i z => nomatch z), g⟩
        | fn x => simp only [hc] at g; exact ⟨(fun i z => nomatch z), g⟩
      · simp only [hc] at g; exact g
      · simp only [hc] at g; exact (show False from g).elim
/-- f(..) -/
theorem rd_call {Γ : Ctx} {k n : Nat} {f : Str} {fa : Addr} {fd : FuncData} {ps : List Str} {q pos : Pos} {es : List Expr} {evs : Env → Res (List R × Env)} (Fn : FnG Γ.g X.prog X.w X.K X.mg X.base k fa fd ps (spC X.K A n (Γ.call Γ.g f))) (hg : Γ.g = true → X.A.guards = some []) (hr : Room k X.A)
    (hb : Binds X.K fd ps []) (tk : Takes X Wx) (gl : Gl X f) (hm : X.mg f = some (.ref fa)) (hk : PySem.W.keepIn X.K (.ref fa) = true) (ha : PA X es (RdA X.K A Wx evs)) (hs : es.all noStar = true) (hne : es ≠ []) (hdb : (f == ("__debug__" : Str)) = false)
    (hn : es.length = n) (hev : ∀ ρ rs ρ', evs ρ = .ok (rs, ρ') → rs.length = es.length) :
    PE X (.Call (.Name f q) es [] pos) (RdE X.K A Wx fun ρ => do let (rs, ρ) ← evs ρ; callF Γ f rs ρ) := by
  match es, hne, ha, hs, hn, hev with
  | e :: es, _, ha, hs, hn, hev =>
    refine PE_imp (pe_g Fn hg hr hb tk gl hm hk ha hs hdb) fun σ H Q ⟨B, ρ, T, at_, g⟩ => ?_
    have g1 := gd_bind.mp g
    cases he : evs ρ with
    | stuck => rw [he] at g1; exact g1.elim
    | ex c ρx => rw [he] at g1; exact ⟨B, ρ, T, at_, by rw [he]; exact g1⟩
    | ok z =>
      obtain ⟨rs, ρ1⟩ := z
      have hl := hev ρ rs ρ1 he
      rw [he] at g1
      refine ⟨B, ρ, T, at_, ?_⟩
      rw [he]
      show ∀ vs H', vs.length = rs.length → At X.K A B σ ρ1 (T ++ rs.zip vs) H' → _
      rintro vs H1 hvl ⟨F, O, S⟩
      exact callF_sound S hvl (by rw [hvl, hl, hn]) g1
theorem rd_call0 {Γ : Ctx} {k : Nat} {f : Str} {fa : Addr} {fd : FuncData} {ps : List Str} {q pos : Pos} (Fn : FnG Γ.g X.prog X.w X.K X.mg X.base k fa fd ps (spC X.K A 0 (Γ.call Γ.g f))) (hg : Γ.g = true → X.A.guards = some []) (hr : Room k X.A)
    (hb : Binds X.K fd ps []) (tk : Takes X Wx) (gl : Gl X f) (hm : X.mg f = some (.ref fa)) (hk : PySem.W.keepIn X.K (.ref fa) = true) (hdb : (f == ("__debug__" : Str)) = false) :
    PE X (.Call (.Name f q) [] [] pos) (RdE X.K A Wx fun ρ => do let (rs, ρ) ← (.ok (([] : List R), ρ) : Res (List R × Env)); callF Γ f rs ρ) := by
  refine PE_imp (pe_g0 Fn hg hr hb tk gl hm hk hdb) fun σ H Q ⟨B, ρ, T, ⟨F, O, S⟩, g⟩ => ?_
  exact callF_sound (rs := []) (vs := []) (T := T) (by simpa using S) rfl rfl (gd_bind.mp g)

/-! ### a def's body -/
theorem Sep.pad (S : Sep K A B σ ρ T H F O) (n : Nat) : Sep K A B (σ ++ List.replicate n none) (ρ ++ List.replicate n none) T H F O := by
  have get : ∀ {i : Nat} {w : W}, (ρ ++ List.replicate n none)[i]? = some (some w) → ρ[i]? = some (some w) ∧ i < σ.length := fun {i w} h => by
    by_cases hi : i < ρ.length
    · rw [List.getElem?_append_left hi] at h
      exact ⟨h, by rw [S.len]; exact hi⟩
    · rw [List.getElem?_append_right (by omega), List.getElem?_replicate] at h
      split at h <;> cases h
  refine ⟨S.fh, S.f0, S.fn, S.h0, S.h1, S.ho, by simp [S.len], fun i w h => ?_, fun k r v h => ?_, fun i xs h => ?_, S.nt, fun i xs p h e => ?_, S.nn, S.tb⟩
  · obtain ⟨h1, h2⟩ := get h
    obtain ⟨v, a, c⟩ := S.slots i w h1
    exact ⟨v, by rw [List.getElem?_append_left h2]; exact a, c⟩
  · have t := S.temps k r v h
    cases r with
    | d x => exact t
    | fresh xs => exact t
    | fn f => exact t
    | slot i =>
      have t' : σ[i]? = some (some v) := t
      show (σ ++ _)[i]? = _
      rw [List.getElem?_append_left (List.getElem?_eq_some_iff.mp t').1]
      exact t'
  · obtain ⟨h1, h2⟩ := get h
    rw [List.getElem?_append_left h2]
    exact S.lent i xs h1
  · obtain ⟨h1, h2⟩ := get h
    rw [List.getElem?_append_left h2] at e
    exact S.ns i xs p h1 e
def finR (ρ : Env) : R → Option R
  | .slot i => match ρ[i]? with
    | some (some (.own false xs)) => some (.fresh xs)
    | some (some (.d x)) => some (.d x)
    | _ => none
  | r => some r
theorem fin_noslot {r r' : R} (e : finR ρ r = some r') : ∀ i, r' ≠ .slot i := by
  intro i z
  subst z
  cases r with
  | d x => cases e
  | fresh x => cases e
  | fn x => cases e
  | slot j =>
    simp only [finR] at e
    split at e <;> cases e
/-- a slot's list becomes a temporary -/
theorem Sep.untie (S : Sep K A B σ ρ [] H F O) {p : Addr} {i : Nat} {xs : List D} {vs : List V} (ho : O p = some (.slot i)) (hH : H p = some (.lst vs)) (hd : DqAll K F vs xs) (hb : B.H p = none) (ρ2 : Env) (hl : ρ2.length = ρ.length)
    (h2 : ∀ (j : Nat) (x : W), ρ2[j]? = some (some x) → ρ[j]? = some (some x) ∧ j ≠ i) : Sep K A B σ ρ2 [(.fresh xs, .ref p)] H F (setO O p (some (.temp 0))) := by
  have up : ∀ q j, j ≠ i → O q = some (.slot j) → setO O p (some (.temp 0)) q = some (.slot j) ∧ ∀ u, H q = some u → H q = some u := fun q j hj e => by
    have hq : q ≠ p := fun z => by rw [z, ho] at e; cases e; exact hj rfl
    exact ⟨by rw [setO_ne hq]; exact e, fun u eu => eu⟩
  refine ⟨S.fh, S.f0, S.fn, S.h0, S.h1, fun q e => ?_, by rw [hl]; exact S.len, fun j x e => ?_, fun k r u e => ?_, fun j ys e => S.lent j ys (h2 j _ e).1, fun k ys q e => ?_, fun j ys q e e' => S.ns j ys q (h2 j _ e).1 e', S.nn, S.tb⟩
  · by_cases hq : q = p
    · subst hq; exact S.ho q (by rw [ho]; exact Option.some_ne_none _)
    · rw [setO_ne hq] at e; exact S.ho q e
  · obtain ⟨h1, h3⟩ := h2 j x e
    obtain ⟨u, a, c⟩ := S.slots j x h1
    exact ⟨u, a, slotOk_step (Sub.refl _) (fun q e => up q j h3 e) c⟩
  · cases k with
    | zero => cases e; exact ⟨p, vs, rfl, setO_same, hH, hd⟩
    | succ k => simp at e
  · cases k with
    | zero => cases e; exact hb
    | succ k => simp at e
/-- the end of a def -/
theorem exit_sound {vs : List V} {ws : List W} {r r' : R} {v : V} {F0 : Hp} {O0 : Addr → Option Owner} {H0 : Hp} {o : Option (List D)} (h : At K A (callB H0 F0 O0 vs) σ ρ [(r, v)] H) (e : finR ρ r = some r') (hl : vs.length = ws.length)
    (ho : match ws with | .own true _ :: _ => ∃ ys, ρ[0]? = some (some (W.own true ys)) ∧ o = some ys | _ => o = none) : At K A (callB H0 F0 O0 vs) (vs.map some) (outs ws o) [(r', v)] H := by
  obtain ⟨F, O, S⟩ := h
  -- first the result, over the body's slots
  have step : ∃ O2 ρ2, Sep K A (callB H0 F0 O0 vs) σ ρ2 [(r', v)] H F O2 ∧ ∀ ys, ρ[0]? = some (some (W.own true ys)) → ρ2[0]? = some (some (W.own true ys)) := by
    cases r with
    | d x => cases e; exact ⟨O, ρ, S, fun _ h => h⟩
    | fresh x => cases e; exact ⟨O, ρ, S, fun _ h => h⟩
    | fn x => cases e; exact ⟨O, ρ, S, fun _ h => h⟩
    | slot i =>
      have hv : σ[i]? = some (some v) := S.temps 0 _ _ rfl
      simp only [finR] at e
      split at e
      · rename_i xs q
        cases e
        have Sd := Sep.drop (T := []) (T' := [(.slot i, v)]) S
        obtain ⟨u, a, p, us, e1, e2, e3, e4⟩ := Sd.slots i _ q
        rw [hv] at a
        cases a
        subst e1
        refine ⟨_, ρ.set i none, Sd.untie e2 e3 e4 (S.ns i xs p q hv) _ (by simp) fun j x h => ?_, fun ys h => ?_⟩
        · rcases getElem?_set_cases h with ⟨_, h2, _⟩ | ⟨h1, h2⟩
          · cases h2
          · exact ⟨h2, h1⟩
        · rw [List.getElem?_set_ne (fun z => by subst z; rw [q] at h; cases h)]
          exact h
      · rename_i x q
        cases e
        obtain ⟨u, a, c⟩ := S.slots i _ q
        rw [hv] at a
        cases a
        have Sd := Sep.drop (T := []) (T' := [(.slot i, v)]) S
        exact ⟨O, ρ, Sep.push (T := []) Sd c, fun _ h => h⟩
      · cases e
  obtain ⟨O2, ρ2, S2, keep0⟩ := step
  have tset : ∀ k r u, [(r', v)][k]? = some (r, u) → TempOk K A F H O2 (vs.map some) k u r ∧ True := fun k r u e1 => by
    have t := S2.temps k r u e1
    cases k with
    | succ k => simp at e1
    | zero =>
      cases e1
      have := fin_noslot e
      exact ⟨temp_set (i := 0) (v' := v) this t, trivial⟩
  -- what is told of the arguments
  have nones : ∀ (n : Nat) (i : Nat) (w : W), (List.replicate n (none : Option W))[i]? ≠ some (some w) := fun n i w h => by
    rw [List.getElem?_replicate] at h
    split at h <;> cases h
  have mapnone : ∀ {l : List W} {i : Nat} {w : W}, (l.map fun _ => (none : Option W))[i]? ≠ some (some w) := fun {l i w} h => by
    rw [List.getElem?_map] at h
    cases q : l[i]? with
    | none => rw [q] at h; cases h
    | some _ => rw [q] at h; cases h
  have olen : (outs ws o).length = ws.length := by
    unfold outs
    split <;> simp
  have oget : ∀ {i : Nat} {w : W}, (outs ws o)[i]? = some (some w) → i = 0 ∧ ∃ ys, w = .own true ys ∧ ρ[0]? = some (some (W.own true ys)) := fun {i w} h => by
    unfold outs at h
    split at h
    · rename_i ys0 rest ys1 _ _
      cases i with
      | zero =>
        cases h
        obtain ⟨ys, h1, h2⟩ := ho
        cases h2
        exact ⟨rfl, _, rfl, h1⟩
      | succ i => exact absurd h mapnone
    · exact absurd h mapnone
  refine ⟨F, O2, S2.fh, S2.f0, S2.fn, S2.h0, S2.h1, S2.ho, by rw [olen, List.length_map, hl], fun i w h => ?_, fun k r u e => (tset k r u e).1, fun i xs h => rfl, S2.nt, fun i xs p h _ => ?_, S2.nn, S2.tb⟩
  · obtain ⟨rfl, ys, rfl, h1⟩ := oget h
    have h2 := keep0 ys h1
    obtain ⟨u, a, c⟩ := S2.slots 0 _ h2
    have hL := S2.lent 0 ys h2
    have hL' : σ[0]? = (vs.map some)[0]? := hL
    exact ⟨u, by rw [← hL']; exact a, c⟩
  · obtain ⟨rfl, ys, e1, _⟩ := oget h
    cases e1
end
end Mn
set_option Elab.async false
set_option linter.all false
set_option maxRecDepth 100000
set_option maxHeartbeats 1000000
namespace Mn
open PySem PySem.Spec PyProof.Rows L2
section
variable (K : PySem.W.Frag) (A : Ad) (Wx : WX)
/-- what is asked behind a statement -/
def FlP (B : Bs) (D : Ends) : Fl → Prop
  | .nx ρ => ∀ σ H, At K A B σ ρ [] H → D.nx σ H
  | .rt r ρ => ∀ σ v H, At K A B σ ρ [(r, v)] H → D.rt v H
  | .bk ρ => ∀ σ H, At K A B σ ρ [] H → D.bk σ H
  | .ct ρ => ∀ σ H, At K A B σ ρ [] H → D.ct σ H
  | .ex c ρ => ∀ σ H, At K A B σ ρ [] H → Wx (.ref (A c)) none σ H
  | .stuck => False
def RdS (ev : Env → Fl) : TS := fun Dn σ H => ∃ B ρ, At K A B σ ρ [] H ∧ FlP K A Wx B Dn (ev ρ)
end
section
variable {X : Cx} {K : PySem.W.Frag} {A : Ad} {Wx : WX} {B : Bs} {σ σ1 σ2 : L2.St} {ρ ρ' : Env} {T : Tmps} {H H' F : Hp} {O : Addr → Option Owner} {Dn : Ends}
theorem PS_imp {st : Stmt} {t t' : TS} (h : PS X st t) (hi : ∀ D σ H, t' D σ H → t D σ H) : PS X st t' := ⟨fun pins s σ H D I q => h.run pins s σ H D I (hi _ _ _ q)⟩
theorem PSs_imp {st : List Stmt} {t t' : TS} (h : PSs X st t) (hi : ∀ D σ H, t' D σ H → t D σ H) : PSs X st t' := ⟨fun pins s σ H D I q => h.run pins s σ H D I (hi _ _ _ q)⟩
/-- over an expression -/
theorem fl_gd {α : Type} {m : Res α} {f : α → Fl} (h : FlP K A Wx B Dn (m.fl f)) (σ : L2.St) : Gd m (fun a => FlP K A Wx B Dn (f a)) (ExP K A Wx B σ) := by
  cases m with
  | ok a => exact h
  | ex c ρ => exact fun H' q => h σ H' q
  | stuck => exact h
abbrev setEv (i : Nat) (ev : Env → Res (R × Env)) : Env → Fl := fun ρ => (ev ρ).fl fun (r, ρ) => match r.into i ρ with
  | some ρ1 => .nx ρ1
  | none => .stuck
theorem rs_set_of {st : Stmt} {i : Nat} {te : TE} {ev : Env → Res (R × Env)} (h : PS X st (tAsg te (gName i))) (hi : ∀ σ H Q, RdE K A Wx ev σ H Q → te σ H Q) : PS X st (RdS K A Wx (setEv i ev)) := by
  refine PS_imp h fun Dn σ H ⟨B, ρ, at_, g⟩ => hi _ _ _ ⟨B, ρ, [], at_, (fl_gd g σ).mono (fun ⟨r, ρ1⟩ g1 v H1 ⟨F, O, S⟩ => ?_) fun _ _ h => h⟩
  cases q : r.into i ρ1 with
  | none => simp only [q] at g1; exact (show False from g1).elim
  | some ρ2 =>
    simp only [q] at g1
    exact g1 _ _ (S.into NoSlot.nil q)
abbrev unpEv (is : List Nat) (lst : Bool) (ev : Env → Res (R × Env)) : Env → Fl := fun ρ => (ev ρ).fl fun (r, ρ) => match r.keep ρ with
  | some (.tuple xs, ρ) => if lst then .stuck else match Tg.set.setRow is xs ρ with
    | some ρ => .nx ρ
    | none => .stuck
  | some (.list xs, ρ) => if lst then match Tg.set.setRow is xs ρ with
    | some ρ => .nx ρ
    | none => .stuck
    else .stuck
  | _ => .stuck
theorem setRow_len : ∀ {is : List Nat} {xs : List D} {ρ ρ' : Env}, Tg.set.setRow is xs ρ = some ρ' → xs.length = is.length := by
  intro is
  induction is with
  | nil =>
    intro xs ρ ρ' h
    cases xs with
    | nil => rfl
    | cons _ _ => simp [Tg.set.setRow] at h
  | cons i is ih =>
    intro xs ρ ρ' h
    cases xs with
    | nil => simp [Tg.set.setRow] at h
    | cons x xs =>
      simp only [Tg.set.setRow] at h
      split at h
      · rw [List.length_cons, List.length_cons, ih h]
      · cases h
theorem rs_unp {st : Stmt} {is : List Nat} {lst : Bool} {te : TE} {ev : Env → Res (R × Env)} (h : PS X st (tAsg te (if lst then gLst K is.length (gRow is) else gTup K is.length (gRow is)))) (hi : ∀ σ H Q, RdE K A Wx ev σ H Q → te σ H Q) : PS X st (RdS K A Wx (unpEv is lst ev)) := by
  refine PS_imp h fun Dn σ H ⟨B, ρ, at_, g⟩ => hi _ _ _ ⟨B, ρ, [], at_, (fl_gd g σ).mono (fun ⟨r, ρ1⟩ g1 v H1 ⟨F, O, S⟩ => ?_) fun _ _ h => h⟩
  cases q : r.keep ρ1 with
  | none => simp only [q] at g1; exact (show False from g1).elim
  | some z =>
    obtain ⟨x, ρ2⟩ := z
    obtain ⟨F2, O2, S2, _⟩ := Sep.keepTop (T := []) S q
    have S3 := Sep.drop (T := []) S2
    have dv : Dq K F2 v x := S2.top
    cases x with
    | tuple xs =>
      simp only [q] at g1
      cases lst with
      | true => exact (show False from g1).elim
      | false =>
        simp only [Bool.false_eq_true, if_false] at g1
        cases e : Tg.set.setRow is xs ρ2 with
        | none => simp only [e] at g1; exact (show False from g1).elim
        | some ρ3 =>
          simp only [e] at g1
          exact tg_sound (tg := .row is) S3 NoSlot.nil dv e fun σ' _ S' => g1 _ _ ⟨_, _, S'⟩
    | list xs =>
      simp only [q] at g1
      cases lst with
      | false => exact (show False from g1).elim
      | true =>
        simp only [if_true] at g1
        cases e : Tg.set.setRow is xs ρ2 with
        | none => simp only [e] at g1; exact (show False from g1).elim
        | some ρ3 =>
          simp only [e] at g1
          cases dv with
          | lst h1 h2 => exact ⟨_, _, rfl, .inl (rd_sub S3.fh h1), by rw [dpa_len h2, setRow_len e], row_sound S3 NoSlot.nil h2 e fun σ' _ S' => g1 _ _ ⟨_, _, S'⟩⟩
    | _ => simp only [q] at g1; exact (show False from g1).elim
end
section
variable {X : Cx} {K : PySem.W.Frag} {A : Ad} {Wx : WX} {B : Bs} {σ σ1 σ2 : L2.St} {ρ ρ' : Env} {T : Tmps} {H H' F : Hp} {O : Addr → Option Owner} {Dn : Ends}
/-! ### two at once -/
def R.w : R → W
  | .d x => .d x
  | .fresh xs => .own false xs
  | .fn f => .fn f
  | .slot _ => .d .none
theorem into_w {r : R} {i : Nat} (h : ∀ k, r ≠ .slot k) : r.into i ρ = if isFree ρ i then some (ρ.set i (some r.w)) else none := by
  cases r with
  | slot k => exact absurd rfl (h k)
  | _ => rfl
theorem isFree_ne {i j : Nat} {w : Option W} (h : i ≠ j) : isFree (ρ.set i w) j = isFree ρ j := by
  unfold isFree
  rw [List.getElem?_set_ne h]
theorem into_two {r r' : R} {i j : Nat} {ρ1 ρ2 : Env} (h : ∀ k, r ≠ .slot k) (h' : ∀ k, r' ≠ .slot k) (hij : i ≠ j) (e1 : r.into i ρ = some ρ1) (e2 : r'.into j ρ1 = some ρ2) :
    ∃ ρ3, r'.into j ρ = some ρ3 ∧ r.into i ρ3 = some ρ2 := by
  rw [into_w h] at e1
  rw [into_w h'] at e2
  split at e1
  · rename_i f1
    cases e1
    split at e2
    · rename_i f2
      cases e2
      rw [isFree_ne hij] at f2
      refine ⟨_, by rw [into_w h', if_pos f2], ?_⟩
      rw [into_w h, if_pos (by rw [isFree_ne (Ne.symm hij)]; exact f1), List.set_comm _ _ (Ne.symm hij)]
    · cases e2
  · cases e1
abbrev parEv (i j : Nat) (ea eb : Env → Res (R × Env)) : Env → Fl := fun ρ => (ea ρ).fl fun (r, ρ) => (eb ρ).fl fun (r', ρ) => match r.peek ρ, r' with
    | _, .slot _ => .stuck
    | _, r' => if i = j then .stuck else match r with
      | .slot _ => .stuck
      | r => match r.into i ρ with
        | some ρ => match r'.into j ρ with
          | some ρ => .nx ρ
          | none => .stuck
        | none => .stuck
theorem par_fin {i j : Nat} {r r' : R} {v w : V}
    (g : FlP K A Wx B Dn (match r.peek ρ, r' with
    | _, .slot _ => .stuck
    | _, r' => if i = j then .stuck else match r with
      | .slot _ => .stuck
      | r => match r.into i ρ with
        | some ρ => match r'.into j ρ with
          | some ρ => .nx ρ
          | none => .stuck
        | none => .stuck)) (S : Sep K A B σ ρ [(r, v), (r', w)] H F O) : Dn.nx ((σ.set i (some v)).set j (some w)) H := by
  have key : (∀ k, r ≠ .slot k) → (∀ k, r' ≠ .slot k) → FlP K A Wx B Dn (if i = j then .stuck else match r.into i ρ with
        | some ρ => match r'.into j ρ with
          | some ρ => .nx ρ
          | none => .stuck
        | none => .stuck) → Dn.nx ((σ.set i (some v)).set j (some w)) H := fun h h' g => by
    by_cases hij : i = j
    · rw [if_pos hij] at g; exact g.elim
    · rw [if_neg hij] at g
      cases e1 : r.into i ρ with
      | none => simp only [e1] at g; exact (show False from g).elim
      | some ρ1 =>
        simp only [e1] at g
        cases e2 : r'.into j ρ1 with
        | none => simp only [e2] at g; exact (show False from g).elim
        | some ρ2 =>
          simp only [e2] at g
          obtain ⟨ρ3, e3, e4⟩ := into_two h h' hij e1 e2
          obtain ⟨F1, O1, S1⟩ := Sep.into (T := [(r, v)]) S (noSlot_one h) e3
          have at2 := Sep.into (T := []) S1 NoSlot.nil e4
          rw [List.set_comm _ _ hij]
          exact g _ _ at2
  cases r' with
  | slot k => exact (show False from g).elim
  | _ =>
    cases r with
    | slot k =>
      by_cases hij : i = j
      · simp only [hij, if_true] at g; exact (show False from g).elim
      · simp only [hij, if_false] at g; exact (show False from g).elim
    | _ => exact key (fun _ z => nomatch z) (fun _ z => nomatch z) g
theorem rs_par {st : Stmt} {i j : Nat} {ta : TA} {ea eb : Env → Res (R × Env)} (h : PS X st (tPar i j ta)) (hi : ∀ σ H Q, tCons (RdE K A Wx ea) (tCons (RdE K A Wx eb) tNil) σ H Q → ta σ H Q) : PS X st (RdS K A Wx (parEv i j ea eb)) := by
  refine PS_imp h fun Dn σ H ⟨B, ρ, at_, g⟩ => hi _ _ _ ⟨B, ρ, [], at_, (fl_gd g σ).mono (fun ⟨r, ρ1⟩ g1 v H1 at1 => ?_) fun _ _ h => h⟩
  refine ⟨B, ρ1, _, at1, (fl_gd g1 σ).mono (fun ⟨r', ρ2⟩ g2 w H2 ⟨F, O, S⟩ => ?_) fun _ _ h => h⟩
  exact ⟨v, w, rfl, par_fin g2 S⟩
/-- a new object that nobody needs -/
theorem Sep.junk (S : Sep K A B σ ρ T H F O) {p : Addr} {o : HO} (h : H p = none) (nt : nonT o) : Sep K A B σ ρ T (upd H p o) F O := by
  obtain ⟨f, b, c⟩ := S.fresh h
  have up : ∀ q w, O q = some w → O q = some w ∧ ∀ u, H q = some u → upd H p o q = some u := fun q w e => ⟨e, fun u eu => by
    rw [upd_ne (fun z => by rw [z, h] at eu; cases eu)]; exact eu⟩
  refine ⟨fun q u e => ?_, S.f0, S.fn, fun q u e n => ?_, fun q e => upd_ne_none nt (S.h1 q e), fun q e => ⟨(S.ho q e).1, (S.ho q e).2.1, upd_ne_none nt (S.ho q e).2.2⟩, S.len, fun j x e => ?_, fun k r u e => ?_, S.lent, S.nt, S.ns, S.nn, S.tb.new h⟩
  · rw [upd_ne (fun z => by rw [z, f] at e; cases e)]; exact S.fh q u e
  · rw [upd_ne (fun z => by rw [z, c] at e; cases e)]; exact S.h0 q u e n
  · obtain ⟨u, a, c⟩ := S.slots j x e
    exact ⟨u, a, slotOk_step (Sub.refl _) (fun q e => up q _ e) c⟩
  · exact tempOk_step (Sub.refl _) (fun q e => up q _ e) (S.temps k r u e)
theorem rs_parT {st : Stmt} {i j : Nat} {ta : TA} {ea eb : Env → Res (R × Env)} (h : PS X st (tAsg (tTup ta) (gTup K 2 (gRow [i, j])))) (hi : ∀ σ H Q, tCons (RdE K A Wx ea) (tCons (RdE K A Wx eb) tNil) σ H Q → ta σ H Q) : PS X st (RdS K A Wx (parEv i j ea eb)) := by
  refine PS_imp h fun Dn σ H ⟨B, ρ, at_, g⟩ => hi _ _ _ ⟨B, ρ, [], at_, (fl_gd g σ).mono (fun ⟨r, ρ1⟩ g1 v H1 at1 => ?_) fun _ _ h => h⟩
  refine ⟨B, ρ1, _, at1, (fl_gd g1 σ).mono (fun ⟨r', ρ2⟩ g2 w H2 ⟨F, O, S⟩ => ?_) fun _ _ h => h⟩
  refine ⟨show 2 ≤ sizeLine by decide, fun p hp => ⟨p, _, rfl, .inl (.inl upd_same), rfl, v, _, rfl, w, _, rfl, rfl, ?_⟩⟩
  exact par_fin g2 (Sep.junk S hp nonT_tup)
/-! ### name op= e -/
abbrev augEv (i : Nat) (o : Op2) (ev : Env → Res (R × Env)) : Env → Fl := fun ρ => match ρ[i]? with
  | some (some (.d u)) => (ev ρ).fl fun (r, ρ) => match r.peek ρ with
    | some v => match u, v, opD o u v with
      | .int _, .int _, some (.d z) => match (R.d z).into i ρ with
        | some ρ => .nx ρ
        | none => .stuck
      | _, _, _ => .stuck
    | none => .stuck
  | _ => .stuck
theorem peek_int {r : R} {j : Int} {v : V} {k : Nat} (S : Sep K A B σ ρ T H F O) (h : T[k]? = some (r, v)) (e : r.peek ρ = some (.int j)) : v = .int j := by
  have := S.peek h e
  cases this
  rfl
theorem rs_aug {st : Stmt} {i : Nat} {o : Op2} {f : Int → Int → Int} {ev : Env → Res (R × Env)} (h : PS X st (tAug i (RdE K A Wx ev) (ipI f))) (ho : ∀ i j, opD o (.int i) (.int j) = some (.d (.int (f i j)))) : PS X st (RdS K A Wx (augEv i o ev)) := by
  refine PS_imp h fun Dn σ H ⟨B, ρ, ⟨F, O, S⟩, g⟩ => ?_
  simp only [augEv] at g
  cases q : ρ[i]? with
  | none => simp only [q] at g; exact (show False from g).elim
  | some w =>
    cases w with
    | none => simp only [q] at g; exact (show False from g).elim
    | some w =>
      cases w with
      | own l xs => simp only [q] at g; exact (show False from g).elim
      | fn f => simp only [q] at g; exact (show False from g).elim
      | d u =>
        simp only [q] at g
        obtain ⟨v, h1, h2⟩ := S.slots i _ q
        refine ⟨v, h1, B, ρ, [], ⟨F, O, S⟩, (fl_gd g σ).mono (fun ⟨r, ρ1⟩ g1 v' H1 ⟨F1, O1, S1⟩ => ?_) fun _ _ h => h⟩
        simp only at g1
        cases qp : r.peek ρ1 with
        | none => simp only [qp] at g1; exact (show False from g1).elim
        | some y =>
          simp only [qp] at g1
          match u, y, qp, h2, g1 with
          | .int a, .int b, qp, h2, g1 =>
            rw [ho] at g1
            simp only at g1
            cases qi : (R.d (.int (f a b))).into i ρ1 with
            | none => simp only [qi] at g1; exact (show False from g1).elim
            | some ρ2 =>
              simp only [qi] at g1
              have e1 : v = .int a := dp_int h2
              have e2 := peek_int S1 one_top qp
              refine ⟨a, b, e1, e2, ?_⟩
              have S2 := Sep.drop (T := []) S1
              exact g1 _ _ ⟨_, _, S2.setData NoSlot.nil qi (.int _)⟩
/-! ### name[i] = e -/
abbrev setXEv (i : Nat) (ei ev : Env → Res (R × Env)) : Env → Fl := fun ρ => (ev ρ).fl fun (r, ρ) => match r.keep ρ with
  | some (y, ρ) => match ρ[i]? with
    | some (some (.own _ _)) => (ei ρ).fl fun (k, ρ) => match ρ[i]?, k with
      | some (some (.own l xs)), .d (.int k) => match ixN xs.length k with
        | some j => .nx (ρ.set i (some (.own l (xs.set j y))))
        | none => .stuck
      | _, _ => .stuck
    | _ => .stuck
  | none => .stuck
theorem rs_setX {st : Stmt} {i : Nat} {ei ev : Env → Res (R × Env)} (h : PS X st (tAsg (RdE K A Wx ev) (gSub (tVar i) (RdE K A Wx ei) rSetL))) : PS X st (RdS K A Wx (setXEv i ei ev)) := by
  refine PS_imp h fun Dn σ H ⟨B, ρ, at_, g⟩ => ⟨B, ρ, [], at_, (fl_gd g σ).mono (fun ⟨r, ρ1⟩ g1 v H1 ⟨F, O, S⟩ => ?_) fun _ _ h => h⟩
  simp only at g1
  cases qk : r.keep ρ1 with
  | none => simp only [qk] at g1; exact (show False from g1).elim
  | some z =>
    obtain ⟨y, ρ2⟩ := z
    simp only [qk] at g1
    obtain ⟨F2, O2, S2, _⟩ := Sep.keepTop (T := []) S qk
    cases q : ρ2[i]? with
    | none => simp only [q] at g1; exact (show False from g1).elim
    | some w =>
      cases w with
      | none => simp only [q] at g1; exact (show False from g1).elim
      | some w =>
        cases w with
        | d u => simp only [q] at g1; exact (show False from g1).elim
        | fn f => simp only [q] at g1; exact (show False from g1).elim
        | own l xs =>
          simp only [q] at g1
          obtain ⟨p, vs, hσ, hp, dd⟩ := S2.ownSlot q
          refine own_var hσ ⟨B, ρ2, [(.d y, v)], ⟨F2, O2, S2⟩, (fl_gd g1 σ).mono (fun ⟨k, ρ3⟩ g2 u H3 ⟨F3, O3, S3⟩ => ?_) fun _ _ h => h⟩
          simp only at g2
          cases q3 : ρ3[i]? with
          | none => simp only [q3] at g2; exact (show False from g2).elim
          | some w3 =>
            cases w3 with
            | none => simp only [q3] at g2; exact (show False from g2).elim
            | some w3 =>
              cases w3 with
              | d u => simp only [q3] at g2; exact (show False from g2).elim
              | fn f => simp only [q3] at g2; exact (show False from g2).elim
              | own l3 zs =>
                match k, S3, g2 with
                | .d (.int k), S3, g2 =>
                  simp only [q3] at g2
                  cases qx : ixN zs.length k with
                  | none => simp only [qx] at g2; exact (show False from g2).elim
                  | some j =>
                    simp only [qx] at g2
                    obtain ⟨p3, us, hσ3, hp3, dd3⟩ := S3.ownSlot q3
                    rw [hσ] at hσ3
                    cases hσ3
                    have dk : Dq K F3 u (.int k) := S3.top
                    have dv : Dq K F3 v y := S3.temps 0 _ _ rfl
                    have S4 := Sep.drop (T := [(.d y, v)]) S3
                    have S5 := Sep.drop (T := []) (T' := [(.d y, v)]) S4
                    have S6 := S5.mutate q3 hσ hp3 (dpa_set j dd3 dv)
                    exact ⟨p, us, k, j, rfl, dp_int dk, hp3, by rw [dpa_len dd3]; exact qx, g2 _ _ ⟨_, _, S6⟩⟩
                | .d .none, _, g2 => simp only [q3] at g2; exact (show False from g2).elim
                | .d (.bool _), _, g2 => simp only [q3] at g2; exact (show False from g2).elim
                | .d (.str _), _, g2 => simp only [q3] at g2; exact (show False from g2).elim
                | .d (.list _), _, g2 => simp only [q3] at g2; exact (show False from g2).elim
                | .d (.tuple _), _, g2 => simp only [q3] at g2; exact (show False from g2).elim
                | .d (.dict _), _, g2 => simp only [q3] at g2; exact (show False from g2).elim
                | .fresh _, _, g2 => simp only [q3] at g2; exact (show False from g2).elim
                | .slot _, _, g2 => simp only [q3] at g2; exact (show False from g2).elim
                | .fn _, _, g2 => simp only [q3] at g2; exact (show False from g2).elim
end
end Mn
set_option Elab.async false
set_option linter.all false
set_option maxRecDepth 100000
set_option maxHeartbeats 1000000
namespace Mn
open PySem PySem.Spec PyProof.Rows L2
def rGetL (K : PySem.W.Frag) : V → V → Hp → VK → Prop := fun x y H Q => ∃ p xs i v, x = .ref p ∧ y = .int i ∧ SqL K H p xs ∧ atI xs i = some v ∧ Q v H
section
variable {X : Cx} {K : PySem.W.Frag} {A : Ad} {Wx : WX} {B : Bs} {σ σ1 σ2 : L2.St} {ρ ρ' : Env} {T : Tmps} {H H' F : Hp} {O : Addr → Option Owner} {Dn : Ends}
theorem get_list : PGet X (rGetL X.K) := by
  intro pins s σ H o i ov iv Q I ro ri ⟨p, xs, j, v, eo, ei, hq, he, q⟩
  subst eo
  subst ei
  cases ro
  obtain ⟨t, rfl⟩ := ri
  obtain ⟨its, r, pl, hz⟩ := I.list hq
  obtain ⟨n, h1, h2, h3, h4, h5⟩ := atI_get he
  obtain ⟨w, ew, rw'⟩ := r.get h2
  have hl := r.length
  have hn := line63
  have done : EP X pins σ Q w s := ⟨v, H, I, rw', q⟩
  rcases Int.lt_or_le j 0 with h0 | h0
  · have hj : (j + (its.toArray.size : Int)).toNat = n := by
      rw [seqIndex_neg h0 h4] at h1
      rw [List.size_toArray, ← hl]
      exact Option.some.inj h1
    exact wpAny_getItem_list_neg pl.isList h0 (by rw [List.size_toArray]; omega) (by omega) (by rw [hj]; simpa using ew) done
  · have hj : j.toNat = n := by
      rw [seqIndex_of h0 h5] at h1
      exact Option.some.inj h1
    exact wpAny_getItem_list pl.isList h0 (by omega) (by rw [hj]; simpa using ew) done
abbrev augXEv (i : Nat) (o : Op2) (ei ev : Env → Res (R × Env)) : Env → Fl := fun ρ => match ρ[i]? with
  | some (some (.own _ _)) => (ei ρ).fl fun (k, ρ) => match ρ[i]?, k with
    | some (some (.own _ xs)), .d (.int k) => match atI xs k with
      | some (.int u) => (ev ρ).fl fun (r, ρ) => match ρ[i]?, r with
        | some (some (.own l xs)), .d (.int v) => match opD o (.int u) (.int v), ixN xs.length k with
          | some (.d z), some j => if o = .add ∨ o = .sub then .nx (ρ.set i (some (.own l (xs.set j z)))) else .stuck
          | _, _ => .stuck
        | _, _ => .stuck
      | _ => .stuck
    | _, _ => .stuck
  | _ => .stuck
theorem isOwn {ρ : Env} {i : Nat} {P : Prop} (h : ∀ l xs, ρ[i]? = some (some (W.own l xs)) → P) (h' : (∀ l xs, ρ[i]? ≠ some (some (W.own l xs))) → P) : P := by
  by_cases q : ∃ l xs, ρ[i]? = some (some (W.own l xs))
  · obtain ⟨l, xs, q⟩ := q; exact h l xs q
  · exact h' fun l xs e => q ⟨l, xs, e⟩
theorem dpa_atI {vs : List V} {xs : List D} {k : Int} {x : D} (h : DqAll K F vs xs) (e : atI xs k = some x) : ∃ v, atI vs k = some v ∧ Dq K F v x := by
  unfold atI at e ⊢
  rw [dpa_len h]
  cases q : ixN xs.length k with
  | none => rw [q] at e; cases e
  | some n =>
    rw [q] at e
    obtain ⟨v, a, b⟩ := dpa_get h (show xs[n]? = some x from e)
    exact ⟨v, a, b⟩
theorem rs_augX {st : Stmt} {i : Nat} {o : Op2} {f : Int → Int → Int} {ei ev : Env → Res (R × Env)} (h : PS X st (tAugS (tVar i) (RdE K A Wx ei) (RdE K A Wx ev) (rGetL K) (ipI f) rSetL)) (ho : ∀ i j, opD o (.int i) (.int j) = some (.d (.int (f i j)))) : PS X st (RdS K A Wx (augXEv i o ei ev)) := by
  refine PS_imp h fun Dn σ H ⟨B, ρ, ⟨F, O, S⟩, g⟩ => ?_
  simp only [augXEv] at g
  refine isOwn (ρ := ρ) (i := i) (fun l xs q => ?_) fun q => ?_
  rotate_left
  · split at g
    · rename_i e; exact absurd e (q _ _)
    · exact g.elim
  simp only [q] at g
  obtain ⟨p, vs, hσ, hp, dd⟩ := S.ownSlot q
  refine own_var hσ ⟨B, ρ, [], ⟨F, O, S⟩, (fl_gd g σ).mono (fun ⟨k, ρ1⟩ g1 u H1 ⟨F1, O1, S1⟩ => ?_) fun _ _ h => h⟩
  simp only at g1
  refine isOwn (ρ := ρ1) (i := i) (fun l1 ys q1 => ?_) fun q1 => ?_
  rotate_left
  · split at g1
    · rename_i e _; exact absurd e (q1 _ _)
    · exact g1.elim
  simp only [q1] at g1
  obtain ⟨p1, vs1, hσ1, hp1, dd1⟩ := S1.ownSlot q1
  rw [hσ] at hσ1
  cases hσ1
  split at g1
  · rename_i k0 e0 e1
    cases e0
    cases qa : atI ys k0 with
    | none => simp only [qa] at g1; exact (show False from g1).elim
    | some x =>
      simp only [qa] at g1
      split at g1
      · rename_i n e2
        cases e2
        obtain ⟨v0, h1, h2⟩ := dpa_atI dd1 qa
        have S2 := Sep.drop (T := []) S1
        have dk : Dq K F1 u (.int k0) := S1.top
        refine ⟨p, vs1, k0, v0, rfl, dp_int dk, .inl (.inl hp1), h1, B, ρ1, [], ⟨F1, O1, S2⟩, (fl_gd g1 σ).mono (fun ⟨r, ρ2⟩ g2 w H2 ⟨F2, O2, S3⟩ => ?_) fun _ _ h => h⟩
        simp only at g2
        refine isOwn (ρ := ρ2) (i := i) (fun l2 zs q2 => ?_) fun q2 => ?_
        rotate_left
        · split at g2
          · rename_i e _; exact absurd e (q2 _ _)
          · exact g2.elim
        simp only [q2] at g2
        split at g2
        · rename_i m e3 e4
          cases e3
          rw [ho] at g2
          cases qx : ixN zs.length k0 with
          | none => simp only [qx] at g2; exact (show False from g2).elim
          | some j =>
            simp only [qx] at g2
            split at g2
            · obtain ⟨p2, vs2, hσ2, hp2, dd2⟩ := S3.ownSlot q2
              rw [hσ] at hσ2
              cases hσ2
              have dw : Dq K F2 w (.int m) := S3.top
              have S4 := Sep.drop (T := []) S3
              have S5 := S4.mutate q2 hσ hp2 (dpa_set j dd2 (.int (f n m)))
              exact ⟨n, m, dp_int h2, dp_int dw, p, vs2, k0, j, rfl, dp_int dk, hp2, by rw [dpa_len dd2]; exact qx, g2 _ _ ⟨_, _, S5⟩⟩
            · exact g2.elim
        · exact g2.elim
      · exact g1.elim
  · exact g1.elim
end
end Mn
set_option Elab.async false
set_option linter.all false
set_option maxRecDepth 100000
set_option maxHeartbeats 1000000
namespace Mn
open PySem PySem.Spec PyProof.Rows L2
section
variable {X : Cx} {K : PySem.W.Frag} {A : Ad} {Wx : WX} {B : Bs} {σ σ1 σ2 : L2.St} {ρ ρ' : Env} {T : Tmps} {H H' F : Hp} {O : Addr → Option Owner} {Dn : Ends}
theorem flp_nx {B : Bs} {D : Ends} {N : L2.St → Hp → Prop} {fl : Fl} {k : Env → Fl} (h : FlP K A Wx B D (match fl with | .nx ρ => k ρ | f => f)) (hn : ∀ ρ', fl = .nx ρ' → ∀ σ H, At K A B σ ρ' [] H → N σ H) : FlP K A Wx B { D with nx := N } fl := by
  cases fl with
  | nx ρ => exact hn _ rfl
  | rt r ρ => exact h
  | bk ρ => exact h
  | ct ρ => exact h
  | ex c ρ => exact h
  | stuck => exact h
theorem rs_nil : PSs X [] (RdS K A Wx .nx) := PSs_imp pss_nil fun Dn σ H ⟨B, ρ, a, g⟩ => g _ _ a
theorem rs_cons {st : Stmt} {rest : List Stmt} {f k : Env → Fl} (h : PS X st (RdS K A Wx f)) (h2 : PSs X rest (RdS K A Wx k)) : PSs X (st :: rest) (RdS K A Wx fun ρ => match f ρ with | .nx ρ => k ρ | f => f) := by
  refine PSs_imp (pss_cons h h2) fun Dn σ H ⟨B, ρ, a, g⟩ => ?_
  refine ⟨B, ρ, a, flp_nx g fun ρ' e σ' H' at' => ⟨B, ρ', at', ?_⟩⟩
  simp only [e] at g
  exact g
theorem rs_pass {pos : Pos} : PS X (.Pass pos) (RdS K A Wx .nx) := PS_imp ps_pass fun Dn σ H ⟨B, ρ, a, g⟩ => g _ _ a
theorem rs_brk {pos : Pos} : PS X (.Break pos) (RdS K A Wx .bk) := PS_imp ps_break fun Dn σ H ⟨B, ρ, a, g⟩ => g _ _ a
theorem rs_cnt {pos : Pos} : PS X (.Continue pos) (RdS K A Wx .ct) := PS_imp ps_continue fun Dn σ H ⟨B, ρ, a, g⟩ => g _ _ a
theorem rs_expr {e : Expr} {pos : Pos} {ev : Env → Res (R × Env)} (he : PE X e (RdE K A Wx ev)) (hs : swapsWith e none pos.line X.env = pure false) : PS X (.Expr e pos) (RdS K A Wx fun ρ => (ev ρ).fl fun (_, ρ) => .nx ρ) := by
  refine PS_imp (ps_expr he hs) fun Dn σ H ⟨B, ρ, a, g⟩ => ⟨B, ρ, [], a, (fl_gd g σ).mono (fun ⟨r, ρ1⟩ g1 v H1 a1 => g1 _ _ (At.drop (T := []) a1)) fun _ _ h => h⟩
theorem rs_ret {e : Expr} {pos : Pos} {ev : Env → Res (R × Env)} (he : PE X e (RdE K A Wx ev)) : PS X (.Return (some e) pos) (RdS K A Wx fun ρ => (ev ρ).fl fun (r, ρ) => .rt r ρ) := by
  refine PS_imp (ps_ret he) fun Dn σ H ⟨B, ρ, a, g⟩ => ⟨B, ρ, [], a, (fl_gd g σ).mono (fun ⟨r, ρ1⟩ g1 v H1 a1 => g1 _ _ _ a1) fun _ _ h => h⟩
theorem rs_retN {pos : Pos} : PS X (.Return none pos) (RdS K A Wx fun ρ => .rt (.d .none) ρ) := by
  refine PS_imp ps_retN fun Dn σ H ⟨B, ρ, ⟨F, O, S⟩, g⟩ => g σ _ _ ⟨F, O, Sep.push (T := []) (r := .d .none) S .non⟩
theorem rs_if {c : Expr} {a b : List Stmt} {pos : Pos} {ec : Env → Res (Bool × Env)} {ea eb : Env → Fl} (hc : PT X c (RdT K A Wx ec)) (ha : PSs X a (RdS K A Wx ea)) (hb : PSs X b (RdS K A Wx eb)) :
    PS X (.If c a b pos) (RdS K A Wx fun ρ => (ec ρ).fl fun (t, ρ) => if t then ea ρ else eb ρ) := by
  refine PS_imp (ps_if hc ha hb) fun Dn σ H ⟨B, ρ, a, g⟩ => ⟨B, ρ, [], a, (fl_gd g σ).mono (fun ⟨t, ρ1⟩ g1 H1 a1 => ?_) fun _ _ h => h⟩
  cases t with
  | true => exact ⟨B, ρ1, a1, g1⟩
  | false => exact ⟨B, ρ1, a1, g1⟩
/-! ### loops -/
theorem rs_while {c : Expr} {body : List Stmt} {pos : Pos} {n : Nat} {ec : Env → Res (Bool × Env)} {eb : Env → Fl} (hp : PassesOwn (model X.prog X.w) X.A X.env X.xe) (hc : PT X c (RdT K A Wx ec)) (hb : PSs X body (RdS K A Wx eb)) :
    PS X (.While c body [] pos) (RdS K A Wx fun ρ => whLoop ec eb n ρ) := by
  refine PS_imp (ps_while hp hc hb) fun Dn σ H ⟨B, ρ, a, g⟩ => ?_
  refine ⟨fun m σ H => ∃ ρ, At K A B σ ρ [] H ∧ FlP K A Wx B Dn (whLoop ec eb m ρ), ⟨n, ρ, a, g⟩, ?_⟩
  rintro m σ1 H1 ⟨ρ1, a1, g1⟩
  cases m with
  | zero => exact (show False from g1).elim
  | succ m =>
    simp only [whLoop] at g1
    refine ⟨B, ρ1, [], a1, ?_⟩
    cases q : ec ρ1 with
    | stuck => simp only [q] at g1; exact (show False from g1).elim
    | ex c ρx => simp only [q] at g1; exact fun H' h => g1 _ _ h
    | ok z =>
      obtain ⟨t, ρ2⟩ := z
      simp only [q] at g1
      intro H2 a2
      cases t with
      | false => exact g1 _ _ a2
      | true =>
        simp only [if_true]
        refine ⟨fun σ' H' => ∃ ρ', At K A B σ' ρ' [] H' ∧ FlP K A Wx B Dn (whLoop ec eb m ρ'), fun σ' H' h => ⟨m, Nat.lt_succ_self m, h⟩, B, ρ2, a2, ?_⟩
        cases q3 : eb ρ2 with
        | nx ρ3 => simp only [q3] at g1; exact fun σ' H' h => ⟨ρ3, h, g1⟩
        | ct ρ3 => simp only [q3] at g1; exact fun σ' H' h => ⟨ρ3, h, g1⟩
        | bk ρ3 => simp only [q3] at g1; exact g1
        | rt r ρ3 => simp only [q3] at g1; exact g1
        | ex c ρ3 => simp only [q3] at g1; exact g1
        | stuck => simp only [q3] at g1; exact g1
/-- back to the base at the loop's beginning -/
theorem flp_refine {fl : Fl} (S : Sep K A B σ ρ T H F O) (h : FlP K A Wx B Dn fl) : FlP K A Wx { B with F := F } Dn fl := by
  cases fl with
  | nx ρ => exact fun σ H ⟨F', O', S'⟩ => h _ _ ⟨F', O', S.unrefine S'⟩
  | bk ρ => exact fun σ H ⟨F', O', S'⟩ => h _ _ ⟨F', O', S.unrefine S'⟩
  | ct ρ => exact fun σ H ⟨F', O', S'⟩ => h _ _ ⟨F', O', S.unrefine S'⟩
  | rt r ρ => exact fun σ v H ⟨F', O', S'⟩ => h _ _ _ ⟨F', O', S.unrefine S'⟩
  | ex c ρ => exact fun σ H ⟨F', O', S'⟩ => h _ _ ⟨F', O', S.unrefine S'⟩
  | stuck => exact h
theorem rs_for {tg : Tg} {t iter : Expr} {body : List Stmt} {pos : Pos} {ei : Env → Res (List D × Env)} {eb : Env → Fl} (hp : PassesOwn (model X.prog X.w) X.A X.env X.xe) (hc : X.calm = true) (hi : PI X t iter (RdI K A Wx ei)) (hg : PG X t (RdG K tg))
    (hb : PSs X body (RdS K A Wx eb)) (hs : ∀ x, foldedSetIterable iter X.env x = pure x) :
    PS X (.For t iter body [] pos) (RdS K A Wx fun ρ => (ei ρ).fl fun (xs, ρ) => forLoop (fun x ρ => match tg.set ρ x with
      | some ρ => eb ρ
      | none => .stuck) xs ρ) := by
  refine PS_imp (ps_for hp hc hi hg hb hs) fun Dn σ H ⟨B, ρ, a, g⟩ => ⟨B, ρ, [], a, (fl_gd g σ).mono (fun ⟨items, ρ1⟩ g1 J H1 F O S it => ?_) fun _ _ h => h⟩
  have g2 := flp_refine S g1
  simp only at g2
  refine for_it it.walk (fun i σ H => ∃ ρ, At K A { B with F := F } σ ρ [] H ∧ FlP K A Wx { B with F := F } Dn (forLoop (fun x ρ => match tg.set ρ x with
      | some ρ => eb ρ
      | none => .stuck) (items.drop i) ρ)) ⟨ρ1, ⟨F, O, S.refine⟩, by simpa using g2⟩ ?_ ?_ ?_
  · rintro i σ2 H2 _ ⟨ρ2, ⟨F2, O2, S2⟩, _⟩
    exact Sub.trans S2.f0 S2.fh
  · rintro i v σ2 H2 H2' hi ⟨ρ2, ⟨F2, O2, S2⟩, g3⟩ ⟨d, hd, y⟩
    obtain ⟨x, e1, e2⟩ := drop_get hi
    rw [hd] at e1
    cases e1
    rw [e2] at g3
    simp only [forLoop] at g3
    -- the item as it stands
    have step : ∃ F3, Sep K A { B with F := F } σ2 ρ2 [] H2' F3 O2 ∧ Dq K F3 v d := by
      rcases y with ⟨rfl, dv⟩ | ⟨Tt, vs, ds, rfl, hn, rfl, rfl, dd⟩
      · exact ⟨F2, S2, dp_sub S2.f0 _ _ dv⟩
      · have f2 := (S2.fresh hn).1
        exact ⟨_, S2.laid hn nonT_tup, .tup (.inl (.inl upd_same)) (dpa_sub (Sub.trans S2.f0 (Sub.upd f2)) _ _ dd)⟩
    obtain ⟨F3, S3, dv⟩ := step
    cases q : tg.set ρ2 d with
    | none => simp only [q] at g3; exact (show False from g3).elim
    | some ρ3 =>
      simp only [q] at g3
      refine tg_sound S3 NoSlot.nil dv q fun σ' _ S' => ⟨{ B with F := F }, ρ3, ⟨_, _, S'⟩, ?_⟩
      cases q3 : eb ρ3 with
      | nx ρ4 => simp only [q3] at g3; exact fun σ' H' h => ⟨ρ4, h, g3⟩
      | ct ρ4 => simp only [q3] at g3; exact fun σ' H' h => ⟨ρ4, h, g3⟩
      | bk ρ4 => simp only [q3] at g3; exact g3
      | rt r ρ4 => simp only [q3] at g3; exact g3
      | ex c ρ4 => simp only [q3] at g3; exact g3
      | stuck => simp only [q3] at g3; exact g3
  · rintro σ2 H2 ⟨ρ2, a2, g3⟩
    rw [List.drop_length] at g3
    exact g3 _ _ a2
/-! ### raise -/
theorem rs_raise {c : Str} {e : Expr} {pos : Pos} (hc : X.calm = true) (tk : Takes X Wx) (he : PMk X e (fun _ H Q => Q (.ref (A c)) none H)) : PS X (.Raise (some e) none pos) (RdS K A Wx fun ρ => .ex c ρ) :=
  PS_imp (L2.ps_raise hc tk he) fun Dn σ H ⟨B, ρ, a, g⟩ => g _ _ a
end
end Mn
set_option Elab.async false
set_option linter.all false
set_option maxRecDepth 100000
set_option maxHeartbeats 1000000
namespace Mn
open PySem PySem.Spec PyProof.Rows L2 LamX
section
variable {X : Cx} {K : PySem.W.Frag} {A : Ad} {Wx : WX} {B : Bs} {σ σ1 σ2 : L2.St} {ρ ρ' : Env} {T : Tmps} {H H' F : Hp} {O : Addr → Option Owner} {Dn : Ends}
/-- what changes but tables does not touch what is known -/
theorem Sep.extN (S : Sep K A B σ ρ T H F O) (e : ExtN H H') (t : Tabs A.T H') : Sep K A B σ ρ T H' F O := by
  have up : ∀ q w, O q = some w → O q = some w ∧ ∀ vs, H q = some (.lst vs) → H' q = some (.lst vs) := fun q w h => ⟨h, fun vs hv => e q _ hv nonT_lst⟩
  have own : ∀ {w v xs}, OwnAt K F H O w v xs → OwnAt K F H' O w v xs := fun ⟨p, vs, a, b, c, d⟩ => ⟨p, vs, a, b, e p _ c nonT_lst, d⟩
  have msk : ∀ {b}, mask H b ≠ none → mask H' b ≠ none := fun {b} h => by
    cases q : mask H b with
    | none => exact absurd q h
    | some o =>
      obtain ⟨a, c⟩ := mask_some q
      rw [mask_of (e b o a c) c]
      exact Option.some_ne_none _
  refine ⟨fun b o h => e b o (S.fh b o h) (S.tb.ft b o h), S.f0, S.fn, fun b o h n => e b o (S.h0 b o h n) (B.hm b o h), fun b h => msk (S.h1 b h), fun b h => ⟨(S.ho b h).1, (S.ho b h).2.1, msk (S.ho b h).2.2⟩, S.len, fun i w h => ?_, fun k r v h => ?_, S.lent, S.nt, S.ns, S.nn, ⟨S.tb.ft, t⟩⟩
  · obtain ⟨v, a, c⟩ := S.slots i w h
    refine ⟨v, a, ?_⟩
    cases w with
    | d x => exact c
    | own l xs => exact own c
    | fn f => exact c
  · have t := S.temps k r v h
    cases r with
    | d x => exact t
    | fresh xs => exact own t
    | slot i => exact t
    | fn f => exact t
/-- told("told", ..), or told of the exception -/
abbrev heardEv (hs : List (Str × D)) (ev : Env → Res (R × Env)) : Env → Res (R × Env) := fun ρ => match ev (wipeE ρ []) with
  | .ok p => match p.1.keep p.2 with
    | some (y, ρ1) => .ok (.d (.tuple [.str "told", y]), backE [] 0 ρ ρ1)
    | none => .stuck
  | .ex c ρ1 => match lookupEx c hs with
    | some d => .ok (.d d, backE [] 0 ρ ρ1)
    | none => .stuck
  | .stuck => .stuck
/-- the def's reading: try: return ("told", a()) / except x: return (ret,) -/
def TTup (K : PySem.W.Frag) (CS : Addr) (yes no : Str) : (XK → Hp → VK → Prop) → Hp → VK → Prop := fun tl H Q =>
  tl (fun cls _ H' => ∃ b, PySem.W.exmOne K cls (.ref CS) = some b ∧ (b = true → ∀ p, H' p = none → Q (.ref p) (upd H' p (.tup [.str no]))) ∧ (b = false → False)) H fun v H1 => [V.str yes, v].length ≤ sizeLine ∧ ∀ p, H1 p = none → Q (.ref p) (upd H1 p (.tup [.str yes, v]))
theorem tup_gives {Ng : List Str} {x a e q yes no : Str} {sg : Scope} {g CS : Addr} {cdg : Value} {j j2 k k2 : Nat} {p1 p2 p3 p4 p5 p6 p7 p8 p9 p10 p11 : Pos} (hge : sg.names.lookup e = some .globalImplicit) (hme : X.mg e = some (.ref CS)) (hde : (e == ("__debug__" : Str)) = false)
    (h0 : ∀ f : Addr, (L2.start Ng [V.ref f])[0]? = some (some (V.ref f))) :
    GivesTo X Ng x sg g cdg [.Try [.Return (some (.Tuple [.Constant (.str yes) j2 p9, .Call (.Name a p1) [] [] p2] k p10)) p3] [.ExceptHandler (some (.Name e p4)) none [.Return (some (.Tuple [.Constant (.str no) j p5] k2 p11)) p6] p7] [] [] p8] a q (TTup X.K CS yes no) := by
  intro f c' s H Q tl act hc h
  let Z := (cxOf C8.CX0 X.prog X.w X.K X.mg X.base Ng x sg g cdg X.A X.stack s H C8.E0).nox
  have hgl : Gl Z e := hge
  have hsuite : ∀ (a : Addr) (pn : List (Addr × Obj)), PSs (Z.suite a pn) [.Return (some (.Tuple [.Constant (.str no) j p5] k2 p11)) p6] (tRet (tTup (tCons (tC (.str no)) tNil))) := fun a pn => pss_one (ps_ret (pe_tup (pa_cons pe_str pa_nil)))
  refine ⟨_, pss_one (ps_try_only (X := Z) (c := .ref CS)
      (tb := fun W D σ H => ∃ Ech : XK, (∀ cls d σ' H', Ech cls d H' → W cls d σ' H') ∧ σ[0]? = some (some (.ref f)) ∧ H c' = some (CodeO c' q) ∧ tl Ech H fun v H1 => [V.str yes, v].length ≤ sizeLine ∧ ∀ p, H1 p = none → D.rt (.ref p) (upd H1 p (.tup [.str yes, v])))
      rfl rfl ⟨hgl, hde, .inl hme⟩ LamX.takes0 (fun W pn xe tk _ => ?_) (fun a oe cls d pn _ _ => hsuite a _)), ?_⟩
  · refine ⟨fun pins s' σ H' D I h' => ?_⟩
    obtain ⟨Ech, hW, h1, h2, h3⟩ := h'
    have hp := act W pn xe Ech p1 p2 tk hW
    have hq := pss_one (ps_ret (pos := p3) (pe_tup (x1 := k) (pos := p10) (pa_cons (pe_str (x := yes) (j := j2) (pos := p9)) (pa_cons hp pa_nil))))
    exact hq.run pins s' σ H' D I ⟨h1, h2, h3⟩
  · exact ⟨fun cls _ H' => ∃ b, PySem.W.exmOne X.K cls (.ref CS) = some b ∧ (b = true → ∀ p, H' p = none → Q (.ref p) (upd H' p (.tup [.str no]))) ∧ (b = false → False), fun cls d σ' H' ⟨b, e1, e2, e3⟩ => ⟨b, e1, fun hb a _ => ⟨by show 1 ≤ sizeLine; decide, fun p hp => e2 hb p hp⟩, fun hb => e3 hb⟩, h0 f, hc, h⟩
/-- what is told of an exception -/
def HsOk (K : PySem.W.Frag) (A : Ad) (CS : Addr) (no : Str) (hs : List (Str × D)) : Prop := ∀ c d, lookupEx c hs = some d → PySem.W.exmOne K (.ref (A c)) (.ref CS) = some true ∧ d = .tuple [.str no]
theorem heard_sound {CS : Addr} {no : Str} {hs : List (Str × D)} {ev : Env → Res (R × Env)} {Q : VK} (ho : HsOk K A CS no hs) (h : RdE K A Wx (heardEv hs ev) σ H Q) :
    tLam A.T (TTup K CS "told" no) (fun E => RdE K A (fun cls d _ H => E cls d H) ev) σ H Q := by
  obtain ⟨B, ρ, T, ⟨F, O, S0⟩, g⟩ := h
  refine ⟨S0.tb.tb, fun H1 e t => ?_⟩
  have S := S0.extN e t
  refine ⟨blkB H1 F O (wipe σ []), wipeE ρ [], [], ⟨F, _, S.enter []⟩, ?_⟩
  simp only [heardEv] at g
  cases q : ev (wipeE ρ []) with
  | stuck => simp only [q] at g; exact (show False from g).elim
  | ex c ρx =>
    simp only [q] at g
    unfold Gd
    intro H2 ⟨F2, O2, S2⟩
    cases ql : lookupEx c hs with
    | none => simp only [ql] at g; exact (show False from g).elim
    | some d =>
      simp only [ql] at g
      obtain ⟨e1, e2⟩ := ho c d ql
      subst e2
      refine ⟨true, e1, fun _ p hp => ?_, fun z => by cases z⟩
      obtain ⟨F3, O3, S3⟩ := S.leave (own := []) (r := .d .none) (v := .non) (Sep.push (T := []) S2 .non) fun i z => nomatch z
      exact g _ _ (S3.drop.newTup hp (.cons (.str _) .nil))
  | ok z =>
    obtain ⟨r, ρ1⟩ := z
    simp only [q] at g
    intro v H2 ⟨F2, O2, S2⟩
    refine ⟨show 2 ≤ sizeLine by decide, fun p hp => ?_⟩
    cases qk : r.keep ρ1 with
    | none => simp only [qk] at g; exact (show False from g).elim
    | some z =>
      obtain ⟨y, ρ2⟩ := z
      simp only [qk] at g
      obtain ⟨F3, O3, S3, _⟩ := Sep.keepTop (T := []) S2 qk
      obtain ⟨F4, O4, S4⟩ := S.leave (own := []) S3 fun i z => nomatch z
      have dv : Dq K F4 v y := S4.top
      exact g _ _ (S4.drop.newTup hp (.cons (.str _) (.cons dv .nil)))
end
end Mn
set_option Elab.async false
set_option linter.all false
set_option maxRecDepth 100000
set_option maxHeartbeats 4000000
namespace Mn
open PySem PySem.Spec PyProof.Rows L2
/-! ## sets of tuples of ints and texts -/
abbrev kTup (P : Program) (w : World) (h : Heap) (k : List Key) (b : Addr) : Prop := IsTupleKey (mixKind P w) h k b
abbrev kHash (P : Program) (w : World) (k : List Key) : Int := tupleKeyHash (mixKind P w) k
/-- the c-th place that a search for the hash z looks at -/
abbrev spot (t : SetTable) (z : Int) (c : Nat) : Nat := way t.mask z c
abbrev prb (t : SetTable) (z : Int) (c : Nat) : SetTable.Probe := nth t.mask (runAt t.mask (SetTable.bits z % (t.mask + 1)) (SetTable.bits z)) c
section
variable {P : Program} {w : World} {A : Around} {E : Value → Shared → Prop} {s : Shared}
theorem mix_cases {k : List Key} {vs : List Value} (h : ItemsAre (mixKind P w) k vs) : ∀ v, v ∈ vs → (∃ i t, v = Value.int i t) ∨ ∃ x t, v = Value.str x t := by
  induction h with
  | nil => intro v hv; cases hv
  | cons h1 _ ih =>
    intro v hv
    rcases List.mem_cons.mp hv with rfl | hv
    · rcases keyIs_shape h1 with ⟨i, t, _, e⟩ | ⟨x, t, _, e⟩
      · exact .inl ⟨i, t, e⟩
      · exact .inr ⟨x, t, e⟩
    · exact ih v hv
theorem mix_class (n : Nat) {v : Value} (h : (∃ i t, v = Value.int i t) ∨ ∃ x t, v = Value.str x t) : ofAClassStatement n v = pure false := by
  rcases h with ⟨i, t, rfl⟩ | ⟨x, t, rfl⟩ <;> cases n <;> rfl
theorem mix_hash (n : Nat) {v : Value} (h : (∃ i t, v = Value.int i t) ∨ ∃ x t, v = Value.str x t) : ∃ b, hashByValue n v = pure b := by
  rcases h with ⟨i, t, rfl⟩ | ⟨x, t, rfl⟩
  · exact ⟨true, by cases n <;> rfl⟩
  · exact ⟨false, by cases n <;> rfl⟩
theorem kTup_class {k : List Key} {b : Addr} {Q : Bool → Shared → Prop} (x : kTup P w s.heap k b) (q : Q false s) : wpAny (model P w) A (ofAClassStatement 8 (.ref b)) Q E s := by
  have ty := x.typeIs
  obtain ⟨ob, its, m, e1, _, e2, e3⟩ := x
  unfold ofAClassStatement
  refine wpAny_bind (wpAny_typeOf ty ?_)
  dsimp only
  have tt : (("tuple" : String) == "tuple") = true := by decide
  simp only [tt, if_true, Bool.not_true, Bool.false_eq_true, if_false]
  first
    | (refine wpAny_bind (wpAny_pure ?_); simp only [Bool.not_true, Bool.false_eq_true, if_false])
    | skip
  show wpAny _ _ (seqItems? (.ref b) >>= _) _ _ s
  refine wpAny_bind (wpAny_seqItems e1 e2 ?_)
  dsimp only
  refine wpAny_bind ?_
  show wpAny _ _ (forIn its _ _) _ _ s
  rw [← Array.forIn_toList]
  refine wpAny_forIn_list _ (fun left r s' => r.1 = none ∧ s' = s ∧ ∀ v, v ∈ left → (∃ i t, v = Value.int i t) ∨ ∃ x t, v = Value.str x t) _ ?_ ?_ _ _ ⟨rfl, rfl, mix_cases e3⟩
  · rintro v left r s' ⟨z1, rfl, z2⟩
    rw [mix_class 7 (z2 v List.mem_cons_self)]
    refine wpAny_bind (wpAny_pure ?_)
    simp only [Bool.false_eq_true, if_false]
    exact wpAny_pure ⟨rfl, rfl, fun u hu => z2 u (List.mem_cons_of_mem _ hu)⟩
  · rintro ⟨r1, r2⟩ s' ⟨z1, rfl, _⟩
    simp only at z1
    subst z1
    exact wpAny_pure q
/-- whether its hash hangs on the run: whatever -/
theorem kTup_byVal {k : List Key} {b : Addr} {Q : Bool → Shared → Prop} (x : kTup P w s.heap k b) (q : ∀ c, Q c s) : wpAny (model P w) A (hashByValue 8 (.ref b)) Q E s := by
  have ty := x.typeIs
  obtain ⟨ob, its, m, e1, _, e2, e3⟩ := x
  unfold hashByValue
  refine wpAny_bind (wpAny_specialOf ty F.slot_tuple_hash.lookup ?_)
  show wpAny _ _ (seqItems? (.ref b) >>= _) _ _ s
  refine wpAny_bind (wpAny_seqItems e1 e2 ?_)
  refine wpAny_bind ?_
  show wpAny _ _ (forIn its _ _) _ _ s
  rw [← Array.forIn_toList]
  refine wpAny_forIn_list _ (fun left r s' => s' = s ∧ r.1 = none ∧ ∀ v, v ∈ left → (∃ i t, v = Value.int i t) ∨ ∃ x t, v = Value.str x t) _ ?_ ?_ _ _ ⟨rfl, rfl, mix_cases e3⟩
  · rintro v left r s' ⟨rfl, z1, z2⟩
    obtain ⟨c, hc⟩ := mix_hash 7 (z2 v List.mem_cons_self)
    rw [hc]
    refine wpAny_bind (wpAny_pure ?_)
    cases c with
    | true =>
      simp only [Bool.not_true, Bool.false_eq_true, if_false]
      exact wpAny_pure ⟨rfl, rfl, fun u hu => z2 u (List.mem_cons_of_mem _ hu)⟩
    | false =>
      simp only [Bool.not_false, if_true]
      exact wpAny_pure (wpAny_pure (q false))
  · rintro ⟨r1, r2⟩ s' ⟨rfl, z1, _⟩
    simp only at z1
    subst z1
    exact wpAny_pure (q _)
/-- a search among such tuples shows nothing of the table -/
theorem kTup_seen {k : List Key} {b : Addr} {Q : Bool → Shared → Prop} (x : kTup P w s.heap k b) {ys : List Value} (hy : ∀ y, y ∈ ys → ∃ m c, y = Value.ref c ∧ kTup P w s.heap m c) (q : Q false s) : wpAny (model P w) A (searchCouldBeSeen (.ref b) ys) Q E s := by
  unfold searchCouldBeSeen
  refine wpAny_bind ?_
  refine wpAny_forIn_list _ (fun left r s' => r.1 = none ∧ s' = s ∧ ∀ y, y ∈ left → ∃ m c, y = Value.ref c ∧ kTup P w s.heap m c) _ ?_ ?_ _ _ ⟨rfl, rfl, hy⟩
  · rintro y left r s' ⟨z1, rfl, z2⟩
    obtain ⟨m, c, rfl, xc⟩ := z2 y List.mem_cons_self
    have more := fun u (hu : u ∈ left) => z2 u (List.mem_cons_of_mem _ hu)
    dsimp only
    by_cases same : (b == c || (carriedByValue (.ref b) && carriedByValue (.ref c))) = true
    · exact wp_if_pos same (wpAny_pure ⟨rfl, rfl, more⟩)
    · refine wp_if_neg same (wpAny_bind (wpAny_eqIsQuiet_tuple x ?_))
      simp only [Bool.not_true, Bool.false_eq_true, if_false]
      refine wpAny_bind (wpAny_eqIsQuiet_tuple xc ?_)
      simp only [Bool.not_true, Bool.false_eq_true, if_false]
      refine wpAny_bind (kTup_class x ?_)
      simp only [Bool.false_eq_true, if_false]
      refine wpAny_bind (kTup_class xc ?_)
      simp only [Bool.false_eq_true, if_false]
      exact wpAny_pure ⟨rfl, rfl, more⟩
  · rintro ⟨r1, r2⟩ s' ⟨z1, rfl, _⟩
    simp only at z1
    subst z1
    exact wpAny_pure q
/-! ### the set -/
abbrev Rows := List (Addr × List Key)
def rowV (P : Program) (w : World) (L : Rows) : List (Int × Value) := L.map fun p => (kHash P w p.2, Value.ref p.1)
structure KSet (P : Program) (w : World) (h : Heap) (a : Addr) (L : Rows) (es : Array (Int × Value)) (ep : Nat) (t : SetTable) : Prop where
  obj : ∃ o, h.get? a = some o ∧ o.ExactSet ∧ o.data = .set es ep t
  ent : es.toList = rowV P w L
  tab : TabOk t (L.map fun p => kHash P w p.2)
  nod : (L.map (·.2)).Nodup
  tup : ∀ p, p ∈ L → kTup P w h p.2 p.1
  led : w.params.followText "set-order" = true ∨ t.led = true
  room : L.length * 5 < t.mask * 3
  few : L.length < 64
variable {a : Addr} {L : Rows} {es : Array (Int × Value)} {ep : Nat} {t : SetTable}
theorem rowV_size (h : es.toList = rowV P w L) : es.size = L.length := by
  have := congrArg List.length h
  simpa [rowV] using this
theorem KSet.size (R : KSet P w s.heap a L es ep t) : es.size = L.length := rowV_size R.ent
theorem fits_of {n : Nat} (T : TabOk t (L.map fun p => kHash P w p.2)) (hn : n = L.length) (hm : L.length ≤ t.mask) : t.fits n = true := by
  have h1 := T.sz
  rw [List.length_map] at h1
  subst hn
  simp only [SetTable.fits, SetTable.fill, T.dm, Bool.and_eq_true, beq_iff_eq, decide_eq_true_eq]
  show t.place.size = L.length ∧ t.place.size + 0 ≤ t.mask
  omega
theorem KSet.fits (R : KSet P w s.heap a L es ep t) : t.fits es.size = true := fits_of R.tab R.size (by have := R.room; omega)
theorem KSet.row (R : KSet P w s.heap a L es ep t) {i : Nat} {p : Addr × List Key} (h : L[i]? = some p) : es[i]? = some (kHash P w p.2, Value.ref p.1) := by
  rw [← Array.getElem?_toList, R.ent]
  simp [rowV, h]
theorem KSet.here (R : KSet P w s.heap a L es ep t) : ¬ t.gaveWay = true := by
  unfold SetTable.gaveWay
  rw [mask_odd R.tab.mok]
  decide
theorem prb_dummy (z : Int) : ∀ c, (prb t z c).dummy = none := by
  have go : ∀ (n : Nat) (p : SetTable.Probe), p.dummy = none → (nth t.mask p n).dummy = none := by
    intro n
    induction n with
    | zero => exact fun p h => h
    | succ n ih => exact fun p h => ih _ (by unfold adv; split <;> exact h)
  exact fun c => go c _ rfl
theorem prb_add (z : Int) (c q : Nat) : nth t.mask (prb t z c) q = prb t z (c + q) := (nth_add t.mask c _ q).symm
/-- the search, from its c-th step on; K: the first empty place on its way -/
theorem KSet.find (R : KSet P w s.heap a L es ep t) {x : Addr} {k : List Key} (hx : kTup P w s.heap k x) (hu : A.units < cLine) {K : Nat} (hKf : K < 10 * SetTable.turns t.mask) (hK : spot t (kHash P w k) K ∉ t.place.toList) (hKb : ∀ c, c < K → spot t (kHash P w k) c ∈ t.place.toList)
    {Q : SetFound → Shared → Prop} (hin : k ∈ L.map (·.2) → Q (.there none) s) (hout : k ∉ L.map (·.2) → Q (.free (spot t (kHash P w k) K) false) s) :
    ∀ (fuel c : Nat) (at_ : Option SetTable.Probe), at_.getD (t.probeStart (kHash P w k)) = prb t (kHash P w k) c → c ≤ K → K - c < fuel → (∀ (i : Nat) p, L[i]? = some p → p.2 = k → ∃ d, c ≤ d ∧ d < K ∧ t.place.toList[i]? = some (spot t (kHash P w k) d)) →
      wpAny (model P w) A (setSearchFrom a (.ref x) (kHash P w k) true fuel at_) Q E s
  | 0, c, at_, _, _, hf, _ => absurd hf (Nat.not_lt_zero _)
  | fuel + 1, c, at_, hst, hc, hf, hre => by
    obtain ⟨o, ho, hex, hd⟩ := R.obj
    generalize hz : kHash P w k = z at *
    have hj : ∀ q, (nth t.mask (prb t z c) q).j = spot t z (c + q) := fun q => congrArg SetTable.Probe.j (prb_add z c q)
    have hs : ∀ (i : Nat) p, L[i]? = some p → (es[i]?.map (·.1)).getD 0 = kHash P w p.2 := fun i p hp => by rw [R.row hp]; rfl
    have spec := go_spec t R.tab.ris R.tab.dm (fun i => (es[i]?.map (·.1)).getD 0) z (10 * SetTable.turns t.mask) (K - c) (prb t z c) (prb_dummy z c) (by omega) (fun q hq => by rw [hj]; exact hKb (c + q) (by omega)) (by rw [hj, show c + (K - c) = K by omega]; exact hK)
    rw [setSearchFrom_succ]
    refine wpAny_bind (wpAny_setState_of ho hd R.fits ?_)
    dsimp only
    refine wp_if_neg R.here ?_
    first
      | refine wpAny_bind (wpAny_pure ?_)
      | skip
    rw [hst]
    rcases spec with ⟨q, i, hq, hi, hh, hno, hpr⟩ | ⟨hno, hpr⟩
    · rw [show t.probe (fun i => (es[i]?.map (·.1)).getD 0) z (prb t z c) = some (.candidate (spot t z (c + q)) i (prb t z (c + (q + 1)))) from by rw [← hj, ← prb_add]; exact hpr]
      dsimp only
      rw [hj] at hi
      have hil : i < L.length := by
        have h1 := (List.getElem?_eq_some_iff.mp hi).1
        have h2 := R.tab.sz
        rw [List.length_map] at h2
        rw [Array.length_toList] at h1
        omega
      obtain ⟨p, hp⟩ : ∃ p, L[i]? = some p := ⟨_, List.getElem?_eq_getElem hil⟩
      have hmem : p ∈ L := List.mem_of_getElem? hp
      have next : wpAny (model P w) A (searchRest a (.ref x) z true fuel es t (spot t z (c + q)) i (prb t z (c + (q + 1)))) Q E s := by
        unfold searchRest
        rw [R.row hp]
        dsimp only
        refine wpAny_bind (wpAny_holding (wpAny_eqBool_tuple hu (R.tup p hmem) hx ?_))
        refine wpAny_bind (wpAny_setState_of ho hd R.fits ?_)
        dsimp only
        by_cases eq : p.2 = k
        · exact wp_if_pos (by simp [eq]) (wpAny_pure (hin (List.mem_map.mpr ⟨p, hmem, eq⟩)))
        · refine wp_if_neg (by simp [eq]) ?_
          first
            | refine wpAny_bind (wpAny_pure ?_)
            | skip
          rw [sameMem]
          dsimp only
          have live : t.slot (spot t z (c + q)) = .live i := slot_live R.tab.ris hi
          simp only [if_true, live, R.row hp]
          refine wpAny_bind (wpAny_isSame_ref_self (wpAny_bind (wpAny_pure ?_)))
          simp only [if_true]
          refine wp_if_neg (by simp [eq]) ?_
          subst hz
          refine R.find hx hu hKf hK hKb hin hout fuel (c + (q + 1)) _ rfl (by omega) (by omega) fun i' p' h' e' => ?_
          obtain ⟨d, d1, d2, d3⟩ := hre i' p' h' e'
          refine ⟨d, ?_, d2, d3⟩
          rcases Nat.lt_trichotomy d (c + q) with lt | ed | gt
          · exact absurd ((hs i' p' h').trans (by rw [e'])) (hno (d - c) i' (by omega) (by rw [hj, show c + (d - c) = d by omega]; exact d3))
          · rw [ed] at d3
            have live' := slot_live R.tab.ris d3
            rw [live] at live'
            injection live' with ei
            subst ei
            rw [hp] at h'
            cases h'
            exact absurd e' eq
          · omega
      cases led : t.led with
      | true => exact wp_if_neg (by simp) next
      | false =>
        refine wp_if_pos (by simp) (wpAny_bind (kTup_seen hx (fun y hy => ?_) (wp_if_neg (by decide) ?_)))
        · simp only [List.mem_map, Array.mem_toList_iff, Array.mem_filter] at hy
          obtain ⟨e, ⟨he, _⟩, rfl⟩ := hy
          have he2 : e ∈ es.toList := Array.mem_toList_iff.mpr he
          rw [R.ent] at he2
          obtain ⟨p2, hp2, rfl⟩ := List.mem_map.mp he2
          exact ⟨p2.2, p2.1, rfl, R.tup p2 hp2⟩
        · exact next
    · rw [show t.probe (fun i => (es[i]?.map (·.1)).getD 0) z (prb t z c) = some (.empty (spot t z K) none) from by
        rw [show spot t z K = (nth t.mask (prb t z c) (K - c)).j from by rw [hj, show c + (K - c) = K by omega]]
        exact hpr]
      dsimp only
      refine wpAny_pure (hout fun hm => ?_)
      obtain ⟨p', hp', e'⟩ := List.mem_map.mp hm
      obtain ⟨i', hi', rfl⟩ := List.getElem_of_mem hp'
      obtain ⟨d, d1, d2, d3⟩ := hre i' _ (List.getElem?_eq_getElem hi') e'
      exact hno (d - c) i' (by omega) (by rw [hj, show c + (d - c) = d by omega]; exact d3) ((hs i' _ (List.getElem?_eq_getElem hi')).trans (by rw [e', hz]))
end
end Mn
set_option Elab.async false
set_option linter.all false
set_option maxRecDepth 100000
set_option maxHeartbeats 4000000
namespace Mn
open PySem PySem.Spec PyProof.Rows L2
section
variable {P : Program} {w : World} {A : Around} {E : Value → Shared → Prop} {s : Shared} {a : Addr} {L : Rows} {es : Array (Int × Value)} {ep : Nat} {t : SetTable}
theorem KSet.search (R : KSet P w s.heap a L es ep t) {x : Addr} {k : List Key} (hx : kTup P w s.heap k x) (hu : A.units < cLine) {Q : SetFound → Shared → Prop} (hin : k ∈ L.map (·.2) → Q (.there none) s)
    (hout : ∀ K, k ∉ L.map (·.2) → spot t (kHash P w k) K ∉ t.place.toList → (∀ c, c < K → spot t (kHash P w k) c ∈ t.place.toList) → Q (.free (spot t (kHash P w k) K) false) s) :
    wpAny (model P w) A (setSearch a (.ref x) (kHash P w k) true) Q E s := by
  obtain ⟨K, hKf, hK, hKb⟩ := R.tab.first (by rw [List.length_map]; have := R.room; omega) (kHash P w k)
  have small : 10 * SetTable.turns t.mask ≤ 1420 := by
    unfold SetTable.turns
    rcases R.tab.mok with e | e | e <;> omega
  unfold setSearch
  refine R.find hx hu hKf hK hKb hin (fun hn => hout K hn hK hKb) 100000 0 none rfl (Nat.zero_le _) (by omega) fun i p hp e => ?_
  have h1 : i < L.length := (List.getElem?_eq_some_iff.mp hp).1
  have h2 := R.tab.sz
  rw [List.length_map] at h2
  have hil : i < t.place.toList.length := by rw [Array.length_toList]; omega
  obtain ⟨c, hc, ec⟩ := R.tab.before (h := kHash P w k) hK (i := i) (by rw [List.getElem?_map, hp, ← e]; rfl) (List.getElem?_eq_getElem hil)
  exact ⟨c, Nat.zero_le _, hc, (List.getElem?_eq_getElem hil).trans (congrArg some ec.symm)⟩
/-- what is written at the set's address does not touch the tuples -/
theorem kTup_other {h h' : Heap} {k : List Key} {b : Addr} {o : Obj} (x : kTup P w h k b) (ho : h.get? a = some o) (hd : o.data = .set es ep t) (hs : Heap.SameBut a h h') : kTup P w h' k b := by
  obtain ⟨ob, its, m, e1, e2, e3, e4⟩ := x
  have ne : b ≠ a := fun z => by
    subst z
    rw [e1] at ho
    cases ho
    rw [hd] at e3
    cases e3
  exact ⟨ob, its, m, (hs.2 b ne).trans e1, e2, e3, e4⟩
theorem kTup_keep {h h' : Heap} {k : List Key} {b : Addr} (x : kTup P w h k b) (kp : ∀ c o, h.get? c = some o → h'.get? c = some o) : kTup P w h' k b := by
  obtain ⟨ob, its, m, e1, r⟩ := x
  exact ⟨ob, its, m, kp b ob e1, r⟩
theorem KSet.keep {h h' : Heap} (R : KSet P w h a L es ep t) (ha : ∀ o, h.get? a = some o → h'.get? a = some o) (ht : ∀ p, p ∈ L → kTup P w h' p.2 p.1) : KSet P w h' a L es ep t := by
  obtain ⟨o, ho, r⟩ := R.obj
  exact ⟨⟨o, ha o ho, r⟩, R.ent, R.tab, R.nod, ht, R.led, R.room, R.few⟩
/-- rows taken in another order -/
theorem rows_order (he : es.toList = rowV P w L) {order : Array Nat} (hp : order.toList.Perm (List.range L.length)) :
    ∃ L2 : Rows, (order.filterMap (es[·]?)).toList = rowV P w L2 ∧ L2.Perm L ∧ (L2.map fun p => kHash P w p.2) = order.toList.map fun i => (es.map (·.1)).getD i 0 := by
  have sz := rowV_size he
  have at_ : ∀ (i : Nat) (p : Addr × List Key), L[i]? = some p → es[i]? = some (kHash P w p.2, Value.ref p.1) := fun i p hp => by
    rw [← Array.getElem?_toList, he]
    simp [rowV, hp]
  have each : ∀ l : List Nat, (∀ i, i ∈ l → i < L.length) → l.filterMap (fun i => es[i]?) = rowV P w (l.filterMap fun i => L[i]?) ∧ ((l.filterMap fun i => L[i]?).map fun p => kHash P w p.2) = l.map fun i => (es.map (·.1)).getD i 0 := by
    intro l
    induction l with
    | nil => exact fun _ => ⟨rfl, rfl⟩
    | cons i l ih =>
      intro hl
      obtain ⟨h1, h2⟩ := ih fun j hj => hl j (List.mem_cons_of_mem _ hj)
      obtain ⟨p, hi⟩ : ∃ p, L[i]? = some p := ⟨_, List.getElem?_eq_getElem (hl i List.mem_cons_self)⟩
      have ei := at_ i _ hi
      refine ⟨?_, ?_⟩
      · rw [List.filterMap_cons_some ei, List.filterMap_cons_some hi, h1]
        rfl
      · rw [List.filterMap_cons_some hi, List.map_cons, List.map_cons, h2]
        congr 1
        simp [Array.getD_eq_getD_getElem?, ei]
  obtain ⟨g1, g2⟩ := each order.toList fun i hi => List.mem_range.mp (hp.mem_iff.mp hi)
  refine ⟨order.toList.filterMap fun i => L[i]?, by simpa using g1, ?_, g2⟩
  have all : ∀ n, n ≤ L.length → (List.range n).filterMap (fun i => L[i]?) = L.take n := by
    intro n
    induction n with
    | zero => exact fun _ => rfl
    | succ n ih =>
      intro hn
      rw [List.range_succ, List.filterMap_append, ih (Nat.le_of_succ_le hn), List.take_succ, List.getElem?_eq_getElem hn, List.filterMap_cons_some (List.getElem?_eq_getElem hn)]
      rfl
  have := hp.filterMap fun i => L[i]?
  rw [all _ (Nat.le_refl _), List.take_length] at this
  exact this
/-- laid anew in a larger table -/
theorem kset_relay {o : Obj} (ho : s.heap.get? a = some o) (hex : o.ExactSet) (hd : o.data = .set es ep t) (he : es.toList = rowV P w L) (T : TabOk t (L.map fun p => kHash P w p.2)) (hm : L.length ≤ t.mask) (nod : (L.map (·.2)).Nodup) (tup : ∀ p, p ∈ L → kTup P w s.heap p.2 p.1)
    (led : w.params.followText "set-order" = true ∨ t.led = true) (few : L.length < 64) {want M : Nat} (h1 : SetTable.sizeAbove want - 1 = M) (h2 : MaskOk M) (h3 : SetTable.sizeAbove want ≤ 128) (h4 : L.length * 5 < M * 3) {Q : Unit → Shared → Prop}
    (q : ∀ h' L' es' ep' t', Heap.SameBut a s.heap h' → KSet P w h' a L' es' ep' t' → L'.Perm L → Q () { s with heap := h' }) : wpAny (model P w) A (setRelay a want) Q E s := by
  have sz := rowV_size he
  obtain ⟨t', order, e, hp, T', em, el, _, _⟩ := relaid_ok t (hs := es.map (·.1)) (wanted := want) h1 h2 (by rw [Array.size_map, sz]; omega)
  rw [Array.size_map, sz] at hp
  obtain ⟨L2, r1, r2, r3⟩ := rows_order he hp
  rw [← r3] at T'
  have s2 : (order.filterMap (es[·]?)).size = es.size := by rw [rowV_size r1, r2.length_eq, sz]
  rw [setRelay_eq]
  refine wpAny_bind (wpAny_setState_of ho hd (fits_of T sz hm) ?_)
  dsimp only
  refine wp_if_neg (by rw [sizeLine_eq]; omega) ?_
  first
    | refine wpAny_bind (wpAny_pure ?_)
    | skip
  rw [e]
  dsimp only
  refine wpAny_bind (wp_if_neg (by rw [s2]; simp) ?_)
  first
    | refine wpAny_bind (wpAny_pure ?_)
    | skip
  refine wpAny_pure ?_
  dsimp only
  refine wpAny_storeSet_of ho hd ?_ (by rw [s2, sz, sizeLine_eq]; omega)
  have sb : Heap.SameBut a s.heap (s.heap.update a (Obj.putSet (order.filterMap (es[·]?)) t')) := Heap.SameBut.update ..
  exact q _ L2 _ (ep + 1) t' sb ⟨⟨_, store_at ho hd, ⟨hex.1, hex.2.1, hex.2.2⟩, rfl⟩, r1, T', (r2.map (·.2)).nodup_iff.mpr nod, fun p hp => kTup_other (tup p (r2.mem_iff.mp hp)) ho hd sb, by rw [el]; exact led, by rw [r2.length_eq, em]; exact h4, by rw [r2.length_eq]; exact few⟩ r2
/-- one is put in -/
theorem KSet.add (R : KSet P w s.heap a L es ep t) {x : Addr} {k : List Key} (hx : kTup P w s.heap k x) (hu : A.units < cLine) (few : L.length + 1 < 64) {Q : Bool → Shared → Prop}
    (q : ∀ b h' L' es' ep' t', Heap.SameBut a s.heap h' → KSet P w h' a L' es' ep' t' → (k ∈ L.map (·.2) → L' = L) → (k ∉ L.map (·.2) → L'.Perm ((x, k) :: L)) → Q b { s with heap := h' }) : wpAny (model P w) A (setAddHashed a (.ref x) (kHash P w k)) Q E s := by
  obtain ⟨o, ho, hex, hd⟩ := R.obj
  have sz := R.size
  have room := R.room
  unfold setAddHashed
  refine wpAny_holding ?_
  rw [show (100000 : Nat) = 99999 + 1 from rfl, setAddHashedIn_succ]
  refine wpAny_bind (wpAny_setState_of ho hd R.fits ?_)
  dsimp only
  refine wp_if_neg (by simp [byScan, Value.scannable]) ?_
  first
    | refine wpAny_bind (wpAny_pure ?_)
    | skip
  refine wpAny_bind (R.search hx hu (fun hm => ?_) fun K hm hK hb => ?_)
  · dsimp only
    exact wpAny_pure (q false s.heap L es ep t (Heap.SameBut.refl a s.heap) R (fun _ => rfl) fun z => absurd hm z)
  · dsimp only
    refine wpAny_bind (wpAny_setState_of ho hd R.fits ?_)
    dsimp only
    obtain ⟨q1, q2, q3, q4, q5, q6, _, _, q9⟩ := R.tab.put hK hb
    generalize hpt : t.put (spot t (kHash P w k) K) = pt at q1 q3 q4 q5 q6 q9 ⊢
    obtain ⟨t1, p⟩ := pt
    dsimp only at q1 q3 q4 q5 q6 q9 ⊢
    subst q1
    -- whatever its hash hangs on: the table but for that word
    have rest : ∀ t2 : SetTable, t2.place = t1.place → t2.dummies = t1.dummies → t2.mask = t1.mask → t2.led = t1.led →
        wpAny (model P w) A (do
          storeSet a (SetTable.insertAt es (SetTable.below t.place (spot t (kHash P w k) K)) (kHash P w k, Value.ref x)) t2
          if !false && t2.tooFull then setRelay a (SetTable.grown (es.size + 1))
          return true) Q E s := fun t2 g1 g2 g3 g4 => by
      have hin : (SetTable.insertAt es (SetTable.below t.place (spot t (kHash P w k) K)) (kHash P w k, Value.ref x)).toList = rowV P w (L.take (SetTable.below t.place (spot t (kHash P w k) K)) ++ (x, k) :: L.drop (SetTable.below t.place (spot t (kHash P w k) K))) := by
        rw [SetTable.toList_insertAt, R.ent]
        simp [rowV]
      generalize SetTable.below t.place (spot t (kHash P w k) K) = i at q2 q3 hin ⊢
      have pm : (L.take i ++ (x, k) :: L.drop i).Perm ((x, k) :: L) := by
        have := List.perm_middle (l₁ := L.take i) (a := (x, k)) (l₂ := L.drop i)
        rwa [List.take_append_drop] at this
      have T1 : TabOk t2 ((L.take i ++ (x, k) :: L.drop i).map fun p => kHash P w p.2) := by
        have e : ((L.take i ++ (x, k) :: L.drop i).map fun p => kHash P w p.2) = (L.map fun p => kHash P w p.2).take i ++ kHash P w k :: (L.map fun p => kHash P w p.2).drop i := by simp
        rw [e]
        obtain ⟨a1, a2, a3, a4, a5, a6⟩ := q3
        refine ⟨by rw [g1]; exact a1, by rw [g2]; exact a2, by rw [g1]; exact a3, by rw [g3]; exact a4, by rw [g1, g3]; exact a5, ?_⟩
        rw [g1, g3]
        exact a6
      have tf : t2.tooFull = t1.tooFull := by simp [SetTable.tooFull, SetTable.fill, g1, g2, g3]
      generalize hes : SetTable.insertAt es i (kHash P w k, Value.ref x) = es1 at hin ⊢
      generalize L.take i ++ (x, k) :: L.drop i = L1 at pm hin T1
      have len : L1.length = L.length + 1 := pm.length_eq
      have sz1 : es1.size = L.length + 1 := (rowV_size hin).trans len
      have nod1 : (L1.map (·.2)).Nodup := (pm.map (·.2)).nodup_iff.mpr (by rw [List.map_cons]; exact List.nodup_cons.mpr ⟨hm, R.nod⟩)
      refine wpAny_bind (wpAny_storeSet_of ho hd ?_ (by rw [sz1, sizeLine_eq]; omega))
      have sb : Heap.SameBut a s.heap (s.heap.update a (Obj.putSet es1 t2)) := Heap.SameBut.update ..
      have ho1 := store_at (es' := es1) (t' := t2) ho hd
      generalize s.heap.update a (Obj.putSet es1 t2) = h1 at sb ho1 ⊢
      have tup1 : ∀ p, p ∈ L1 → kTup P w h1 p.2 p.1 := fun p hp => by
        rcases List.mem_cons.mp (pm.mem_iff.mp hp) with rfl | hp
        · exact kTup_other hx ho hd sb
        · exact kTup_other (R.tup p hp) ho hd sb
      have led1 : w.params.followText "set-order" = true ∨ t2.led = true := by rw [g4, q5]; exact R.led
      have fill : t1.tooFull = decide ((L.length + 1) * 5 ≥ t1.mask * 3) := by
        unfold SetTable.tooFull
        rw [q9, List.length_map]
      by_cases full : t2.tooFull = true
      · have big : (L.length + 1) * 5 ≥ t.mask * 3 := by
          rw [tf, fill, decide_eq_true_eq, q4] at full
          exact full
        have two : (t.mask = 7 ∧ L.length = 4) ∨ (t.mask = 31 ∧ L.length = 18) := by
          rcases R.tab.mok with e | e | e
          · exact .inl ⟨e, by omega⟩
          · exact .inr ⟨e, by omega⟩
          · omega
        have m1 : L1.length ≤ t2.mask := by
          rw [g3, q4, len]
          rcases two with ⟨e, e2⟩ | ⟨e, e2⟩ <;> omega
        have go : ∀ M, SetTable.sizeAbove (SetTable.grown (es.size + 1)) - 1 = M → MaskOk M → SetTable.sizeAbove (SetTable.grown (es.size + 1)) ≤ 128 → L1.length * 5 < M * 3 →
            wpAny (model P w) A (setRelay a (SetTable.grown (es.size + 1))) (fun _ s' => wpAny (model P w) A (pure true) Q E s') E { s with heap := h1 } := fun M b1 b2 b3 b4 =>
          kset_relay (s := { s with heap := h1 }) ho1 ⟨hex.1, hex.2.1, hex.2.2⟩ rfl hin T1 m1 nod1 tup1 led1 (by rw [len]; exact few) b1 b2 b3 b4 fun h2 L2 es2 ep2 t3 sb2 R2 pm2 =>
            wpAny_pure (q true h2 L2 es2 ep2 t3 (sb.trans sb2) R2 (fun z => absurd z hm) fun _ => pm2.trans pm)
        have run : wpAny (model P w) A (setRelay a (SetTable.grown (es.size + 1))) (fun _ s' => wpAny (model P w) A (pure true) Q E s') E { s with heap := h1 } := by
          rcases two with ⟨_, e2⟩ | ⟨_, e2⟩
          · exact go 31 (by rw [sz, e2, size_20]) (.inr (.inl rfl)) (by rw [sz, e2, size_20]; decide) (by omega)
          · exact go 127 (by rw [sz, e2, size_76]) (.inr (.inr rfl)) (by rw [sz, e2, size_76]; decide) (by omega)
        first
          | exact wpAny_bind (wp_if_pos (by simp [full]) run)
          | exact wp_if_pos (by simp [full]) (wpAny_bind run)
      · have fin : Q true { s with heap := h1 } := q true h1 L1 es1 (ep + 1) t2 sb ⟨⟨_, ho1, ⟨hex.1, hex.2.1, hex.2.2⟩, rfl⟩, hin, T1, nod1, tup1, led1, by
          rw [tf, fill, decide_eq_true_eq, q4] at full
          rw [len, g3, q4]
          omega, by rw [len]; exact few⟩ (fun z => absurd z hm) fun _ => pm
        first
          | exact wpAny_bind (wp_if_neg (by simp [full]) (wpAny_pure (wpAny_pure fin)))
          | exact wp_if_neg (by simp [full]) (wpAny_pure fin)
    have go : ∀ c : Bool, wpAny (model P w) A (do
          storeSet a (SetTable.insertAt es (SetTable.below t.place (spot t (kHash P w k) K)) (kHash P w k, Value.ref x)) (if c = true then t1 else { t1 with plain := false })
          if !false && (if c = true then t1 else { t1 with plain := false }).tooFull then setRelay a (SetTable.grown (es.size + 1))
          return true) Q E s := fun c => by
      cases c with
      | true => exact rest t1 rfl rfl rfl rfl
      | false => exact rest { t1 with plain := false } rfl rfl rfl rfl
    cases pl : t1.plain with
    | true =>
      first
        | exact wpAny_bind (wp_if_pos (by simp) (kTup_byVal hx fun c => go c))
        | exact wp_if_pos (by simp) (wpAny_bind (kTup_byVal hx fun c => go c))
    | false =>
      first
        | exact wpAny_bind (wp_if_neg (by simp) (wpAny_pure (go true)))
        | exact wp_if_neg (by simp) (wpAny_bind (wpAny_pure (go true)))
        | exact wp_if_neg (by simp) (go true)
end
end Mn
set_option Elab.async false
set_option linter.all false
set_option maxRecDepth 100000
set_option maxHeartbeats 4000000
namespace Mn
open PySem PySem.Spec PyProof.Rows L2
/-- what the set has of the first i items -/
structure Taken (ks : Rows) (i : Nat) (L : Rows) : Prop where
  sub : ∀ p, p ∈ L → p ∈ ks.take i
  all : ∀ p, p ∈ ks.take i → p.2 ∈ L.map (·.2)
  len : L.length ≤ i
theorem take_one {α : Type} {l : List α} {i : Nat} {x : α} (h : l[i]? = some x) : l.take (i + 1) = l.take i ++ [x] := by
  rw [List.take_succ, h]
  rfl
theorem Taken.old {ks L : Rows} {i : Nat} {x : Addr × List Key} (g : Taken ks i L) (h : ks[i]? = some x) (hm : x.2 ∈ L.map (·.2)) : Taken ks (i + 1) L := by
  refine ⟨fun p hp => ?_, fun p hp => ?_, Nat.le_succ_of_le g.len⟩ <;> rw [take_one h] at *
  · exact List.mem_append_left _ (g.sub p hp)
  · rcases List.mem_append.mp hp with z | z
    · exact g.all p z
    · cases List.mem_singleton.mp z
      exact hm
theorem Taken.new {ks L L' : Rows} {i : Nat} {x : Addr × List Key} (g : Taken ks i L) (h : ks[i]? = some x) (pm : L'.Perm (x :: L)) : Taken ks (i + 1) L' := by
  refine ⟨fun p hp => ?_, fun p hp => ?_, by rw [pm.length_eq]; exact Nat.succ_le_succ g.len⟩
  · rw [take_one h]
    exact (List.mem_cons.mp (pm.mem_iff.mp hp)).elim (fun z => List.mem_append_right _ (by rw [z]; exact List.mem_singleton_self x)) fun z => List.mem_append_left _ (g.sub p z)
  · rw [take_one h] at hp
    refine (pm.map (·.2)).mem_iff.mpr ?_
    rcases List.mem_append.mp hp with z | z
    · exact List.mem_cons_of_mem _ (g.all p z)
    · cases List.mem_singleton.mp z
      exact List.mem_cons_self
section
variable {P : Program} {w : World} {A : Around} {E : Value → Shared → Prop} {s : Shared} {a : Addr} {L : Rows} {es : Array (Int × Value)} {ep : Nat} {t : SetTable}
abbrev newSet (w : World) : Obj := { cls := .type "set", dict := none, data := .set #[] 0 (.fresh 0 0 (!w.params.followText "set-order")) }
theorem kset_empty {h : Heap} (ho : h.get? a = some (newSet w)) : KSet P w h a [] #[] 0 (.fresh 0 0 (!w.params.followText "set-order")) where
  obj := ⟨_, ho, ⟨rfl, rfl, rfl⟩, rfl⟩
  ent := rfl
  tab := ⟨List.Pairwise.nil, rfl, rfl, .inl rfl, fun x hx => (by cases hx), fun i h j hi => (by simp at hi)⟩
  nod := List.nodup_nil
  tup := fun p hp => (by cases hp)
  led := by cases h : w.params.followText "set-order" <;> simp [SetTable.fresh]
  room := show 0 * 5 < 7 * 3 by decide
  few := show 0 < 64 by decide
/-- the loop that puts in what an iterator gives -/
theorem kset_loop {I : Addr} {fp wr : List Addr} {G : Array GenState → Array GenState → Prop} {n : Nat} {Pv : Nat → Value → Prop} {St : Nat → Shared → Prop} {R : Result → Shared → Prop} (W : WalksS P w A.in1 I fp wr G n Pv St) (S : Addr) (nS : S ∉ fp) (ks : Rows) (hn : n = ks.length)
    (few : ks.length < 64) (val : ∀ i v, Pv i v → ∃ p, ks[i]? = some p ∧ v = .ref p.1) (h0 : Heap) (hk : ∀ p, p ∈ ks → kTup P w h0 p.2 p.1) (hS : h0.get? S = none) (hw : ∀ b, b ∈ wr → h0.get? b = none) (hu : A.in1.units < cLine) :
    ∀ (m i : Nat) (s : Shared), n - i = m → i ≤ n → St i s → (∀ b o, h0.get? b = some o → s.heap.get? b = some o) → (∃ L es ep t, KSet P w s.heap S L es ep t ∧ Taken ks i L) →
      (∀ s' L es ep t, Moved (S :: wr) G s s' → KSet P w s'.heap S L es ep t → Taken ks n L → (∀ b o, h0.get? b = some o → s'.heap.get? b = some o) → R (.ok (.ret .none)) s') →
      codeAny (model P w) A (.builtin "set.update.loop" ⟨[.ref S, .ref I], []⟩) R s := by
  have more : ∀ b, b ∈ wr → b ∈ S :: wr := fun b hb => List.mem_cons_of_mem _ hb
  have nSw : S ∉ wr := fun z => nS (W.sub _ z)
  have kp : ∀ {s s' : Shared}, Moved wr G s s' → (∀ b o, h0.get? b = some o → s.heap.get? b = some o) → ∀ b o, h0.get? b = some o → s'.heap.get? b = some o := fun mv k b o e => mv.heap b o (fun hb => by rw [hw b hb] at e; cases e) (k b o e)
  have inks : ∀ {i : Nat} {L : Rows}, Taken ks i L → ∀ p, p ∈ L → p ∈ ks := fun g p hp => List.mem_of_mem_take (g.sub p hp)
  intro m
  induction m with
  | zero =>
    intro i s hm hi hst k ⟨L, es, ep, t, R0, g⟩ fin
    cases (show i = n by omega)
    refine codeAny_builtin F.entry_set_update_loop ?_
    rw [Around.under_plainId F.plain_set_update_loop _]
    show wpAny _ A.in1 (pyNext (.ref I) >>= _) _ _ s
    refine wpAny_bind (W.done s _ _ hst fun s' mv => ?_)
    show wpAny _ A.in1 (ret Value.none) _ _ s'
    exact wpAny_pure (fin s' L es ep t (mv.mono more) (R0.keep (fun o e => mv.heap S o nSw e) fun p hp => kTup_keep (hk p (inks g p hp)) (kp mv k)) g (kp mv k))
  | succ m ih =>
    intro i s hm hi hst k ⟨L, es, ep, t, R0, g⟩ fin
    have lt : i < n := by omega
    refine codeAny_builtin F.entry_set_update_loop ?_
    rw [Around.under_plainId F.plain_set_update_loop _]
    show wpAny _ A.in1 (pyNext (.ref I) >>= _) _ _ s
    refine wpAny_bind (W.item i s _ _ lt hst fun v s' hv hst' mv => ?_)
    obtain ⟨p, hp, rfl⟩ := val i v hv
    have k' := kp mv k
    have R1 : KSet P w s'.heap S L es ep t := R0.keep (fun o e => mv.heap S o nSw e) fun q hq => kTup_keep (hk q (inks g q hq)) k'
    have hx : kTup P w s'.heap p.2 p.1 := kTup_keep (hk p (List.mem_of_getElem? hp)) k'
    show wpAny _ A.in1 (holding [Value.ref p.1] (setAdd S (.ref p.1)) >>= _) _ _ s'
    unfold setAdd
    refine wpAny_bind (wpAny_holding (wpAny_holding (wpAny_bind (wpAny_pyHash_tuple hu hx ?_))))
    refine KSet.add (s := { s' with toks := s'.toks + (p.2.length + 1) }) R1 hx hu (by have := g.len; omega) fun b h' L' es' ep' t' sb R2 c1 c2 => ?_
    have g' : Taken ks (i + 1) L' := (Classical.em (p.2 ∈ L.map (·.2))).elim (fun c => by rw [c1 c]; exact g.old hp c) fun c => g.new hp (c2 c)
    have k2 : ∀ b o, h0.get? b = some o → h'.get? b = some o := fun b o e => (sb.2 b (fun z => by rw [z, hS] at e; cases e)).trans (k' b o e)
    refine wpAny_pure ⟨plainId_quiet F.plain_set_update_loop _, ih (i + 1) _ (by omega) lt (W.frame _ s' _ _ hst' (Nat.le_add_right _ _) fun b hb o e => ?_) k2 ⟨L', es', ep', t', R2, g'⟩ fun s2 L2 es2 ep2 t2 mv2 R3 g2 k3 => ?_⟩
    · rw [sb.2 b (fun z : b = S => nS (by rw [← z]; exact hb))]
      exact e
    · refine fin s2 L2 es2 ep2 t2 (Moved.trans W.gtrans ((mv.mono more).then_heap (Nat.le_add_right _ _) fun b o hb e => ?_) mv2) R3 g2 k3
      rw [sb.2 b (fun z : b = S => hb (by rw [z]; exact List.mem_cons_self))]
      exact e
end
end Mn
set_option Elab.async false
set_option linter.all false
set_option maxRecDepth 100000
set_option maxHeartbeats 6400000
namespace Mn
open PySem PySem.Spec PyProof.Rows L2
section
variable {P : Program} {w : World} {A : Around} {E : Value → Shared → Prop} {s : Shared}
/-- set(xs), xs a list of such tuples -/
theorem kset_call {l : Addr} {its : Array Value} (ks : Rows) {Q : Value → Shared → Prop} (hh : A.handled = none) (hl : s.heap.IsList l its) (hit : its.toList = ks.map fun p => Value.ref p.1) (hk : ∀ p, p ∈ ks → kTup P w s.heap p.2 p.1) (few : ks.length < 64) (hu : A.units + 3 < cLine)
    (q : ∀ (h' : Heap) (tk : Nat) L es ep t, KSet P w h' s.heap.objs.size L es ep t → Taken ks ks.length L → (∀ b o, s.heap.get? b = some o → h'.get? b = some o) → Q (.ref s.heap.objs.size) { s with heap := h', toks := tk }) :
    wpAny (model P w) A (call (.type "set") [.ref l]) Q E s := by
  have sz : its.size = ks.length := by simpa using congrArg List.length hit
  obtain ⟨c, tl, hmro⟩ := F.called_set.mro
  have w1 := F.called_set.made
  have w2 := F.called_set.sub
  refine wpAny_call (codeAny_of_tree ?_)
  show wpAny _ _ (callAny (.type "set") _) _ _ _
  refine wpAny_pure ⟨Code.quiet_builtin _ (by decide +kernel), codeAny_builtin F.entry_type_call ?_⟩
  rw [Around.under_plain (weight_type_call_type "set" [.ref l] []) rfl]
  have w3 := F.called_set.notType
  have w4 := F.called_set.canCreate
  have w5 := F.typeCall_set_1 (.ref l)
  repeat any_goals first
    | assumption
    | wp_step
  refine codeAny_mono (code_set_led1 (.ref l) (E := E) (Q₁ := fun o s₁ => o = .ref s.heap.objs.size ∧ s₁ = { s with heap := s.heap.push (newSet w) }) ⟨rfl, rfl⟩) fun r s₁ hr => ?_
  match r, hr with
  | .error e, hr => exact hr
  | .ok .next, hr => exact (show False from hr).elim
  | .ok .brk, hr => exact (show False from hr).elim
  | .ok .cont, hr => exact (show False from hr).elim
  | .ok (.ret o), ⟨e1, e2⟩ =>
    subst e1 e2
    have hS : (s.heap.push (newSet w)).get? s.heap.objs.size = some (newSet w) := Heap.get?_push_size _ rfl
    have hT : Shared.TypeIs { s with heap := s.heap.push (newSet w) } (.ref s.heap.objs.size) "set" := ⟨_, hS, rfl⟩
    have w6 := F.called_set.init.lookup
    have w7 := F.called_set.init.bind (.ref s.heap.objs.size)
    repeat any_goals first
      | assumption
      | wp_step
    refine codeAny_mono (codeAny_call_builtin (R := wants (fun r s₂ => r = .none ∧ ∃ h' tk L es ep t, s₂ = { s with heap := h', toks := tk } ∧ KSet P w h' s.heap.objs.size L es ep t ∧ Taken ks ks.length L ∧ (∀ b o, s.heap.get? b = some o → h'.get? b = some o)) E)
      F.called_set.init.plain F.entry_set_init (check_set_init_1 hT ?_)) fun r₂ s₂ hr₂ => ?_
    · obtain ⟨ol, hol, hcl, nl, hdl⟩ := hl
      obtain ⟨oc, od, dt, osl⟩ := ol
      simp only at hcl hdl
      subst hcl hdl
      have old : (s.heap.push (newSet w)).get? l = some { cls := .type "list", dict := od, data := .seq its nl, slots := osl } := Heap.get?_push_of_some _ hol
      have w8 := F.sub_list_set
      have w9 := F.sub_list_frozenset
      have w10 : (Value.type "list" == Value.type "dict") = false := by decide
      have isl : (s.heap.push (newSet w)).IsList l its := ⟨_, old, rfl, nl, rfl⟩
      unfold Builtin.«set.__init__» noKeywords Builtin.Frozenset.updateFrom
      generalize hPI : pyIter = PI
      wp_walk
      subst hPI
      refine wpAny_pyIter_list isl (wpAny_bind (wpAny_runValue ?_))
      have lS : l < s.heap.objs.size := Heap.lt_size hol
      have e1 : (s.heap.push (newSet w)).objs.size = s.heap.objs.size + 1 := Heap.size_push ..
      have none_of : ∀ b, s.heap.objs.size ≤ b → s.heap.get? b = none := fun b hb => by
        cases z : s.heap.get? b with
        | none => rfl
        | some o => exact absurd (Heap.lt_size z) (Nat.not_lt.mpr hb)
      have nI : l ≠ (s.heap.push (newSet w)).objs.size := by rw [e1]; exact Nat.ne_of_lt (Nat.lt_succ_of_lt lS)
      have nf : s.heap.objs.size ∉ [(s.heap.push (newSet w)).objs.size, l] := by
        rw [e1]
        simp only [List.mem_cons, List.not_mem_nil, or_false, not_or]
        exact ⟨Nat.ne_of_lt (Nat.lt_succ_self _), Nat.ne_of_gt lS⟩
      have val : ∀ (i : Nat) (v : Value), its[i]? = some v → ∃ p, ks[i]? = some p ∧ v = .ref p.1 := fun i v hv => by
        rw [← Array.getElem?_toList, hit, List.getElem?_map] at hv
        cases z : ks[i]? with
        | none => rw [z] at hv; cases hv
        | some p => rw [z] at hv; exact ⟨p, rfl, (Option.some.inj hv).symm⟩
      refine kset_loop ((Walks.list (by simp [hh]) _ l nI its).toS) s.heap.objs.size nf ks sz few val s.heap hk (none_of _ (Nat.le_refl _)) (fun b hb => none_of b (by rw [List.mem_singleton.mp hb, e1]; omega)) hu (its.size - 0) 0 _ (by omega) (Nat.zero_le _)
        ⟨⟨_, Heap.get?_push_size _ rfl, rfl, rfl⟩, (isl.push _)⟩ (fun b o e => Heap.get?_push_of_some _ (Heap.get?_push_of_some _ e)) ⟨[], #[], 0, _, kset_empty (Heap.get?_push_of_some _ hS), ⟨fun p h => (by cases h), fun p h => (by simp at h), Nat.le_refl _⟩⟩ fun s' L es ep t mv R g kp => ?_
      obtain ⟨h', g2, d', tk', os'⟩ := s'
      cases (show g2 = s.gens from mv.gens)
      cases (show d' = s.drawn from mv.drawn)
      cases (show os' = s.os from mv.os)
      rw [sz] at g
      exact wpAny_pure (wpAny_pure ⟨rfl, h', tk', L, es, ep, t, rfl, R, g, kp⟩)
    · match r₂, hr₂ with
      | .error e, hr₂ => exact hr₂
      | .ok .next, hr₂ => exact (show False from hr₂).elim
      | .ok .brk, hr₂ => exact (show False from hr₂).elim
      | .ok .cont, hr₂ => exact (show False from hr₂).elim
      | .ok (.ret r), ⟨e1, h', tk, L, es, ep, t, e2, R, g, kp⟩ =>
        subst e1 e2
        repeat any_goals first
          | assumption
          | wp_step
        exact q _ _ _ _ _ _ R g kp
end
end Mn
set_option Elab.async false
set_option linter.all false
set_option maxRecDepth 100000
set_option maxHeartbeats 4000000
namespace Mn
open PySem PySem.Spec PyProof.Rows L2
def kD : Key → D
  | .inl i => .int i
  | .inr x => .str x
def keyD (k : List Key) : D := .tuple (k.map kD)
theorem perm_map_inv {α β : Type} {f : α → β} {vs ms : List β} (h : vs.Perm ms) : ∀ {l : List α}, ms = l.map f → ∃ l0 : List α, l0.Perm l ∧ vs = l0.map f := by
  induction h with
  | nil => intro l e; cases l with
    | nil => exact ⟨[], .refl _, rfl⟩
    | cons _ _ => cases e
  | cons x _ ih => intro l e; cases l with
    | nil => cases e
    | cons b l =>
      rw [List.map_cons] at e
      cases e
      obtain ⟨l0, p, e0⟩ := ih rfl
      exact ⟨b :: l0, p.cons b, by rw [e0, List.map_cons]⟩
  | swap x y l' => intro l e; cases l with
    | nil => cases e
    | cons b l => cases l with
      | nil => cases e
      | cons b2 l =>
        simp only [List.map_cons] at e
        cases e
        exact ⟨b2 :: b :: l, .swap b b2 l, rfl⟩
  | trans _ _ ih1 ih2 =>
    intro l e
    obtain ⟨l1, p1, e1⟩ := ih2 e
    obtain ⟨l0, p0, e0⟩ := ih1 e1
    exact ⟨l0, p0.trans p1, e0⟩
theorem keys_read {P : Program} {w : World} {h : Heap} {k : List Key} {vs : List Value} (x : ItemsAre (mixKind P w) k vs) : ReadsAll h vs (k.map kD) [] := by
  induction x with
  | nil => exact .nil
  | cons h1 _ ih =>
    rcases keyIs_shape h1 with ⟨i, t, rfl, rfl⟩ | ⟨x, t, rfl, rfl⟩
    · exact .cons (as := []) (bs := []) (.int i t) ih
    · exact .cons (as := []) (bs := []) (.str x t) ih
theorem kTup_reads {P : Program} {w : World} {h : Heap} {k : List Key} {b : Addr} (x : kTup P w h k b) : Reads h (.ref b) (keyD k) [] := by
  obtain ⟨o, its, n, e1, e2, e3, e4⟩ := x
  exact .tuple e1 e2 e3 (keys_read e4)
abbrev rowD (p : Addr × List Key) : D := keyD p.2
theorem keyD_depth (k : List Key) : (keyD k).depth ≤ 1 := by
  have all : ∀ l : List Key, PyData.depthAll (l.map kD) = 0 := by
    intro l
    induction l with
    | nil => rfl
    | cons a l ih => cases a <;> simp [PyData.depthAll, kD, PyData.depth, ih]
  unfold keyD PyData.depth
  rw [all]
  exact Nat.le_refl _
theorem refs_each : ∀ L0 : Rows, PySem.W.EachIs (fun (u : Value) (p : Addr × List Key) => u = .ref p.1) (L0.map fun p => Value.ref p.1) L0
  | [] => .nil
  | p :: L => .cons rfl (refs_each L)
theorem refs_out : ∀ {out : List Value} {L0 : Rows}, PySem.W.EachIs (fun (u : Value) (p : Addr × List Key) => u = .ref p.1) out L0 → out = L0.map fun p => Value.ref p.1
  | _, _, .nil => rfl
  | _, _, .cons e t => by rw [List.map_cons, ← refs_out t, e]
section
variable {P : Program} {w : World} {A : Around} {E : Value → Shared → Prop} {s : Shared} {a : Addr} {L : Rows} {es : Array (Int × Value)} {ep : Nat} {t : SetTable}
theorem kset_sorted {Q : Value → Shared → Prop} (R : KSet P w s.heap a L es ep t) (hh : A.handled = none) (hu : A.units + 65 < cLine) (al : PySem.W.AllAlike (L.map rowD)) (so : PySem.W.Sortable (L.map rowD))
    (q : ∀ s' p (out : Array Value) (c : Nat) (L0 : Rows), (∀ b o, s.heap.get? b = some o → s'.heap.get? b = some o) → s'.gens = s.gens → s'.os = s.os → s.heap.objs.size ≤ p → s'.heap.get? p = some (seqObj "list" out c) → out.toList = (L0.mergeSort (PySem.W.dataLe false rowD)).map (fun r => Value.ref r.1) → L0.Perm L → Q (.ref p) s') :
    wpAny (model P w) A (call (.builtin "sorted") [.ref a]) Q E s := by
  obtain ⟨o, ho, hex, hd⟩ := R.obj
  have sz := R.size
  have few := R.few
  refine Calls.call_function_entry kind_sorted plain_sorted entry_sorted (args_sorted1 _) ?_
  unfold Builtin.«sorted»
  refine wpAny_bind (m := checkCount "sorted" 1 1 _) (wpAny_pure (wpAny_bind (collect_set (A := A.in1) hh ⟨o, ho, hex.1, hd⟩ R.fits (by unfold scanBound; omega) R.tab.ris R.led fun s1 vs k1 hz g1 o1 pm => ?_)))
  have pm' : vs.Perm (L.map fun p => Value.ref p.1) := by
    have e : es.toList.map (·.2) = L.map fun p => Value.ref p.1 := by rw [R.ent]; simp [rowV]
    rwa [e] at pm
  obtain ⟨L0, pL, rfl⟩ := perm_map_inv pm' rfl
  have len : L0.length < 64 := by rw [pL.length_eq]; exact few
  refine wpAny_bind (wpAny_newList ?_ (by rw [List.length_map, sizeLine_eq]; omega))
  have new : (s1.heap.push (seqObj "list" (L0.map fun p => Value.ref p.1).toArray 0)).get? s1.heap.objs.size = some (seqObj "list" (L0.map fun p => Value.ref p.1).toArray 0) := Heap.get?_push_size _ rfl
  have rd : ∀ l : Rows, (∀ p, p ∈ l → p ∈ L0) → PySem.W.EachIs (fun v (b : Addr × List Key) => ∃ as, Reads (s1.heap.push (seqObj "list" (L0.map fun p => Value.ref p.1).toArray 0)) v (rowD b) as ∧ s1.heap.objs.size ∉ as) (l.map fun p => Value.ref p.1) l := by
    intro l
    induction l with
    | nil => exact fun _ => .nil
    | cons p l ih =>
      refine fun h => .cons ⟨[], kTup_reads (kTup_keep (R.tup p (pL.mem_iff.mp (h p List.mem_cons_self))) fun b u e => Heap.get?_push_of_some _ (k1 b u e)), by simp⟩ (ih fun p' hp' => h p' (List.mem_cons_of_mem _ hp'))
  have pD : (L0.map rowD).Perm (L.map rowD) := pL.map _
  refine wpAny_bind (wpAny_holding (PySem.W.list_sort_data (s := { s1 with heap := s1.heap.push (seqObj "list" (L0.map fun p => Value.ref p.1).toArray 0) }) (enc := rowD) (R := fun u p => u = .ref p.1) new (refs_each L0) (rd L0 fun _ h => h)
    (fun d hd d' hd' => al d (pD.mem_iff.mp hd) d' (pD.mem_iff.mp hd')) (so.imp (fun h d hd => h d (pD.mem_iff.mp hd)) fun h d hd => h d (pD.mem_iff.mp hd)) (by rw [sizeLine_eq]; omega) (fun b _ => by have := keyD_depth b.2; show A.units + 1 + 1 + (keyD b.2).depth < cLine; omega) fun out lo eo => ?_))
  obtain ⟨c, hc⟩ := sortedHeap_at (vs := L0.map fun p => Value.ref p.1) (out := out.toArray) new
  refine wpAny_pure ⟨_, rfl, q _ s1.heap.objs.size out.toArray c L0 (fun b u e => ?_) g1 o1 hz hc (by simpa using refs_out eo) pL⟩
  have lt := Heap.lt_size (k1 b u e)
  show (sortedHeap _ s1.heap.objs.size _ out.toArray).get? b = some u
  rw [sortedHeap_old (Nat.ne_of_lt lt) (by rw [size_push']; exact Nat.lt_succ_of_lt lt)]
  exact Heap.get?_push_of_some _ (k1 b u e)
end
/-! ### the rules -/
structure KS0 (P : Program) (w : World) (h : Heap) (a : Addr) (L : Rows) : Prop where
  ex : ∃ (es : Array (Int × Value)) (ep : Nat) (t : SetTable), (∃ o, h.get? a = some o ∧ o.ExactSet ∧ o.data = .set es ep t) ∧ es.toList = rowV P w L ∧ TabOk t (L.map fun p => kHash P w p.2) ∧ (L.map (·.2)).Nodup ∧ (w.params.followText "set-order" = true ∨ t.led = true) ∧ L.length * 5 < t.mask * 3 ∧ L.length < 64
def ksetO (P : Program) (w : World) (a : Addr) (L : Rows) : HO := .ext fun h => KS0 P w h a L
theorem ks0_ok {P : Program} {w : World} {H : Hp} {h : Heap} {a : Addr} {L : Rows} (R : KS0 P w h a L) : ObjOk P w H h a (ksetO P w a L) := by
  have ⟨es, ep, t, ⟨o, ho, r⟩, q⟩ := R.ex
  refine ⟨R, ⟨o, ho⟩, fun h1 h2 p k => ?_⟩
  have ⟨es', ep', t', ⟨o', ho', r'⟩, q'⟩ := KS0.ex p
  exact ⟨es', ep', t', ⟨o', k o' ho', r'⟩, q'⟩
theorem keys_are {P : Program} {w : World} : ∀ {k : List Key} {us : List Value}, Vals (k.map kV) us → ItemsAre (mixKind P w) k us
  | [], _, .nil => .nil
  | _ :: _, _, .cons r t => .cons (kV_is r) (keys_are t)
theorem refs_are : ∀ {ks : Rows} {us : List Value}, Vals (ks.map fun p => V.ref p.1) us → us = ks.map fun p => Value.ref p.1
  | [], _, .nil => rfl
  | p :: ks, _, .cons r t => by
    cases r
    rw [refs_are t]
    rfl
theorem are_refs : ∀ ks : Rows, Vals (ks.map fun p => V.ref p.1) (ks.map fun p => Value.ref p.1)
  | [] => .nil
  | _ :: ks => .cons rfl (are_refs ks)
section
variable {X : Cx}
theorem inv_kTup {pins : List (Addr × Obj)} {σ : L2.St} {H : Hp} {s : Shared} {b : Addr} {k : List Key} (I : Inv X pins σ H s) (h : SqT X.K H b (k.map kV)) : kTup X.prog X.w s.heap k b := by
  obtain ⟨its, r, ⟨o, ho, hc, n, hd⟩, _⟩ := I.tuple h
  exact ⟨o, its.toArray, n, ho, hc, hd, by simpa using keys_are r⟩
def rKSet (K : PySem.W.Frag) (P : Program) (w : World) : List V → Hp → VK → Prop := fun xs H Q => ∃ (l : Addr) (ks : Rows), xs = [V.ref l] ∧ SqL K H l (ks.map fun p => V.ref p.1) ∧ (∀ p, p ∈ ks → SqT K H p.1 (p.2.map kV)) ∧ ks.length < 64 ∧
  ∀ a L, H a = none → (∀ p, p ∈ L → p ∈ ks) → (∀ p, p ∈ ks → p.2 ∈ L.map (·.2)) → (L.map (·.2)).Nodup → Q (.ref a) (upd H a (ksetO P w a L))
theorem cr_kset (hc : X.calm = true) (hu : X.A.units + 65 < cLine) : CallR X (.type "set") (rKSet X.K X.prog X.w) := by
  intro pins s σ H xs us Q I r ⟨l, ks, ex, hl, hk, few, q⟩
  subst ex
  rw [Vals.ref1 r]
  obtain ⟨its, rv, pl, hz⟩ := I.list hl
  refine kset_call ks (I.ok.hd hc) pl.isList (by simpa using refs_are rv) (fun p hp => inv_kTup I (hk p hp)) few (by omega) fun h' tk L es ep t R g k => ?_
  exact ⟨.ref s.heap.objs.size, upd H s.heap.objs.size (ksetO X.prog X.w s.heap.objs.size L), I.laid (t' := tk) k (Nat.le_refl _) (ks0_ok ⟨es, ep, t, R.obj, R.ent, R.tab, R.nod, R.led, R.room, R.few⟩), rfl, q _ L (I.hok.fresh (Nat.le_refl _)) (fun p hp => List.mem_of_mem_take (g.sub p hp)) (fun p hp => g.all p (by rw [List.take_length]; exact hp)) R.nod⟩
def rKSort (K : PySem.W.Frag) (P : Program) (w : World) : List V → Hp → VK → Prop := fun vs H Q => ∃ (a : Addr) (L : Rows), vs = [V.ref a] ∧ H a = some (ksetO P w a L) ∧ (∀ p, p ∈ L → SqT K H p.1 (p.2.map kV)) ∧ PySem.W.AllAlike (L.map rowD) ∧ PySem.W.Sortable (L.map rowD) ∧
  ∀ (L0 : Rows) (p : Addr), L0.Perm L → H p = none → Q (.ref p) (upd H p (.lst ((L0.mergeSort (PySem.W.dataLe false rowD)).map fun r => V.ref r.1)))
theorem cr_ksort (hc : X.calm = true) (hu : X.A.units + 65 < cLine) : CallR X (.builtin "sorted") (rKSort X.K X.prog X.w) := by
  intro pins s σ H vs us Q I r ⟨a, L, ev, ha, hk, al, so, q⟩
  subst ev
  rw [Vals.ref1 r]
  have R0 : KS0 X.prog X.w s.heap a L := (I.hok a _ ha).1
  obtain ⟨es, ep, t, h1, h2, h3, h4, h5, h6, h7⟩ := R0.ex
  refine kset_sorted ⟨h1, h2, h3, h4, fun p hp => inv_kTup I (hk p hp), h5, h6, h7⟩ (I.ok.hd hc) hu al so fun s' p out c L0 k g o hp hg hout pm => ?_
  have hn : H p = none := I.hok.fresh hp
  have len : ((L0.mergeSort (PySem.W.dataLe false rowD)).map fun r => V.ref r.1).length ≤ sizeLine := by
    rw [List.length_map, List.length_mergeSort, pm.length_eq, sizeLine_eq]
    omega
  have hv : Vals ((L0.mergeSort (PySem.W.dataLe false rowD)).map fun r => V.ref r.1) out.toList := by rw [hout]; exact are_refs _
  have J := I.call (g' := s'.gens) (d' := s'.drawn) (t' := s'.toks) (ch := []) (Un.laid k hp hn) (I.hok.laid k hp (o := .lst ((L0.mergeSort (PySem.W.dataLe false rowD)).map fun r => V.ref r.1)) ⟨len, out.toList, c, hv, hg⟩) (by rw [g]; exact I.bare) (fun _ z => nomatch z)
  have e : s' = { s with heap := s'.heap, gens := s'.gens, drawn := s'.drawn, toks := s'.toks } := by
    cases s'
    cases s
    cases o
    rfl
  rw [e]
  exact ⟨.ref p, _, J, rfl, q L0 p pm hn⟩
end
end Mn
set_option Elab.async false
set_option linter.all false
set_option maxRecDepth 100000
set_option maxHeartbeats 4000000
namespace Mn
open PySem PySem.Spec PyProof.Rows L2
/-! ### sorted and without doubles, as data -/
theorem leD_total {β : Type} (k : β → D) : PySem.W.TotalLe (PySem.W.dataLe false k) := PySem.W.sortLe_total _ false _
theorem kD_eqv (a b : Key) : PyData.eqv (kD a) (kD b) = decide (a = b) := by
  cases a <;> cases b <;> simp [kD, PyData.eqv] <;> rfl
theorem keys_eqv : ∀ a b : List Key, PyData.eqvAll (a.map kD) (b.map kD) = decide (a = b)
  | [], [] => rfl
  | [], _ :: _ => rfl
  | _ :: _, [] => rfl
  | x :: a, y :: b => by
    rw [List.map_cons, List.map_cons, PySem.W.eqv_all_cons, kD_eqv, keys_eqv a b]
    by_cases h1 : x = y <;> by_cases h2 : a = b <;> simp [h1, h2]
theorem keyD_eqv (a b : List Key) : PyData.eqv (keyD a) (keyD b) = decide (a = b) := by
  show PyData.eqvAll _ _ = _
  exact keys_eqv a b
/-- unlike data of one kind stand apart in the order -/
theorem leD_anti {x y : D} (al : PySem.W.alike x y = true) (h1 : PySem.W.dataLe false (fun d => d) x y = true) (h2 : PySem.W.dataLe false (fun d => d) y x = true) : PyData.eqv x y = true := by
  cases q : PyData.eqv x y with
  | true => rfl
  | false =>
    exfalso
    have a1 : PySem.W.dataLt y x = false := by
      have h1 : (!PySem.W.dataLt y x) = true := h1
      simpa using h1
    have a2 : PySem.W.dataLt x y = false := by
      have h2 : (!PySem.W.dataLt x y) = true := h2
      simpa using h2
    have e : PySem.W.keyToks x = PySem.W.keyToks y := PyProof.Rows.lex_total _ _ a2 a1
    have z := ((PySem.W.toks_eqv x y al).2 q)
    have z1 := z [] [Sum.inl 0]
    have z2 := z [Sum.inl 0] []
    rw [e, PySem.W.lex_pre] at z1 z2
    rw [← z2] at z1
    cases z1
theorem dedup_mem : ∀ {xs : List D}, (∀ x, x ∈ xs → ∀ y, y ∈ xs → PyData.eqv x y = true → x = y) → (∀ x, x ∈ xs → PyData.eqv x x = true) → (∀ z, z ∈ dedup xs ↔ z ∈ xs) ∧ (dedup xs).Nodup
  | [], _, _ => ⟨fun z => Iff.rfl, List.nodup_nil⟩
  | x :: xs, h, hr => by
    obtain ⟨i1, i2⟩ := dedup_mem (xs := xs) (fun a ha b hb => h a (List.mem_cons_of_mem _ ha) b (List.mem_cons_of_mem _ hb)) fun a ha => hr a (List.mem_cons_of_mem _ ha)
    unfold dedup
    by_cases q : (dedup xs).any (fun y => PyData.eqv y x) = true
    · rw [if_pos q]
      obtain ⟨y, hy, e⟩ := List.any_eq_true.mp q
      have hy' := (i1 y).mp hy
      have : y = x := h y (List.mem_cons_of_mem _ hy') x List.mem_cons_self e
      subst this
      exact ⟨fun z => ⟨fun hz => List.mem_cons_of_mem _ ((i1 z).mp hz), fun hz => (List.mem_cons.mp hz).elim (fun e => by rw [e]; exact hy) (i1 z).mpr⟩, i2⟩
    · rw [if_neg q]
      refine ⟨fun z => ?_, List.nodup_cons.mpr ⟨fun hx => q (List.any_eq_true.mpr ⟨x, hx, hr x List.mem_cons_self⟩), i2⟩⟩
      rw [List.mem_cons, List.mem_cons, i1 z]
theorem sort_perm_eq {l1 l2 : List D} (pm : l1.Perm l2) (al : PySem.W.AllAlike l1) (eq : ∀ x, x ∈ l1 → ∀ y, y ∈ l1 → PyData.eqv x y = true → x = y) : sortD l1 = sortD l2 := by
  have T := leD_total (fun d : D => d)
  refine List.Perm.eq_of_pairwise (le := fun a b => PySem.W.dataLe false (fun d => d) a b = true) (fun a b ha hb h1 h2 => ?_) (List.pairwise_mergeSort T.trans (fun a b => by simpa using T.total a b) l1) (List.pairwise_mergeSort T.trans (fun a b => by simpa using T.total a b) l2) ((List.mergeSort_perm l1 _).trans (pm.trans (List.mergeSort_perm l2 _).symm))
  have m1 : a ∈ l1 := List.mem_mergeSort.mp ha
  have m2 : b ∈ l1 := pm.mem_iff.mpr (List.mem_mergeSort.mp hb)
  exact eq a m1 b m2 (leD_anti (al a m1 b m2) h1 h2)
theorem keyD_inj {a b : List Key} (h : keyD a = keyD b) : a = b := by
  have := keyD_eqv a b
  rw [h, keyD_eqv] at this
  simpa using this.symm
theorem sset_eq {ks L L0 : Rows} (h1 : ∀ p, p ∈ L → p ∈ ks) (h2 : ∀ p, p ∈ ks → p.2 ∈ L.map (·.2)) (nd : (L.map (·.2)).Nodup) (pm : L0.Perm L) (al : PySem.W.AllAlike (ks.map rowD)) :
    (L0.mergeSort (PySem.W.dataLe false rowD)).map rowD = sortD (dedup (ks.map rowD)) := by
  have e1 : (L0.mergeSort (PySem.W.dataLe false rowD)).map rowD = sortD (L0.map rowD) := List.map_mergeSort fun a _ b _ => rfl
  rw [e1]
  have key : ∀ x, x ∈ ks.map rowD → ∃ k, x = keyD k := fun x hx => by
    obtain ⟨p, _, rfl⟩ := List.mem_map.mp hx
    exact ⟨p.2, rfl⟩
  have eq : ∀ x, x ∈ ks.map rowD → ∀ y, y ∈ ks.map rowD → PyData.eqv x y = true → x = y := fun x hx y hy e => by
    obtain ⟨a, rfl⟩ := key x hx
    obtain ⟨b, rfl⟩ := key y hy
    rw [keyD_eqv] at e
    rw [of_decide_eq_true e]
  obtain ⟨d1, d2⟩ := dedup_mem eq fun x hx => by
    obtain ⟨a, rfl⟩ := key x hx
    rw [keyD_eqv]
    exact decide_eq_true rfl
  have inks : ∀ x, x ∈ L0.map rowD → x ∈ ks.map rowD := fun x hx => by
    obtain ⟨p, hp, rfl⟩ := List.mem_map.mp hx
    exact List.mem_map_of_mem (h1 p (pm.mem_iff.mp hp))
  have nd0 : (L0.map rowD).Nodup := by
    have n1 : (L0.map (·.2)).Nodup := (pm.map (·.2)).nodup_iff.mpr nd
    have n2 : ((L0.map (·.2)).map keyD).Nodup := List.pairwise_map.mpr (n1.imp fun hne e => hne (keyD_inj e))
    have e : (L0.map (·.2)).map keyD = L0.map rowD := by rw [List.map_map]; rfl
    rwa [e] at n2
  have perm : (L0.map rowD).Perm (dedup (ks.map rowD)) := (List.perm_ext_iff_of_nodup nd0 d2).mpr fun z => by
    rw [d1 z]
    refine ⟨inks z, fun hz => ?_⟩
    obtain ⟨p, hp, rfl⟩ := List.mem_map.mp hz
    obtain ⟨r, hr, er⟩ := List.mem_map.mp (h2 p hp)
    exact List.mem_map.mpr ⟨r, pm.mem_iff.mpr hr, by show keyD r.2 = keyD p.2; rw [er]⟩
  exact sort_perm_eq perm (fun x hx y hy => al x (inks x hx) y (inks y hy)) fun x hx y hy => eq x (inks x hx) y (inks y hy)
/-- rows of such tuples, out of the data -/
theorem keys_of {K : PySem.W.Frag} {F : Hp} : ∀ {ds : List D} {vs : List V}, ds.all isKeyD = true → DqAll K F vs ds → ∃ k : List Key, ds = k.map kD ∧ vs = k.map kV
  | [], _, _, .nil => ⟨[], rfl, rfl⟩
  | d :: ds, _, h, .cons h1 h2 => by
    rw [List.all_cons, Bool.and_eq_true] at h
    obtain ⟨k, rfl, rfl⟩ := keys_of h.2 h2
    cases d with
    | int i => cases h1; exact ⟨.inl i :: k, rfl, rfl⟩
    | str x => cases h1; exact ⟨.inr x :: k, rfl, rfl⟩
    | _ => cases h.1
theorem rows_of {K : PySem.W.Frag} {F : Hp} : ∀ {xs : List D} {vs : List V}, xs.all setKey = true → DqAll K F vs xs → ∃ ks : Rows, xs = ks.map rowD ∧ vs = ks.map (fun p => V.ref p.1) ∧ ∀ p, p ∈ ks → SqT K F p.1 (p.2.map kV)
  | [], _, _, .nil => ⟨[], rfl, rfl, fun p hp => by cases hp⟩
  | x :: xs, _, h, .cons h1 h2 => by
    rw [List.all_cons, Bool.and_eq_true] at h
    obtain ⟨ks, rfl, rfl, hk⟩ := rows_of h.2 h2
    cases x with
    | tuple ds =>
      cases h1 with
      | tup a b =>
        rename_i ad us
        obtain ⟨k, rfl, rfl⟩ := keys_of (show ds.all isKeyD = true from h.1) b
        refine ⟨(ad, k) :: ks, rfl, rfl, fun p hp => ?_⟩
        rcases List.mem_cons.mp hp with rfl | hp
        · exact a
        · exact hk p hp
    | _ => cases h.1
theorem keyV_dq {K : PySem.W.Frag} {F : Hp} : ∀ k : List Key, DqAll K F (k.map kV) (k.map kD)
  | [] => .nil
  | .inl i :: k => .cons (.int i) (keyV_dq k)
  | .inr x :: k => .cons (.str x) (keyV_dq k)
theorem rows_dq {K : PySem.W.Frag} {F : Hp} : ∀ {ks : Rows}, (∀ p, p ∈ ks → SqT K F p.1 (p.2.map kV)) → DqAll K F (ks.map fun p => V.ref p.1) (ks.map rowD)
  | [], _ => .nil
  | p :: ks, h => .cons (.tup (h p List.mem_cons_self) (keyV_dq p.2)) (rows_dq fun q hq => h q (List.mem_cons_of_mem _ hq))
theorem boot_set : bootBuiltins "set" = some (.type "set") := by decide +kernel
section
variable {X : Cx} {A : Ad} {Wx : WX}
theorem rd_sset {g : Bool} {e : Expr} {p p2 pos pos2 : Pos} {ev : Env → Res (R × Env)} (hc : X.calm = true) (hu : X.A.units + 65 < cLine) (hg : Gl X "sorted") (hm : X.mg "sorted" = none) (hg2 : Gl X "set") (hm2 : X.mg "set" = none) (ha : PE X e (RdE X.K A Wx ev)) (hs : noStar e = true) :
    PE X (.Call (.Name "sorted" p) [.Call (.Name "set" p2) [e] [] pos2] [] pos) (RdE X.K A Wx fun ρ => do
      let (x, ρ) ← ev ρ
      let u ← Res.of (x.peek ρ)
      let r ← Res.of (bltD g .sset [u])
      .ok (r, ρ)) := by
  have inner := pe_callTy (p := p2) (pos := pos2) (cr_kset (X := X) hc hu) hg2 hm2 boot_set (pa_cons ha pa_nil (star_head (noStar_ne hs))) (by decide) (by decide) (star_head (noStar_ne hs)) rfl
  refine PE_imp (pe_callB (cr_ksort hc hu) hg hm (by decide +kernel) (pa_cons inner pa_nil) (by decide) (by decide)) fun σ H Q ⟨B, ρ, T, at_, gg⟩ => ?_
  refine ⟨B, ρ, T, at_, (gd_bind.mp gg).mono (fun ⟨x, ρ1⟩ g1 v H1 ⟨F, O, S⟩ => ?_) fun _ _ h => h⟩
  obtain ⟨u, e1, g2⟩ := gd_of (gd_bind.mp g1)
  obtain ⟨r, e2, g3⟩ := gd_of (gd_bind.mp g2)
  cases u with
  | list xs =>
    unfold bltD at e2
    simp only at e2
    split at e2
    · rename_i cond
      cases e2
      simp only [Bool.and_eq_true, decide_eq_true_eq] at cond
      obtain ⟨⟨c1, c2⟩, c3⟩ := cond
      obtain ⟨al, so, _, _⟩ := sortOk_of c1
      obtain ⟨l, vs, rfl, rd, dd⟩ := S.peekL one_top e1
      obtain ⟨ks, rfl, rfl, hk⟩ := rows_of c2 dd
      refine ⟨l, ks, rfl, .inl rd, fun p hp => sqt_sub S.fh (hk p hp), by simpa using c3, fun a L hn h1 h2 nd => ?_⟩
      have S2 := S.junk (o := ksetO X.prog X.w a L) hn (fun ps z => by unfold ksetO at z; cases z)
      have inL : ∀ d, d ∈ L.map rowD → d ∈ ks.map rowD := fun d hd => by
        obtain ⟨p, hp, rfl⟩ := List.mem_map.mp hd
        exact List.mem_map_of_mem (h1 p hp)
      refine ⟨a, L, rfl, upd_same, fun p hp => sqt_sub S2.fh (hk p (h1 p hp)), fun d hd d' hd' => al d (inL d hd) d' (inL d' hd'), so.imp (fun h d hd => h d (inL d hd)) fun h d hd => h d (inL d hd), fun L0 q pm hq => ?_⟩
      refine g3 _ _ (S2.drop.newLst hq ?_)
      rw [← sset_eq h1 h2 nd pm al]
      exact rows_dq fun p hp => hk p (h1 p (pm.mem_iff.mp (List.mem_mergeSort.mp hp)))
    · cases e2
  | _ => cases e2
end
end Mn
set_option Elab.async false
set_option linter.all false
set_option maxRecDepth 100000
set_option maxHeartbeats 1000000
namespace Mn
open PySem PySem.Spec PyProof.Rows L2

/-! ## which program text a value of the small language stands for -/
structure Cfg where
  N : List Str
  ar : Str → Option Nat
  gl : Str → Bool
  bl : Str → Bool
  exn : Str → Bool
def glB (sc : Scope) (x : Str) : Bool := decide (sc.names.lookup x = some .globalImplicit) && !(x == ("__debug__" : Str))
def visB (sc : Scope) (x : Str) : Bool := (decide (sc.names.lookup x = some .local) || decide (sc.names.lookup x = some .cell) || decide (sc.names.lookup x = some .free)) && !(x == ("__debug__" : Str)) && !(x == ("__classdict__" : Str))
def ownP (N : List Str) (scope : Scope) : List (Str × Nat) := scope.names.filterMap fun y => if y.2 = .local ∨ y.2 = .cell then (N.findIdx? (· == y.1)).map fun i => (y.1, i) else none
def cpB : Cp → CmpOp → Bool
  | .eq, .Eq => true | .ne, .NotEq => true | .lt, .Lt => true | .le, .LtE => true | .gt, .Gt => true | .ge, .GtE => true | .isin, .In => true | .notin, .NotIn => true
  | _, _ => false
def opB : Op2 → Operator → Bool
  | .add, .Add => true | .sub, .Sub => true | .mul, .Mult => true | .mod, .Mod => true | .fdiv, .FloorDiv => true | .pow, .Pow => true
  | _, _ => false
theorem cpB_eq {o : Cp} {p : CmpOp} (h : cpB o p = true) : p = o.py := by
  cases o <;> cases p <;> first | rfl | cases h
theorem opB_eq {o : Op2} {p : Operator} (h : opB o p = true) : p = o.py := by
  cases o <;> cases p <;> first | rfl | cases h
/-- a block's names, what it captured of the def's cells known as cells -/
def relS (sc scope : Scope) : Scope := { scope with names := scope.names.map fun (n, k) => if (k == .free && sc.kind == .function && sc.names.lookup n == some .cell) then (n, .cell) else (n, k) }
/-- a name that may be stored to: sf: the names as written -/
def stoB (sc sf : Scope) (x : Str) : Bool := decide (sc.names.lookup x = some .local) || (decide (sc.names.lookup x = some .cell) && decide (sf.names.lookup x = some .cell))
def chkTg (N : List Str) (sc sf : Scope) : Tg → Expr → Bool
  | .one i, .Name x _ => decide (N[i]? = some x) && stoB sc sf x
  | .row is, .Tuple es _ _ => go is es
  | _, _ => false
where go : List Nat → List Expr → Bool
  | [], [] => true
  | i :: is, .Name x _ :: es => decide (N[i]? = some x) && stoB sc sf x && go is es
  | _, _ => false
def isFun : Blt → Option String
  | .len => some "len" | .abs => some "abs" | .sorted => some "sorted" | .repr => some "repr" | .all => some "all" | .any => some "any" | .min2 => some "min" | .max2 => some "max"
  | _ => none
def isTy : Blt → Option String
  | .int => some "int" | .tuple => some "tuple" | .list => some "list"
  | _ => none
/-- a method's call on a slot -/
def mthB (N : List Str) (sc : Scope) (i : Nat) (m : Str) (f : Expr) (cpos : Pos) : Bool := match f with
  | .Attribute (.Name x _) m' apos => (m == m') && decide (N[i]? = some x) && visB sc x && (apos.endLine == cpos.line)
  | _ => false
/-- what is checked of a built-in's arguments -/
def bltArgs (c : Cfg) (sc : Scope) (b : Blt) (f : Str) (xs : List Expr) : Option (List Expr) := match b with
  | .isStr => (match xs with
    | [x, .Name n _] => if f = "isinstance" ∧ glB sc f ∧ c.bl f ∧ n = "str" ∧ glB sc n ∧ c.bl n then some [x] else none
    | _ => none)
  | .isTup => (match xs with
    | [x, .Name n _] => if f = "isinstance" ∧ glB sc f ∧ c.bl f ∧ n = "tuple" ∧ glB sc n ∧ c.bl n then some [x] else none
    | _ => none)
  | .sset => (match xs with
    | [.Call (.Name n _) [x] [] _] => if f = "sorted" ∧ glB sc f ∧ c.bl f ∧ n = "set" ∧ glB sc n ∧ c.bl n then some [x] else none
    | _ => none)
  | b => if f = b.name ∧ glB sc f ∧ c.bl f ∧ !xs.isEmpty then some xs else none
mutual
def chkE (c : Cfg) (lm : Bool) (sc : Scope) : E → Expr → Bool
  | .non, e => match e with
    | .Constant .none _ _ => true
    | _ => false
  | .bl b, e => match e with
    | .Constant (.bool b') _ _ => decide (b = b')
    | _ => false
  | .int i, e => match e with
    | .Constant (.int i') _ _ => decide (i = i')
    | _ => false
  | .str s, e => match e with
    | .Constant (.str s') _ _ => decide (s = s')
    | _ => false
  | .var i, e => match e with
    | .Name x _ => decide (c.N[i]? = some x) && visB sc x
    | _ => false
  | .glo y, e => match e with
    | .Name x _ => decide (y = x) && glB sc x && c.gl x
    | _ => false
  | .fn _, _ => false
  | .tup es, e => match e with
    | .Tuple xs _ _ => xs.all noStar && chkEs c lm sc es xs
    | _ => false
  | .lst es, e => match e with
    | .List xs _ => xs.all noStar && chkEs c lm sc es xs
    | _ => false
  | .op o a b, e => match e with
    | .BinOp x p y _ => opB o p && chkE c lm sc a x && chkE c lm sc b y
    | _ => false
  | .rep a b, e => match e with
    | .BinOp x p y _ => decide (p = .Mult) && chkE c lm sc a x && chkE c lm sc b y
    | _ => false
  | .ite t a b, e => match e with
    | .IfExp u x y _ => chkC c lm sc t u && chkE c lm sc a x && chkE c lm sc b y
    | _ => false
  | .call f es, e => match e with
    | .Call (.Name f' _) xs [] _ => decide (f = f') && glB sc f && decide (c.ar f = some xs.length) && xs.all noStar && chkEs c lm sc es xs
    | _ => false
  | .blt b es, e => match e with
    | .Call (.Name f _) xs [] _ => (match bltArgs c sc b f xs with
      | some ys => ys.all noStar && chkEs c lm sc es ys
      | none => false)
    | _ => false
  | .idx a i, e => match e with
    | .Subscript x y _ => plainIx y && chkE c lm sc a x && chkE c lm sc i y
    | _ => false
  | .slc a lo hi, e => match e with
    | .Subscript x (.Slice l h none _) _ => chkE c lm sc a x && chkO c lm sc lo l && chkO c lm sc hi h
    | _ => false
  | .lc elt tg it t own, e => match e with
    | .ListComp x [⟨g, i, ifs, 0⟩] scope _ => blkC c.N sc scope (ownP c.N scope) && decide ((ownP c.N scope).map (·.2) = own) && chkTg c.N (relS sc scope) scope tg g && tg.slots.all (fun j => own.contains j) && noSet i && chkI c lm sc it g i && chkOc c false (relS sc scope) t ifs && chkE c false (relS sc scope) elt x
    | _ => false
  | .lc2 elt t1 i1 c1 t2 i2 c2 own own2, e => match e with
    | .ListComp x [⟨g, i, ifs, 0⟩, ⟨g2, j, ifs2, 0⟩] scope _ => blkC c.N sc scope (ownP c.N scope) && decide ((ownP c.N scope).map (·.2) = own) && chkTg c.N (relS sc scope) scope t1 g && t1.slots.all (fun j => own.contains j) && own2.all (fun j => own.contains j) && t2.slots.all (fun j => own2.contains j) && noSet i && noSet j &&
        chkI c lm sc i1 g i && chkOc c false (relS sc scope) c1 ifs && chkTg c.N (relS sc scope) scope t2 g2 && chkI c false (relS sc scope) i2 g2 j && chkOc c false (relS sc scope) c2 ifs2 && chkE c false (relS sc scope) elt x
    | _ => false
  | .ofC t, e => match t with
    | .cmp o a b => (match e with
      | .Compare x [p] [y] _ => cpB o p && noSet y && chkE c lm sc a x && chkE c lm sc b y
      | _ => false)
    | .not (.tru a) => (match e with
      | .UnaryOp p x _ => decide (p = .Not) && chkE c lm sc a x
      | _ => false)
    | .isN a => (match e with
      | .Compare x [p] [.Constant .none _ _] _ => decide (p = .Is) && chkE c lm sc a x
      | _ => false)
    | .notN a => (match e with
      | .Compare x [p] [.Constant .none _ _] _ => decide (p = .IsNot) && chkE c lm sc a x
      | _ => false)
    | _ => false
  | .andV a b, e => match e with
    | .BoolOp p (x :: y :: rest) pos => decide (p = .And) && chkE c lm sc a x && (match rest with
      | [] => chkE c lm sc b y
      | z :: r => chkE c lm sc b (.BoolOp .And (y :: z :: r) pos))
    | _ => false
  | .orV a b, e => match e with
    | .BoolOp p (x :: y :: rest) pos => decide (p = .Or) && chkE c lm sc a x && (match rest with
      | [] => chkE c lm sc b y
      | z :: r => chkE c lm sc b (.BoolOp .Or (y :: z :: r) pos))
    | _ => false
  | .app i a, e => match e with
    | .Call f [x] [] p => mthB c.N sc i "append" f p && noStar x && chkE c lm sc a x
    | _ => false
  | .ext i a, e => match e with
    | .Call f [x] [] p => mthB c.N sc i "extend" f p && noStar x && chkE c lm sc a x
    | _ => false
  | .ins i a b, e => match e with
    | .Call f [x, y] [] p => mthB c.N sc i "insert" f p && noStar x && noStar y && chkE c lm sc a x && chkE c lm sc b y
    | _ => false
  | .pop i, e => match e with
    | .Call f [] [] p => mthB c.N sc i "pop" f p
    | _ => false
  | .heard g a, e => match e with
    | .Call (.Name f _) [.Lambda ⟨[], [], none, [], [], none, []⟩ x scope _] [] _ => lm && decide (g = f) && glB sc f && LamX.lamSB sc scope && chkE c false scope a x
    | _ => false
def chkEs (c : Cfg) (lm : Bool) (sc : Scope) : Es → List Expr → Bool
  | .nil, xs => xs.isEmpty
  | .cons e es, xs => match xs with
    | x :: xs => chkE c lm sc e x && chkEs c lm sc es xs
    | [] => false
def chkO (c : Cfg) (lm : Bool) (sc : Scope) : Oe → Option Expr → Bool
  | .none, x => x.isNone
  | .some e, x => match x with
    | some x => chkE c lm sc e x
    | none => false
def chkOc (c : Cfg) (lm : Bool) (sc : Scope) : Oc → List Expr → Bool
  | .yes, xs => xs.isEmpty
  | .some t, xs => match xs with
    | [x] => chkC c lm sc t x
    | _ => false
def chkC (c : Cfg) (lm : Bool) (sc : Scope) : C → Expr → Bool
  | .cmp o a b, e => match e with
    | .Compare x [p] [y] _ => cpB o p && noSet y && chkE c lm sc a x && chkE c lm sc b y
    | _ => false
  | .chain o o' a b d, e => match e with
    | .Compare x [p, q] [y, z] _ => cpB o p && cpB o' q && noSet z && chkE c lm sc a x && chkE c lm sc b y && chkE c lm sc d z
    | _ => false
  | .and a b, e => match e with
    | .BoolOp p (x :: y :: rest) pos => decide (p = .And) && chkC c lm sc a x && (match rest with
      | [] => chkC c lm sc b y
      | z :: r => chkC c lm sc b (.BoolOp .And (y :: z :: r) pos))
    | _ => false
  | .or a b, e => match e with
    | .BoolOp p (x :: y :: rest) pos => decide (p = .Or) && chkC c lm sc a x && (match rest with
      | [] => chkC c lm sc b y
      | z :: r => chkC c lm sc b (.BoolOp .Or (y :: z :: r) pos))
    | _ => false
  | .not a, e => match e with
    | .UnaryOp p x _ => decide (p = .Not) && chkC c lm sc a x
    | _ => false
  | .tru a, e => plainTest e && chkE c lm sc a e
  | .isN a, e => match e with
    | .Compare x [p] [.Constant .none _ _] _ => decide (p = .Is) && chkE c lm sc a x
    | _ => false
  | .notN a, e => match e with
    | .Compare x [p] [.Constant .none _ _] _ => decide (p = .IsNot) && chkE c lm sc a x
    | _ => false
def chkI (c : Cfg) (lm : Bool) (sc : Scope) : I → Expr → Expr → Bool
  | .seq a, _, e => chkE c lm sc a e
  | .rng1 a, _, e => match e with
    | .Call (.Name f _) [x] [] _ => decide (f = "range") && glB sc f && c.bl f && noStar x && chkE c lm sc a x
    | _ => false
  | .rng2 a b, _, e => match e with
    | .Call (.Name f _) [x, y] [] _ => decide (f = "range") && glB sc f && c.bl f && noStar x && noStar y && chkE c lm sc a x && chkE c lm sc b y
    | _ => false
  | .zip a b, t, e => match t, e with
    | .Tuple _ _ _, .Call (.Name f _) [x, y] [] _ => decide (f = "zip") && glB sc f && c.bl f && noStar x && noStar y && chkE c lm sc a x && chkE c lm sc b y
    | _, _ => false
  | .enum a, t, e => match t, e with
    | .Tuple _ _ _, .Call (.Name f _) [x] [] _ => decide (f = "enumerate") && glB sc f && c.bl f && noStar x && chkE c lm sc a x
    | _, _ => false
end
end Mn
set_option Elab.async false
set_option linter.all false
set_option maxRecDepth 100000
set_option maxHeartbeats 1000000
namespace Mn
open PySem PySem.Spec PyProof.Rows L2

/-- what is known where the program runs -/
structure CxOk (X : Cx) (A : Ad) (Γ : Ctx) (c : Cfg) (sc : Scope) (Wx : WX) : Prop where
  scp : X.env.scope = sc
  N : X.N = c.N
  nd : X.N.Nodup
  calm : X.calm = true
  tk : Takes X Wx
  kind : sc.kind = .function
  units : X.A.units + 65 < cLine
  guards : Γ.g = true → X.A.guards = some []
  calls : ∀ f n, c.ar f = some n → X.mg f = some (.ref (A f)) ∧ PySem.W.keepIn X.K (.ref (A f)) = true ∧ ∃ k fd ps, FnG Γ.g X.prog X.w X.K X.mg X.base k (A f) fd ps (spC X.K A n (Γ.call Γ.g f)) ∧ Room k X.A ∧ Binds X.K fd ps []
  glo : ∀ x d, c.gl x = true → Γ.glo x = some d → ∃ v u, X.mg x = some u ∧ RelV v u ∧ ∀ F, Dq X.K F v d
  bl : ∀ x, c.bl x = true → X.mg x = none
  exn : ∀ x, c.exn x = true → ∃ bmB B newId initId, ExcBaseFacts B newId initId bmB ∧ PySem.W.excIn X.K (A x) bmB newId = true ∧ X.mg x = some (.ref (A x)) ∧ PySem.W.keepIn X.K (.ref (A x)) = true ∧ Raises X (.ref (A x))
/-- g(lambda: ..) -/
def HeardOk (X : Cx) (A : Ad) (Γ : Ctx) (c : Cfg) (sc : Scope) (Wx : WX) : Prop := ∀ g hs, Γ.told g = some hs → ∀ (body : Expr) (scope : Scope) (p lpos pos : Pos) (ev : Env → Res (R × Env)), glB sc g = true → LamX.lamSB sc scope = true →
  (∀ Y Wy, CxOk Y A { Γ with g := false, told := fun _ => none } c scope Wy → PE Y body (RdE Y.K A Wy ev)) → PE X (.Call (.Name g p) [.Lambda ⟨[], [], none, [], [], none, []⟩ body scope lpos] [] pos) (RdE X.K A Wx (heardEv hs ev))
section
variable {X : Cx} {A : Ad} {Γ : Ctx} {c : Cfg} {sc : Scope} {Wx : WX}
theorem CxOk.blk (h : CxOk X A Γ c sc Wx) {s : Shared} {H : Hp} {C : Addr} {cl : List (Str × Addr)} {fp : List Addr} {scope : Scope} (hk : scope.kind = .function) :
    CxOk (X.blk s H scope (compEnvC scope cl C X.env) fp) A Γ c (relS sc scope) (fun _ _ _ _ => False) where
  scp := by rw [← h.scp]; rfl
  N := h.N
  nd := h.nd
  calm := h.calm
  tk := LamX.takes0
  kind := hk
  units := h.units
  guards := h.guards
  calls := h.calls
  glo := h.glo
  bl := h.bl
  exn := h.exn
theorem CxOk.gl (h : CxOk X A Γ c sc Wx) {x : Str} (g : glB sc x = true) : Gl X x ∧ (x == ("__debug__" : Str)) = false := by
  unfold glB at g
  simp only [Bool.and_eq_true, decide_eq_true_eq, Bool.not_eq_true'] at g
  exact ⟨by show X.env.scope.names.lookup x = _; rw [h.scp]; exact g.1, g.2⟩
theorem CxOk.var (h : CxOk X A Γ c sc Wx) {x : Str} {i : Nat} {p : Pos} (hi : c.N[i]? = some x) (g : visB sc x = true) : PE X (.Name x p) (tVar i) := by
  unfold visB at g
  simp only [Bool.and_eq_true, Bool.or_eq_true, decide_eq_true_eq, Bool.not_eq_true'] at g
  obtain ⟨⟨v, d⟩, cd⟩ := g
  refine pe_var (by rw [h.N]; exact hi) ?_ d cd
  unfold Vis
  rw [h.scp]
  rcases v with (v | v) | v
  · exact .inl v
  · exact .inr (.inl v)
  · exact .inr (.inr v)
theorem CxOk.pg (h : CxOk X A Γ c sc Wx) {sf : Scope} (hf : ∀ x, sf.names.lookup x = some .cell → X.fn x = true) {x : Str} {i : Nat} {p : Pos} (hi : c.N[i]? = some x) (g : stoB sc sf x = true) : PG X (.Name x p) (gName i) := by
  unfold stoB at g
  simp only [Bool.and_eq_true, Bool.or_eq_true, decide_eq_true_eq] at g
  refine pg_name h.nd (by rw [h.N]; exact hi) (by unfold L2.Loc; rw [h.scp]; exact g.imp id And.left) ?_
  rcases g with g | g
  · exact .inr (by rw [h.scp]; exact g)
  · exact .inl (hf x g.2)
theorem go_ok (h : CxOk X A Γ c sc Wx) {sf : Scope} (hf : ∀ x, sf.names.lookup x = some .cell → X.fn x = true) : ∀ {is : List Nat} {es : List Expr}, chkTg.go c.N sc sf is es = true → PGs X es (gRow is) ∧ (assignEach es X.env).length = is.length ∧ (assignEach es X.env).findIdx? (·.1) = none
  | [], [], _ => ⟨pgs_nil, rfl, rfl⟩
  | [], e :: es, g => by simp [chkTg.go] at g
  | i :: is, [], g => by simp [chkTg.go] at g
  | i :: is, e :: es, g => by
    cases e with
    | Name x p =>
      simp only [chkTg.go, Bool.and_eq_true, decide_eq_true_eq] at g
      obtain ⟨⟨g1, g2⟩, g3⟩ := g
      obtain ⟨q1, q2, q3⟩ := go_ok h hf g3
      refine ⟨pgs_cons (h.pg hf g1 g2) q1 rfl, ?_, ?_⟩
      · show (assignEach es X.env).length + 1 = _
        rw [q2]; rfl
      · show List.findIdx? _ ((false, _) :: assignEach es X.env) = none
        rw [List.findIdx?_cons]
        simp only [Bool.false_eq_true, if_false]
        rw [q3]; rfl
    | _ => simp [chkTg.go] at g
theorem tg_ok (h : CxOk X A Γ c sc Wx) {sf : Scope} (hf : ∀ x, sf.names.lookup x = some .cell → X.fn x = true) {t : Tg} {e : Expr} (g : chkTg c.N sc sf t e = true) : PG X e (RdG X.K t) := by
  cases t with
  | one i =>
    cases e with
    | Name x p =>
      simp only [chkTg, Bool.and_eq_true, decide_eq_true_eq] at g
      exact h.pg hf g.1 g.2
    | _ => simp [chkTg] at g
  | row is =>
    cases e with
    | Tuple es k p =>
      simp only [chkTg] at g
      obtain ⟨q1, q2, q3⟩ := go_ok h hf g
      exact pg_tup h.calm q1 q2 q3
    | _ => simp [chkTg] at g
theorem noSet_folded {e : Expr} (h : noSet e = true) (env : PySem.Env) (x : Value) : foldedSetIterable e env x = pure x := by
  cases e <;> first | rfl | cases h
theorem tsl {t : Tg} {own : List Nat} (h : t.slots.all (fun j => own.contains j) = true) : ∀ j ∈ t.slots, j ∈ own := fun j hj => List.contains_iff_mem.mp (List.all_eq_true.mp h j hj)
theorem repr_g {g : Bool} {xs : List D} {r : R} (e : bltD g .repr xs = some r) : g = true := by
  unfold bltD at e
  split at e <;> first | (rename_i h; cases h; done) | skip
  all_goals first | (cases e; done) | skip
  split at e
  · rename_i h
    simp only [Bool.and_eq_true] at h
    exact h.1.1.1.1.1
  · cases e
/-- the built-ins -/
theorem bltCall (h : CxOk X A Γ c sc Wx) {b : Blt} {es : List Expr} {p pos : Pos} {evs : Env → Res (List R × Env)} (hg : glB sc b.name = true) (hb : c.bl b.name = true) (hne : es ≠ []) (hs : es.all noStar = true) (ha : PA X es (RdA X.K A Wx evs))
    (h1 : b ≠ .isStr) (h2 : b ≠ .isTup) (h3 : b ≠ .sset) : PE X (.Call (.Name b.name p) es [] pos) (RdE X.K A Wx (bltEv Γ.g b evs)) := by
  obtain ⟨gl, db⟩ := h.gl hg
  have hm := h.bl _ hb
  match es, hne, hs, ha with
  | e :: es, _, hs, ha =>
    cases b with
    | len => exact rd_bltB (id := "len") call_len gl hm boot_len (by decide) db ha hs h1 h2 h3
    | abs => exact rd_bltB (id := "abs") call_abs gl hm (by decide +kernel) (by decide) db ha hs h1 h2 h3
    | int => exact rd_bltT (id := "int") call_int1 gl hm (by decide +kernel) (by decide) db ha hs h1 h2 h3
    | tuple => exact rd_bltT (id := "tuple") call_tuple_of gl hm (by decide +kernel) (by decide) db ha hs h1 h2 h3
    | list => exact rd_bltT (id := "list") call_list_of gl hm (by decide +kernel) (by decide) db ha hs h1 h2 h3
    | sorted => exact rd_bltB (id := "sorted") (cr_sortD h.units) gl hm (by decide +kernel) (by decide) db ha hs h1 h2 h3
    | repr => 
      rw [List.all_cons, Bool.and_eq_true] at hs
      have hc : CallR X (.builtin "repr") (fun xs H Q => X.A.guards = some [] ∧ bltRule X.K .repr xs H Q) := fun pins s σ H x u Q I rx ⟨g, q⟩ => cr_reprD h.units g pins s σ H x u Q I rx q
      refine PE_imp (pe_callB hc gl hm (by decide +kernel) ha (by decide) db (star_head (noStar_ne hs.1)) (star_plain hs.2)) fun σ H Q ⟨B, ρ, T, at_, gg⟩ => ?_
      refine ⟨B, ρ, T, at_, (gd_bind.mp gg).mono (fun ⟨rs, ρ1⟩ g1 vs H1 hl ⟨F, O, S⟩ => ?_) fun _ _ h => h⟩
      obtain ⟨xs, e1, g2⟩ := gd_of (gd_bind.mp g1)
      obtain ⟨r, e2, g3⟩ := gd_of (gd_bind.mp g2)
      exact ⟨h.guards (repr_g e2), blt_sound S hl e1 e2 g3 h1 h2 h3⟩
    | all => exact rd_bltB (id := "all") (cr_all h.calm) gl hm (by decide +kernel) (by decide) db ha hs h1 h2 h3
    | any => exact rd_bltB (id := "any") (cr_any h.calm) gl hm (by decide +kernel) (by decide) db ha hs h1 h2 h3
    | min2 => exact rd_bltB (id := "min") (call_min2 h.calm) gl hm (by decide +kernel) (by decide) db ha hs h1 h2 h3
    | max2 => exact rd_bltB (id := "max") (call_max2 h.calm) gl hm (by decide +kernel) (by decide) db ha hs h1 h2 h3
    | isStr => exact absurd rfl h1
    | isTup => exact absurd rfl h2
    | sset => exact absurd rfl h3
end
end Mn
set_option Elab.async false
set_option linter.all false
set_option maxRecDepth 100000
set_option maxHeartbeats 4000000
namespace Mn
open PySem PySem.Spec PyProof.Rows L2
section
variable {X : Cx} {A : Ad} {Γ : Ctx} {c : Cfg} {sc : Scope} {Wx : WX}
theorem PE_ev {X : Cx} {A : Ad} {Wx : WX} {x : Expr} {ev ev' : Env → Res (R × Env)} (h : PE X x (RdE X.K A Wx ev)) (e : ∀ ρ, ev' ρ = ev ρ) : PE X x (RdE X.K A Wx ev') := (funext e : ev' = ev) ▸ h
theorem PA_ev {X : Cx} {A : Ad} {Wx : WX} {x : List Expr} {ev ev' : Env → Res (List R × Env)} (h : PA X x (RdA X.K A Wx ev)) (e : ∀ ρ, ev' ρ = ev ρ) : PA X x (RdA X.K A Wx ev') := (funext e : ev' = ev) ▸ h
theorem PT_ev {X : Cx} {A : Ad} {Wx : WX} {x : Expr} {ev ev' : Env → Res (Bool × Env)} (h : PT X x (RdT X.K A Wx ev)) (e : ∀ ρ, ev' ρ = ev ρ) : PT X x (RdT X.K A Wx ev') := (funext e : ev' = ev) ▸ h
theorem PW_ev {X : Cx} {A : Ad} {Wx : WX} {x : Expr} {ev ev' : Env → Res (Bool × Env)} (h : PW X x (RdT X.K A Wx ev)) (e : ∀ ρ, ev' ρ = ev ρ) : PW X x (RdT X.K A Wx ev') := (funext e : ev' = ev) ▸ h
theorem PTs_ev {X : Cx} {A : Ad} {Wx : WX} {x : List Expr} {ev ev' : Env → Res (Bool × Env)} (h : PTs X x (RdT X.K A Wx ev)) (e : ∀ ρ, ev' ρ = ev ρ) : PTs X x (RdT X.K A Wx ev') := (funext e : ev' = ev) ▸ h
theorem PO_ev {X : Cx} {A : Ad} {Wx : WX} {x : Option Expr} {ev ev' : Env → Res (Option Int × Env)} (h : PO X x (RdO X.K A Wx ev)) (e : ∀ ρ, ev' ρ = ev ρ) : PO X x (RdO X.K A Wx ev') := (funext e : ev' = ev) ▸ h
theorem PI_ev {X : Cx} {A : Ad} {Wx : WX} {t x : Expr} {ev ev' : Env → Res (List D × Env)} (h : PI X t x (RdI X.K A Wx ev)) (e : ∀ ρ, ev' ρ = ev ρ) : PI X t x (RdI X.K A Wx ev') := (funext e : ev' = ev) ▸ h
theorem pe_no {X : Cx} {x : Expr} : PE X x (fun _ _ _ => False) := ⟨fun _ _ _ _ _ _ h => h.elim⟩
theorem rdts_nil {X : Cx} {A : Ad} {Wx : WX} : PTs X [] (RdT X.K A Wx fun ρ => .ok (true, ρ)) := ⟨fun pins s σ H Q I ⟨B, ρ, T, at_, g⟩ => pts_nil.run pins s σ H Q I (g H at_)⟩
/-- a method's call -/
theorem mth_ok (h : CxOk X A Γ c sc Wx) {i : Nat} {m : Str} {f : Expr} {p : Pos} (g : mthB c.N sc i m f p = true) : ∃ nm apos, f = .Attribute nm m apos ∧ PE X nm (tVar i) ∧ attributeBase nm m X.env (eval nm X.env) = eval nm X.env ∧ (apos.endLine == p.line) = true := by
  unfold mthB at g
  split at g
  · rename_i x p2 m' apos
    simp only [Bool.and_eq_true, beq_iff_eq, decide_eq_true_eq] at g
    obtain ⟨⟨⟨g1, g2⟩, g3⟩, g4⟩ := g
    subst g1
    exact ⟨_, _, rfl, h.var g2 g3, base_name, by rw [g4]; exact beq_self_eq_true _⟩
  · cases g
theorem evEs_len {Γ : Ctx} : ∀ {es : Es} {xs : List Expr} {c : Cfg} {lm : Bool} {sc : Scope} {ρ ρ' : Env} {rs : List R}, chkEs c lm sc es xs = true → evEs Γ es ρ = .ok (rs, ρ') → rs.length = xs.length
  | .nil, [], _, _, _, ρ, ρ', rs, _, e => by
    rw [evEs] at e
    cases e
    rfl
  | .nil, x :: xs, _, _, _, ρ, ρ', rs, g, e => by simp [chkEs] at g
  | .cons a es, [], _, _, _, ρ, ρ', rs, g, e => by simp [chkEs] at g
  | .cons a es, x :: xs, c, lm, sc, ρ, ρ', rs, g, e => by
    simp only [chkEs, Bool.and_eq_true] at g
    rw [evEs] at e
    cases q : evE Γ a ρ with
    | stuck => rw [q] at e; cases e
    | ex c ρ1 => rw [q] at e; cases e
    | ok z =>
      obtain ⟨r, ρ1⟩ := z
      rw [q] at e
      have e' : (evEs Γ es ρ1 >>= fun z => (.ok (r :: z.1, z.2) : Res (List R × Env))) = .ok (rs, ρ') := e
      cases q2 : evEs Γ es ρ1 with
      | stuck => rw [q2] at e'; cases e'
      | ex c ρ1 => rw [q2] at e'; cases e'
      | ok z =>
        obtain ⟨rs2, ρ2⟩ := z
        rw [q2] at e'
        have e2 : (.ok (r :: rs2, ρ2) : Res (List R × Env)) = .ok (rs, ρ') := e'
        cases e2
        simp [evEs_len g.2 q2]
end
theorem blt_cases {c : Cfg} {sc : Scope} {b : Blt} {f : Str} {xs ys : List Expr} (h : bltArgs c sc b f xs = some ys) :
    (∃ (n : String) (x : Expr) (n' : Str) (p : Pos), ((b = .isStr ∧ n = "str") ∨ (b = .isTup ∧ n = "tuple")) ∧ xs = [x, .Name n' p] ∧ ys = [x] ∧ f = "isinstance" ∧ glB sc f = true ∧ c.bl f = true ∧ n' = n ∧ glB sc n' = true ∧ c.bl n' = true) ∨
    (∃ (x : Expr) (n : Str) (p p2 : Pos), b = .sset ∧ xs = [.Call (.Name n p) [x] [] p2] ∧ ys = [x] ∧ f = "sorted" ∧ glB sc f = true ∧ c.bl f = true ∧ n = "set" ∧ glB sc n = true ∧ c.bl n = true) ∨
    (b ≠ .isStr ∧ b ≠ .isTup ∧ b ≠ .sset ∧ f = b.name ∧ glB sc f = true ∧ c.bl f = true ∧ xs ≠ [] ∧ ys = xs) := by
  unfold bltArgs at h
  split at h
  · split at h
    · split at h
      · rename_i x n p q
        cases h
        exact .inl ⟨"str", x, n, p, .inl ⟨rfl, rfl⟩, rfl, rfl, q.1, q.2.1, q.2.2.1, q.2.2.2.1, q.2.2.2.2.1, q.2.2.2.2.2⟩
      · cases h
    · cases h
  · split at h
    · split at h
      · rename_i x n p q
        cases h
        exact .inl ⟨"tuple", x, n, p, .inr ⟨rfl, rfl⟩, rfl, rfl, q.1, q.2.1, q.2.2.1, q.2.2.2.1, q.2.2.2.2.1, q.2.2.2.2.2⟩
      · cases h
    · cases h
  · split at h
    · split at h
      · rename_i n p x p2 q
        cases h
        exact .inr (.inl ⟨x, n, p, p2, rfl, rfl, rfl, q.1, q.2.1, q.2.2.1, q.2.2.2.1, q.2.2.2.2.1, q.2.2.2.2.2⟩)
      · cases h
    · cases h
  · rename_i n1 n2 n3
    split at h
    · rename_i q
      cases h
      exact .inr (.inr ⟨n1, n2, n3, q.1, q.2.1, q.2.2.1, by simpa using q.2.2.2, rfl⟩)
    · cases h
theorem isi_ev {Γ : Ctx} {b : Blt} {e : E} {ρ : Env} : evE Γ (.blt b (.cons e .nil)) ρ = (do
    let (x, ρ) ← evE Γ e ρ
    let u ← Res.of (x.peek ρ)
    let r ← Res.of (bltD Γ.g b [u])
    .ok (r, ρ)) := by
  rw [evE, evEs]
  cases evE Γ e ρ with
  | stuck => rfl
  | ex c ρ1 => rfl
  | ok z =>
    obtain ⟨x, ρ1⟩ := z
    show (do
      let (rs, ρ) ← (do
        let (rs, ρ) ← evEs Γ .nil ρ1
        .ok (x :: rs, ρ) : Res (List R × Env))
      let xs ← Res.of (peekAll ρ rs)
      let r ← Res.of (bltD Γ.g b xs)
      .ok (r, ρ) : Res (R × Env)) = _
    rw [evEs]
    show (do
      let xs ← Res.of (peekAll ρ1 [x])
      let r ← Res.of (bltD Γ.g b xs)
      .ok (r, ρ1) : Res (R × Env)) = (do
      let u ← Res.of (x.peek ρ1)
      let r ← Res.of (bltD Γ.g b [u])
      .ok (r, ρ1))
    unfold peekAll peekAll
    cases x.peek ρ1 <;> rfl
/-! ## what is checked stands for its text -/
mutual
theorem okE {X : Cx} {A : Ad} {Γ : Ctx} {c : Cfg} {sc : Scope} {Wx : WX} {lm : Bool} (h : CxOk X A Γ c sc Wx) (hd : lm = true → HeardOk X A Γ c sc Wx) : ∀ (e : E) (x : Expr), chkE c lm sc e x = true → PE X x (RdE X.K A Wx (evE Γ e))
  | .non, x, g => by
    simp only [chkE] at g
    split at g
    · exact PE_ev (rd_c pe_non fun _ => .non) fun ρ => by (first | (rw [evE]; done) | (rw [evE]; rfl))
    · cases g
  | .bl b, x, g => by
    simp only [chkE] at g
    split at g
    · cases of_decide_eq_true g
      exact PE_ev (rd_c pe_bl fun _ => .bl _) fun ρ => by (first | (rw [evE]; done) | (rw [evE]; rfl))
    · cases g
  | .int i, x, g => by
    simp only [chkE] at g
    split at g
    · cases of_decide_eq_true g
      exact PE_ev (rd_c pe_int fun _ => .int _) fun ρ => by (first | (rw [evE]; done) | (rw [evE]; rfl))
    · cases g
  | .str s, x, g => by
    simp only [chkE] at g
    split at g
    · cases of_decide_eq_true g
      exact PE_ev (rd_c pe_str fun _ => .str _) fun ρ => by (first | (rw [evE]; done) | (rw [evE]; rfl))
    · cases g
  | .var i, x, g => by
    simp only [chkE] at g
    split at g
    · simp only [Bool.and_eq_true, decide_eq_true_eq] at g
      exact rd_var Γ (h.var g.1 g.2)
    · cases g
  | .glo y, x, g => by
    simp only [chkE] at g
    split at g
    · rename_i z p
      simp only [Bool.and_eq_true, decide_eq_true_eq] at g
      obtain ⟨⟨g1, g2⟩, g3⟩ := g
      subst g1
      obtain ⟨gl, db⟩ := h.gl g2
      cases q : Γ.glo y with
      | none =>
        refine PE_imp (pe_no (X := X)) fun σ H Q ⟨B, ρ, T, at_, g⟩ => ?_
        rw [evE, q] at g
        exact (show False from g).elim
      | some d =>
        obtain ⟨v, u, e1, e2, e3⟩ := h.glo y d g3 q
        exact PE_ev (rd_c (pe_glob gl e1 e2 db) e3) fun ρ => by rw [evE, q]
    · cases g
  | .fn _, x, g => by simp [chkE] at g
  | .tup es, x, g => by
    simp only [chkE] at g
    split at g
    · simp only [Bool.and_eq_true] at g
      exact PE_ev (rd_tup (okEs h hd es _ g.2 g.1)) fun ρ => by (first | (rw [evE]; done) | (rw [evE]; rfl))
    · cases g
  | .lst es, x, g => by
    simp only [chkE] at g
    split at g
    · simp only [Bool.and_eq_true] at g
      exact PE_ev (rd_lst (okEs h hd es _ g.2 g.1)) fun ρ => by (first | (rw [evE]; done) | (rw [evE]; rfl))
    · cases g
  | .op o a b, x, g => by
    simp only [chkE] at g
    split at g
    · simp only [Bool.and_eq_true] at g
      obtain ⟨⟨g1, g2⟩, g3⟩ := g
      cases opB_eq g1
      exact PE_ev (rd_op (okE h hd a _ g2) (okE h hd b _ g3)) fun ρ => by (first | (rw [evE]; done) | (rw [evE]; rfl))
    · cases g
  | .rep a b, x, g => by
    simp only [chkE] at g
    split at g
    · simp only [Bool.and_eq_true, decide_eq_true_eq] at g
      obtain ⟨⟨g1, g2⟩, g3⟩ := g
      subst g1
      exact PE_ev (rd_rep (okE h hd a _ g2) (okE h hd b _ g3)) fun ρ => by (first | (rw [evE]; done) | (rw [evE]; rfl))
    · cases g
  | .ite t a b, x, g => by
    simp only [chkE] at g
    split at g
    · simp only [Bool.and_eq_true] at g
      obtain ⟨⟨g1, g2⟩, g3⟩ := g
      exact PE_ev (rd_ite (okC h hd t _ g1).1 (okE h hd a _ g2) (okE h hd b _ g3)) fun ρ => by (first | (rw [evE]; done) | (rw [evE]; rfl))
    · cases g
  | .call f es, x, g => by
    simp only [chkE] at g
    split at g
    · rename_i f' p xs pos
      simp only [Bool.and_eq_true, decide_eq_true_eq] at g
      obtain ⟨⟨⟨⟨g1, g2⟩, g3⟩, g4⟩, g5⟩ := g
      subst g1
      obtain ⟨gl, db⟩ := h.gl g2
      obtain ⟨c1, c2, k, fd, ps, c3, c4, c5⟩ := h.calls f _ g3
      by_cases hx : xs = []
      · subst hx
        refine PE_ev (rd_call0 c3 h.guards c4 c5 h.tk gl c1 c2 db) fun ρ => ?_
        match es, g5 with
        | .nil, _ => rw [evE, evEs]
        | .cons _ _, g5 => simp [chkEs] at g5
      · exact PE_ev (rd_call (n := xs.length) c3 h.guards c4 c5 h.tk gl c1 c2 (okEs h hd es _ g5 g4) g4 hx db rfl fun ρ rs ρ' e => evEs_len g5 e) fun ρ => by (first | (rw [evE]; done) | (rw [evE]; rfl))
    · cases g
  | .blt b es, x, g => by
    simp only [chkE] at g
    split at g
    · rename_i f p xs pos
      split at g
      · rename_i ys q
        simp only [Bool.and_eq_true] at g
        obtain ⟨g1, g2⟩ := g
        rcases blt_cases q with ⟨n, x, n', p2, q1, q2, q3, q4, q5, q6, q7, q8, q9⟩ | ⟨x, n', p2, p3, q1, q2, q3, q4, q5, q6, q7, q8, q9⟩ | ⟨q1, q2, q3, q4, q5, q6, q7, q8⟩
        · subst q2 q3 q4 q7
          match es, g2 with
          | .nil, g2 => simp [chkEs] at g2
          | .cons e .nil, g2 =>
            simp only [chkEs, Bool.and_eq_true] at g2
            simp only [List.all_cons, Bool.and_eq_true] at g1
            exact PE_ev (rd_isi (g := Γ.g) (b := b) (n := n) q1 (h.gl q5).1 (h.bl _ q6) (h.gl q8).1 (h.bl _ q9) (okE h hd e _ g2.1) g1.1) fun ρ => isi_ev
          | .cons e (.cons _ _), g2 => simp [chkEs] at g2
        · subst q1 q2 q3 q4 q7
          match es, g2 with
          | .nil, g2 => simp [chkEs] at g2
          | .cons e .nil, g2 =>
            simp only [chkEs, Bool.and_eq_true] at g2
            simp only [List.all_cons, Bool.and_eq_true] at g1
            exact PE_ev (rd_sset (g := Γ.g) h.calm h.units (h.gl q5).1 (h.bl _ q6) (h.gl q8).1 (h.bl _ q9) (okE h hd e _ g2.1) g1.1) fun ρ => isi_ev
          | .cons e (.cons _ _), g2 => simp [chkEs] at g2
        · subst q4 q8
          exact PE_ev (bltCall h q5 q6 q7 g1 (okEs h hd es _ g2 g1) q1 q2 q3) fun ρ => by (first | (rw [evE]; done) | (rw [evE]; rfl))
      · cases g
    · cases g
  | .idx a i, x, g => by
    simp only [chkE] at g
    split at g
    · simp only [Bool.and_eq_true] at g
      obtain ⟨⟨g1, g2⟩, g3⟩ := g
      exact PE_ev (rd_idx g1 (okE h hd a _ g2) (okE h hd i _ g3)) fun ρ => by (first | (rw [evE]; done) | (rw [evE]; rfl))
    · cases g
  | .slc a lo hi, x, g => by
    simp only [chkE] at g
    split at g
    · simp only [Bool.and_eq_true] at g
      obtain ⟨⟨g1, g2⟩, g3⟩ := g
      exact PE_ev (rd_slc (okE h hd a _ g1) (okO h hd lo _ g2) (okO h hd hi _ g3)) fun ρ => by (first | (rw [evE]; done) | (rw [evE]; rfl))
    · cases g
  | .lc elt tg it t own, x, g => by
    simp only [chkE] at g
    split at g
    · rename_i xe tgx ix ifs scope pos
      simp only [Bool.and_eq_true, decide_eq_true_eq] at g
      obtain ⟨⟨⟨⟨⟨⟨⟨g1, g2⟩, g3⟩, g4⟩, g5⟩, g6⟩, g7⟩, g8⟩ := g
      have ok : BlkOk X.N X.env.scope scope (ownP c.N scope) := by rw [h.N, h.scp]; exact blkOk_by g1
      have nd : X.N.Nodup := h.nd
      refine PE_imp (pe_lc (g := RdG X.K tg) (tt := RdT X.K A (fun _ _ _ _ => False) (evOc Γ t)) (te := RdE X.K A (fun _ _ _ _ => False) (evE Γ elt)) h.calm nd (okI h hd it tgx ix g6) ok (fun s H C cl fp => tg_ok (h.blk ok.kind) (sf := scope) (fun x hx => by show (scope.names.lookup x == some .cell) = true; rw [hx]; rfl) g3)
        (fun s H C cl fp => okOc (lm := false) (h.blk ok.kind) (fun z => Bool.noConfusion z) t ifs g7) (fun s H C cl fp => okE (lm := false) (h.blk ok.kind) (fun z => Bool.noConfusion z) elt xe g8) (noSet_folded g5 _)) fun σ H Q q => ?_
      rw [g2]
      refine lc_sound (tsl g4) ?_
      rwa [show evE Γ (.lc elt tg it t own) = _ from funext fun ρ => evE.eq_def _ _ _] at q
    · cases g
  | .lc2 elt t1 i1 c1 t2 i2 c2 own own2, x, g => by
    simp only [chkE] at g
    split at g
    · rename_i xe tgx ix ifs tgx2 ix2 ifs2 scope pos
      simp only [Bool.and_eq_true, decide_eq_true_eq] at g
      obtain ⟨⟨⟨⟨⟨⟨⟨⟨⟨⟨⟨⟨⟨g1, g2⟩, g3⟩, g4⟩, g5⟩, g6⟩, g7⟩, g8⟩, g9⟩, g10⟩, g11⟩, g12⟩, g13⟩, g14⟩ := g
      have ok : BlkOk X.N X.env.scope scope (ownP c.N scope) := by rw [h.N, h.scp]; exact blkOk_by g1
      have nd : X.N.Nodup := h.nd
      have hfs : ∀ x, scope.names.lookup x = some .cell → (scope.names.lookup x == some .cell) = true := fun x hx => by rw [hx]; rfl
      have i21 : ∀ j ∈ own2, j ∈ own := fun j hj => List.contains_iff_mem.mp (List.all_eq_true.mp g5 j hj)
      refine PE_imp (pe_lc2 (vs1 := own2) (wi1 := RdI X.K A (fun _ _ _ _ => False) (evI Γ i2)) (g := RdG X.K t1) (g1 := RdG X.K t2) (tt := RdT X.K A (fun _ _ _ _ => False) (evOc Γ c1)) (tt1 := RdT X.K A (fun _ _ _ _ => False) (evOc Γ c2)) (te := RdE X.K A (fun _ _ _ _ => False) (evE Γ elt)) h.calm nd (okI h hd i1 tgx ix g9) ok (by rw [g2]; exact i21) (fun s H C cl fp => tg_ok (h.blk ok.kind) (sf := scope) hfs g3)
        (fun s H C cl fp => okOc (lm := false) (h.blk ok.kind) (fun z => Bool.noConfusion z) c1 ifs g10) (fun s H C cl fp => okI (lm := false) (h.blk ok.kind) (fun z => Bool.noConfusion z) i2 tgx2 ix2 g12) (fun s H C cl fp => tg_ok (h.blk ok.kind) (sf := scope) hfs g11)
        (fun s H C cl fp => okOc (lm := false) (h.blk ok.kind) (fun z => Bool.noConfusion z) c2 ifs2 g13) (fun s H C cl fp => okE (lm := false) (h.blk ok.kind) (fun z => Bool.noConfusion z) elt xe g14) (noSet_folded g7 _) (noSet_folded g8)) fun σ H Q q => ?_
      rw [g2]
      refine lc2_sound (tsl g4) (tsl g6) i21 ?_
      rwa [show evE Γ (.lc2 elt t1 i1 c1 t2 i2 c2 own own2) = _ from funext fun ρ => evE.eq_def _ _ _] at q
    · cases g
  | .ofC (.cmp o a b), x, g => by
    simp only [chkE] at g
    split at g
    · simp only [Bool.and_eq_true] at g
      obtain ⟨⟨⟨g1, g2⟩, g3⟩, g4⟩ := g
      cases cpB_eq g1
      exact PE_ev (rd_cmp h.units g2 (okE h hd a _ g3) (okE h hd b _ g4)) fun ρ => by (first | (rw [evE, evC]; done) | (rw [evE, evC]; rfl))
    · cases g
  | .ofC (.not (.tru a)), x, g => by
    simp only [chkE] at g
    split at g
    · simp only [Bool.and_eq_true, decide_eq_true_eq] at g
      obtain ⟨g1, g2⟩ := g
      subst g1
      exact PE_ev (rd_notT (okE h hd a _ g2)) fun ρ => by (first | (rw [evE, evC, evC]; done) | (rw [evE, evC, evC]; rfl))
    · cases g
  | .ofC (.isN a), x, g => by
    simp only [chkE] at g
    split at g
    · simp only [Bool.and_eq_true, decide_eq_true_eq] at g
      obtain ⟨g1, g2⟩ := g
      subst g1
      exact PE_ev (rd_isN (okE h hd a _ g2)) fun ρ => by (first | (rw [evE, evC]; done) | (rw [evE, evC]; rfl))
    · cases g
  | .ofC (.notN a), x, g => by
    simp only [chkE] at g
    split at g
    · simp only [Bool.and_eq_true, decide_eq_true_eq] at g
      obtain ⟨g1, g2⟩ := g
      subst g1
      exact PE_ev (rd_notN (okE h hd a _ g2)) fun ρ => by (first | (rw [evE, evC]; done) | (rw [evE, evC]; rfl))
    · cases g
  | .ofC (.chain _ _ _ _ _), x, g => by simp [chkE] at g
  | .ofC (.and _ _), x, g => by simp [chkE] at g
  | .ofC (.or _ _), x, g => by simp [chkE] at g
  | .ofC (.tru _), x, g => by simp [chkE] at g
  | .ofC (.not (.cmp _ _ _)), x, g => by simp [chkE] at g
  | .ofC (.not (.chain _ _ _ _ _)), x, g => by simp [chkE] at g
  | .ofC (.not (.and _ _)), x, g => by simp [chkE] at g
  | .ofC (.not (.or _ _)), x, g => by simp [chkE] at g
  | .ofC (.not (.not _)), x, g => by simp [chkE] at g
  | .ofC (.not (.isN _)), x, g => by simp [chkE] at g
  | .ofC (.not (.notN _)), x, g => by simp [chkE] at g
  | .andV a b, x, g => by
    simp only [chkE] at g
    split at g
    · rename_i p x y rest pos
      simp only [Bool.and_eq_true, decide_eq_true_eq] at g
      obtain ⟨⟨g1, g2⟩, g3⟩ := g
      subst g1
      split at g3
      · exact PE_ev (rd_and (okE h hd a _ g2) (rd_one (okE h hd b _ g3))) fun ρ => by (first | (rw [evE]; done) | (rw [evE]; rfl))
      · exact PE_ev (rd_and (okE h hd a _ g2) (okE h hd b _ g3)) fun ρ => by (first | (rw [evE]; done) | (rw [evE]; rfl))
    · cases g
  | .orV a b, x, g => by
    simp only [chkE] at g
    split at g
    · rename_i p x y rest pos
      simp only [Bool.and_eq_true, decide_eq_true_eq] at g
      obtain ⟨⟨g1, g2⟩, g3⟩ := g
      subst g1
      split at g3
      · exact PE_ev (rd_or (okE h hd a _ g2) (rd_one (okE h hd b _ g3))) fun ρ => by (first | (rw [evE]; done) | (rw [evE]; rfl))
      · exact PE_ev (rd_or (okE h hd a _ g2) (okE h hd b _ g3)) fun ρ => by (first | (rw [evE]; done) | (rw [evE]; rfl))
    · cases g
  | .app i a, x, g => by
    simp only [chkE] at g
    split at g
    · simp only [Bool.and_eq_true] at g
      obtain ⟨⟨g1, g2⟩, g3⟩ := g
      obtain ⟨nm, apos, e1, e2, e3, e4⟩ := mth_ok h g1
      subst e1
      exact PE_ev (rd_app e2 e3 (okE h hd a _ g3) g2 e4) fun ρ => by (first | (rw [evE]; done) | (rw [evE]; rfl))
    · cases g
  | .ext i a, x, g => by
    simp only [chkE] at g
    split at g
    · simp only [Bool.and_eq_true] at g
      obtain ⟨⟨g1, g2⟩, g3⟩ := g
      obtain ⟨nm, apos, e1, e2, e3, e4⟩ := mth_ok h g1
      subst e1
      exact PE_ev (rd_ext e2 e3 (okE h hd a _ g3) g2 e4) fun ρ => by (first | (rw [evE]; done) | (rw [evE]; rfl))
    · cases g
  | .ins i a b, x, g => by
    simp only [chkE] at g
    split at g
    · simp only [Bool.and_eq_true] at g
      obtain ⟨⟨⟨⟨g1, g2⟩, g3⟩, g4⟩, g5⟩ := g
      obtain ⟨nm, apos, e1, e2, e3, e4⟩ := mth_ok h g1
      subst e1
      exact PE_ev (rd_ins e2 e3 (okE h hd a _ g4) (okE h hd b _ g5) g2 g3 e4) fun ρ => by (first | (rw [evE]; done) | (rw [evE]; rfl))
    · cases g
  | .pop i, x, g => by
    simp only [chkE] at g
    split at g
    · obtain ⟨nm, apos, e1, e2, e3, e4⟩ := mth_ok h g
      subst e1
      exact PE_ev (rd_pop e2 e3 e4) fun ρ => by (first | (rw [evE]; done) | (rw [evE]; rfl))
    · cases g
  | .heard f a, x, g => by
    simp only [chkE] at g
    split at g
    · simp only [Bool.and_eq_true, decide_eq_true_eq] at g
      obtain ⟨⟨⟨⟨g1, g2⟩, g3⟩, g4⟩, g5⟩ := g
      subst g2
      cases q : Γ.told f with
      | none =>
        refine PE_imp (pe_no (X := X)) fun σ H Q ⟨B, ρ, T, at_, g⟩ => ?_
        rw [evE, q] at g
        exact (show False from g).elim
      | some hs => exact PE_ev (hd g1 f hs q _ _ _ _ _ (evE { Γ with g := false, told := fun _ => none } a) g3 g4 fun Y Wy hy => okE (lm := false) hy (fun z => Bool.noConfusion z) a _ g5) fun ρ => by first | (rw [evE, q]; done) | (rw [evE, q]; rfl)
    · cases g
theorem okEs {X : Cx} {A : Ad} {Γ : Ctx} {c : Cfg} {sc : Scope} {Wx : WX} {lm : Bool} (h : CxOk X A Γ c sc Wx) (hd : lm = true → HeardOk X A Γ c sc Wx) : ∀ (es : Es) (xs : List Expr), chkEs c lm sc es xs = true → xs.all noStar = true → PA X xs (RdA X.K A Wx (evEs Γ es))
  | .nil, xs, g, _ => by
    simp only [chkEs, List.isEmpty_iff] at g
    subst g
    exact PA_ev rda_nil fun ρ => by (first | (rw [evEs]; done) | (rw [evEs]; rfl))
  | .cons e es, xs, g, hs => by
    simp only [chkEs] at g
    split at g
    · simp only [Bool.and_eq_true] at g
      rw [List.all_cons, Bool.and_eq_true] at hs
      exact PA_ev (rda_cons (okE h hd e _ g.1) (okEs h hd es _ g.2 hs.2) hs.1) fun ρ => by (first | (rw [evEs]; done) | (rw [evEs]; rfl))
    · cases g
theorem okO {X : Cx} {A : Ad} {Γ : Ctx} {c : Cfg} {sc : Scope} {Wx : WX} {lm : Bool} (h : CxOk X A Γ c sc Wx) (hd : lm = true → HeardOk X A Γ c sc Wx) : ∀ (e : Oe) (x : Option Expr), chkO c lm sc e x = true → PO X x (RdO X.K A Wx (evO Γ e))
  | .none, x, g => by
    simp only [chkO, Option.isNone_iff_eq_none] at g
    subst g
    exact PO_ev rdo_none fun ρ => by (first | (rw [evO]; done) | (rw [evO]; rfl))
  | .some e, x, g => by
    simp only [chkO] at g
    split at g
    · exact PO_ev (rdo_some (okE h hd e _ g)) fun ρ => by (first | (rw [evO]; done) | (rw [evO]; rfl))
    · cases g
theorem okOc {X : Cx} {A : Ad} {Γ : Ctx} {c : Cfg} {sc : Scope} {Wx : WX} {lm : Bool} (h : CxOk X A Γ c sc Wx) (hd : lm = true → HeardOk X A Γ c sc Wx) : ∀ (t : Oc) (xs : List Expr), chkOc c lm sc t xs = true → PTs X xs (RdT X.K A Wx (evOc Γ t))
  | .yes, xs, g => by
    simp only [chkOc, List.isEmpty_iff] at g
    subst g
    exact PTs_ev (rdts_nil) fun ρ => by (first | (rw [evOc]; done) | (rw [evOc]; rfl))
  | .some t, xs, g => by
    simp only [chkOc] at g
    split at g
    · exact PTs_ev (pts_one (okC h hd t _ g).1) fun ρ => by (first | (rw [evOc]; done) | (rw [evOc]; rfl))
    · cases g
theorem okC {X : Cx} {A : Ad} {Γ : Ctx} {c : Cfg} {sc : Scope} {Wx : WX} {lm : Bool} (h : CxOk X A Γ c sc Wx) (hd : lm = true → HeardOk X A Γ c sc Wx) : ∀ (t : C) (x : Expr), chkC c lm sc t x = true → PT X x (RdT X.K A Wx (evC Γ t)) ∧ ((∃ op vs pos, x = .BoolOp op vs pos) → PW X x (RdT X.K A Wx (evC Γ t)))
  | .cmp o a b, x, g => by
    simp only [chkC] at g
    split at g
    · simp only [Bool.and_eq_true] at g
      obtain ⟨⟨⟨g1, g2⟩, g3⟩, g4⟩ := g
      cases cpB_eq g1
      exact ⟨PT_ev (rdt_cmp h.units g2 (okE h hd a _ g3) (okE h hd b _ g4)) fun ρ => by (first | (rw [evC]; done) | (rw [evC]; rfl)), fun ⟨_, _, _, z⟩ => nomatch z⟩
    · cases g
  | .chain o o' a b d, x, g => by
    simp only [chkC] at g
    split at g
    · simp only [Bool.and_eq_true] at g
      obtain ⟨⟨⟨⟨⟨g1, g2⟩, g3⟩, g4⟩, g5⟩, g6⟩ := g
      cases cpB_eq g1
      cases cpB_eq g2
      exact ⟨PT_ev (rdt_chain h.units g3 (okE h hd a _ g4) (okE h hd b _ g5) (okE h hd d _ g6)) fun ρ => by (first | (rw [evC]; done) | (rw [evC]; rfl)), fun ⟨_, _, _, z⟩ => nomatch z⟩
    · cases g
  | .and a b, x, g => by
    simp only [chkC] at g
    split at g
    · rename_i p x y rest pos
      simp only [Bool.and_eq_true, decide_eq_true_eq] at g
      obtain ⟨⟨g1, g2⟩, g3⟩ := g
      subst g1
      have key : PW X (.BoolOp .And (x :: y :: rest) pos) (RdT X.K A Wx (evC Γ (.and a b))) := by
        split at g3
        · exact PW_ev (rdw_and (okC h hd a _ g2).1 (pw_and1 (okC h hd b _ g3).1)) fun ρ => by (first | (rw [evC]; done) | (rw [evC]; rfl))
        · exact PW_ev (rdw_and (okC h hd a _ g2).1 ((okC h hd b _ g3).2 ⟨_, _, _, rfl⟩)) fun ρ => by (first | (rw [evC]; done) | (rw [evC]; rfl))
      exact ⟨key.pt, fun _ => key⟩
    · cases g
  | .or a b, x, g => by
    simp only [chkC] at g
    split at g
    · rename_i p x y rest pos
      simp only [Bool.and_eq_true, decide_eq_true_eq] at g
      obtain ⟨⟨g1, g2⟩, g3⟩ := g
      subst g1
      have key : PW X (.BoolOp .Or (x :: y :: rest) pos) (RdT X.K A Wx (evC Γ (.or a b))) := by
        split at g3
        · exact PW_ev (rdw_or (okC h hd a _ g2).1 (pw_or1 (okC h hd b _ g3).1)) fun ρ => by (first | (rw [evC]; done) | (rw [evC]; rfl))
        · exact PW_ev (rdw_or (okC h hd a _ g2).1 ((okC h hd b _ g3).2 ⟨_, _, _, rfl⟩)) fun ρ => by (first | (rw [evC]; done) | (rw [evC]; rfl))
      exact ⟨key.pt, fun _ => key⟩
    · cases g
  | .not a, x, g => by
    simp only [chkC] at g
    split at g
    · simp only [Bool.and_eq_true, decide_eq_true_eq] at g
      obtain ⟨g1, g2⟩ := g
      subst g1
      exact ⟨PT_ev (rdt_not (okC h hd a _ g2).1) fun ρ => by (first | (rw [evC]; done) | (rw [evC]; rfl)), fun ⟨_, _, _, z⟩ => nomatch z⟩
    · cases g
  | .tru a, x, g => by
    simp only [chkC, Bool.and_eq_true] at g
    refine ⟨PT_ev (rdt_tru g.1 (okE h hd a _ g.2)) fun ρ => by (first | (rw [evC]; done) | (rw [evC]; rfl)), fun ⟨_, _, _, z⟩ => ?_⟩
    subst z
    exact nomatch g.1
  | .isN a, x, g => by
    simp only [chkC] at g
    split at g
    · simp only [Bool.and_eq_true, decide_eq_true_eq] at g
      obtain ⟨g1, g2⟩ := g
      subst g1
      exact ⟨PT_ev (rdt_isN (okE h hd a _ g2)) fun ρ => by (first | (rw [evC]; done) | (rw [evC]; rfl)), fun ⟨_, _, _, z⟩ => nomatch z⟩
    · cases g
  | .notN a, x, g => by
    simp only [chkC] at g
    split at g
    · simp only [Bool.and_eq_true, decide_eq_true_eq] at g
      obtain ⟨g1, g2⟩ := g
      subst g1
      exact ⟨PT_ev (rdt_notN (okE h hd a _ g2)) fun ρ => by (first | (rw [evC]; done) | (rw [evC]; rfl)), fun ⟨_, _, _, z⟩ => nomatch z⟩
    · cases g
theorem okI {X : Cx} {A : Ad} {Γ : Ctx} {c : Cfg} {sc : Scope} {Wx : WX} {lm : Bool} (h : CxOk X A Γ c sc Wx) (hd : lm = true → HeardOk X A Γ c sc Wx) : ∀ (it : I) (t x : Expr), chkI c lm sc it t x = true → PI X t x (RdI X.K A Wx (evI Γ it))
  | .seq a, t, x, g => by
    simp only [chkI] at g
    exact PI_ev (rdi_seq (okE h hd a _ g)) fun ρ => by (first | (rw [evI]; done) | (rw [evI]; rfl))
  | .rng1 a, t, x, g => by
    simp only [chkI] at g
    split at g
    · simp only [Bool.and_eq_true, decide_eq_true_eq] at g
      obtain ⟨⟨⟨⟨g1, g2⟩, g3⟩, g4⟩, g5⟩ := g
      subst g1
      exact PI_ev (rdi_rng1 (h.gl g2).1 (h.bl _ g3) (okE h hd a _ g5) g4) fun ρ => by (first | (rw [evI]; done) | (rw [evI]; rfl))
    · cases g
  | .rng2 a b, t, x, g => by
    simp only [chkI] at g
    split at g
    · simp only [Bool.and_eq_true, decide_eq_true_eq] at g
      obtain ⟨⟨⟨⟨⟨⟨g1, g2⟩, g3⟩, g4⟩, g5⟩, g6⟩, g7⟩ := g
      subst g1
      exact PI_ev (rdi_rng2 (h.gl g2).1 (h.bl _ g3) (okE h hd a _ g6) (okE h hd b _ g7) g4 g5) fun ρ => by (first | (rw [evI]; done) | (rw [evI]; rfl))
    · cases g
  | .zip a b, t, x, g => by
    simp only [chkI] at g
    split at g
    · simp only [Bool.and_eq_true, decide_eq_true_eq] at g
      obtain ⟨⟨⟨⟨⟨⟨g1, g2⟩, g3⟩, g4⟩, g5⟩, g6⟩, g7⟩ := g
      subst g1
      exact PI_ev (rdi_zip (h.gl g2).1 (h.bl _ g3) (okE h hd a _ g6) (okE h hd b _ g7) g4 g5) fun ρ => by (first | (rw [evI]; done) | (rw [evI]; rfl))
    · cases g
  | .enum a, t, x, g => by
    simp only [chkI] at g
    split at g
    · simp only [Bool.and_eq_true, decide_eq_true_eq] at g
      obtain ⟨⟨⟨⟨g1, g2⟩, g3⟩, g4⟩, g5⟩ := g
      subst g1
      exact PI_ev (rdi_enum (h.gl g2).1 (h.bl _ g3) (okE h hd a _ g5) g4) fun ρ => by (first | (rw [evI]; done) | (rw [evI]; rfl))
    · cases g
end
end Mn
set_option Elab.async false
set_option linter.all false
set_option maxRecDepth 100000
set_option maxHeartbeats 4000000
namespace Mn
open PySem PySem.Spec PyProof.Rows L2

def notComp : Expr → Bool
  | .ListComp .. => false
  | .SetComp .. => false
  | .DictComp .. => false
  | _ => true
/-- whether name = [..] lays the list at once -/
def swapB (sc : Scope) (x : Str) (p : Pos) : Expr → Bool
  | .ListComp _ _ s q => decide (sc.names.lookup x = some .local) && (p.line == q.line) && !(s.names.any fun (n, k) => n == x && (k == .local || k == .cell))
  | _ => false
def plainComp : Expr → Bool
  | .SetComp .. => false
  | .DictComp .. => false
  | _ => true
def notTup : Expr → Bool
  | .Tuple .. => false
  | _ => true
def isPar (sc : Scope) (x y : Str) (px py : Pos) : Bool := decide (sc.names.lookup x = some .local) && decide (sc.names.lookup y = some .local) && (py.line == px.line)
mutual
def chkS (c : Cfg) (lm : Bool) (sc : Scope) : S → Stmt → Bool
  | .set i e, st => match st with
    | .Assign [.Name x p] v _ => decide (c.N[i]? = some x) && stoB sc sc x && plainComp v && chkE c lm sc e v
    | _ => false
  | .unp is lst e, st => match st with
    | .Assign [.Tuple es k p] v _ => chkTg.go c.N sc sc is es && notTup v && chkE c lm sc e v
    | _ => false
  | .par i j a b, st => match st with
    | .Assign [.Tuple [.Name x px, .Name y py] _ _] (.Tuple [v, w] _ _) _ => decide (c.N[i]? = some x) && decide (c.N[j]? = some y) && stoB sc sc x && stoB sc sc y && noStar v && noStar w && decide (i ≠ j) && decide (x ≠ y) && chkE c lm sc a v && chkE c lm sc b w &&
        (if isPar sc x y px py then !([v, w].all (foldedForSure 8)) && !([v, w].all (constantsAlone 8)) else true)
    | _ => false
  | .aug i o e, st => match st with
    | .AugAssign (.Name x _) p v _ => decide (c.N[i]? = some x) && stoB sc sc x && opB o p && (decide (o = .add) || decide (o = .sub)) && chkE c lm sc e v
    | _ => false
  | .setX i ix e, st => match st with
    | .Assign [.Subscript (.Name x _) k _] v _ => decide (c.N[i]? = some x) && visB sc x && plainIx k && chkE c lm sc ix k && chkE c lm sc e v
    | _ => false
  | .augX i ix o e, st => match st with
    | .AugAssign (.Subscript (.Name x _) k _) p v _ => decide (c.N[i]? = some x) && visB sc x && plainIx k && opB o p && (decide (o = .add) || decide (o = .sub)) && chkE c lm sc ix k && chkE c lm sc e v
    | _ => false
  | .expr e, st => match st with
    | .Expr v _ => notComp v && chkE c lm sc e v
    | _ => false
  | .iff t a b, st => match st with
    | .If v p q _ => chkC c lm sc t v && chkSs c lm sc a p && chkSs c lm sc b q
    | _ => false
  | .for_ tg it b, st => match st with
    | .For t i p [] _ => chkTg c.N sc sc tg t && noSet i && chkI c lm sc it t i && chkSs c lm sc b p
    | _ => false
  | .whil t b, st => match st with
    | .While v p [] _ => chkC c lm sc t v && chkSs c lm sc b p
    | _ => false
  | .ret e, st => match st with
    | .Return (some v) _ => chkE c lm sc e v
    | _ => false
  | .retN, st => match st with
    | .Return none _ => true
    | _ => false
  | .raise x, st => match st with
    | .Raise (some (.Call (.Name y _) [] [] _)) none _ => decide (x = y) && glB sc x && c.exn x
    | _ => false
  | .pass, st => match st with
    | .Pass _ => true
    | _ => false
  | .brk, st => match st with
    | .Break _ => true
    | _ => false
  | .cnt, st => match st with
    | .Continue _ => true
    | _ => false
def chkSs (c : Cfg) (lm : Bool) (sc : Scope) : Ss → List Stmt → Bool
  | .nil, sts => sts.isEmpty
  | .cons s ss, sts => match sts with
    | st :: sts => chkS c lm sc s st && chkSs c lm sc ss sts
    | [] => false
end
section
variable {X : Cx} {A : Ad} {Γ : Ctx} {c : Cfg} {sc : Scope} {Wx : WX}
theorem pmk0 {X : Cx} {C : Addr} {bmB : List Value} {B newId initId : String} {x : Str} {p pos : Pos} (F : ExcBaseFacts B newId initId bmB) (q : PySem.W.excIn X.K C bmB newId = true) (gC : X.mg x = some (.ref C)) (kC : PySem.W.keepIn X.K (.ref C) = true) (r : Raises X (.ref C)) (hg : Gl X x)
    (hdb : (x == ("__debug__" : Str)) = false) : PMk X (.Call (.Name x p) [] [] pos) (fun _ H Q => Q (.ref C) none H) := by
  intro pins s σ H Q I h
  refine wpAny_Call_Name_kw (ld_glob I hg gC (PySem.W.callWith_K0 I.kIn kC ?_) hdb)
  obtain ⟨bm, N, nm, qn, bs, hdct, sn, sub, ab, col, dd, k0, k1, k2, k3, k5, mN, hC, hN, hni, T⟩ := exc_obj I.kIn q
  exact wpAny_call_exc_subT F T hC hN hni (fun h' e hm => mk_of I hm r h (I.hok.gone hm.new)) (Nat.zero_le _)
theorem sw_eq (h : CxOk X A Γ c sc Wx) {x : Str} {p : Pos} {v : Expr} {l : Nat} (hv : plainComp v = true) : swapsWith v (some (.Name x p)) l X.env = pure (swapB sc x p v) := by
  have kf : X.env.scope.kind = .function := by rw [h.scp]; exact h.kind
  have bk : X.env.blockKind = .function := by unfold Env.blockKind; rw [kf]; rfl
  cases v with
  | ListComp e g s q =>
    unfold swapsWith swapB
    have e1 : X.env.kindOf x = sc.names.lookup x := by rw [← h.scp]; rfl
    simp only [bk, e1, Expr.pos]
    congr 1
    cases sc.names.lookup x with
    | none => rfl
    | some k => cases k <;> rfl
  | SetComp => cases hv
  | DictComp => cases hv
  | _ => rfl
theorem sw_none {v : Expr} {l : Nat} {env : PySem.Env} (hv : notComp v = true) : swapsWith v none l env = pure false := by
  cases v <;> first | rfl | cases hv
theorem sw_tup {v t : Expr} {l : Nat} {env : PySem.Env} (ht : ∀ x p, t ≠ .Name x p) : swapsWith v (some t) l env = pure false := by
  cases v <;> first | rfl | (cases t <;> first | rfl | exact absurd rfl (ht _ _))
theorem st_none {v t : Expr} {env : PySem.Env} (hv : notTup v = true) : swappedStores [t] v env = pure none := by
  cases v <;> first | (cases t <;> rfl) | cases hv
theorem st_sub {v a b : Expr} {p : Pos} {env : PySem.Env} : swappedStores [.Subscript a b p] v env = pure none := by
  cases v <;> rfl
theorem no_star {v : Expr} : noStar v = true → ¬ ((match v with | .Starred .. => true | _ => false) = true) := by
  cases v <;> first | (intro _ z; cases z; done) | (intro hv; cases hv)
theorem st_par (h : CxOk X A Γ c sc Wx) {x y : Str} {px py pt pv : Pos} {k k2 : Nat} {v w : Expr} (s1 : noStar v = true) (s2 : noStar w = true) (hxy : x ≠ y) (hp : isPar sc x y px py = true) (f1 : [v, w].all (foldedForSure 8) = false) (f2 : [v, w].all (constantsAlone 8) = false) :
    swappedStores [.Tuple [.Name x px, .Name y py] k pt] (.Tuple [v, w] k2 pv) X.env = pure (some [x, y]) := by
  have kf : X.env.scope.kind = .function := by rw [h.scp]; exact h.kind
  have bk : X.env.blockKind = .function := by unfold Env.blockKind; rw [kf]; rfl
  unfold isPar at hp
  simp only [Bool.and_eq_true, decide_eq_true_eq, beq_iff_eq] at hp
  obtain ⟨⟨h1, h2⟩, h3⟩ := hp
  have e1 : X.env.kindOf x = some .local := by rw [← h1, ← h.scp]; rfl
  have e2 : X.env.kindOf y = some .local := by rw [← h2, ← h.scp]; rfl
  have hyx : (y == x) = false := beq_eq_false_iff_ne.mpr (Ne.symm hxy)
  have ee : ([x, y].eraseDups).length = 2 := by simp [List.eraseDups_cons, hyx]
  unfold swappedStores
  simp [List.any, List.all, bk, e1, e2, h3, Expr.pos, List.filterMap_cons, ee] at f1 f2 ⊢
  refine Eq.trans (if_neg (not_or.mpr ⟨no_star s1, no_star s2⟩)) ?_
  rw [if_neg (fun z => by rw [f1 z.1] at z; exact Bool.noConfusion z.2), if_neg (fun z => by rw [f2 z.1] at z; exact Bool.noConfusion z.2)]
theorem st_parT (h : CxOk X A Γ c sc Wx) {x y : Str} {px py pt pv : Pos} {k k2 : Nat} {v w : Expr} (s1 : noStar v = true) (s2 : noStar w = true) (hp : isPar sc x y px py = false) :
    swappedStores [.Tuple [.Name x px, .Name y py] k pt] (.Tuple [v, w] k2 pv) X.env = pure none := by
  have kf : X.env.scope.kind = .function := by rw [h.scp]; exact h.kind
  have bk : X.env.blockKind = .function := by unfold Env.blockKind; rw [kf]; rfl
  have e1 : X.env.kindOf x = sc.names.lookup x := by rw [← h.scp]; rfl
  have e2 : X.env.kindOf y = sc.names.lookup y := by rw [← h.scp]; rfl
  unfold swappedStores
  simp [List.any, List.all, bk, e1, e2, Expr.pos, List.filterMap_cons]
  intro _ _ hl
  exfalso
  unfold isPar at hp
  by_cases h1 : sc.names.lookup x = some .local
  · by_cases h2 : sc.names.lookup y = some .local
    · have h3 : ¬ (py.line = px.line) := fun z => by simp [h1, h2, z] at hp
      simp [h1, h2, h3] at hl
    · simp [h1, h2] at hl
  · by_cases h2 : sc.names.lookup y = some .local
    · by_cases h3 : py.line = px.line <;> simp [h1, h2, h3] at hl
    · simp [h1, h2] at hl
theorem rs_setI (h : CxOk X A Γ c sc Wx) {i : Nat} {x : Str} {p pos : Pos} {v : Expr} {e : E} {lm : Bool} (hd : lm = true → HeardOk X A Γ c sc Wx) (hf : ∀ x, sc.names.lookup x = some .cell → X.fn x = true) (g1 : c.N[i]? = some x) (g2 : stoB sc sc x = true) (g3 : plainComp v = true) (g4 : chkE c lm sc e v = true) :
    PS X (.Assign [.Name x p] v pos) (RdS X.K A Wx (setEv i (evE Γ e))) := by
  have hi : X.N[i]? = some x := by rw [h.N]; exact g1
  have g2' := g2
  unfold stoB at g2'
  simp only [Bool.and_eq_true, Bool.or_eq_true, decide_eq_true_eq] at g2'
  have hl : L2.Loc X.env.scope x := by unfold L2.Loc; rw [h.scp]; exact g2'.imp id And.left
  have hfn : X.fn x = true ∨ X.env.scope.names.lookup x = some .local := by
    rcases g2' with z | z
    · exact .inr (by rw [h.scp]; exact z)
    · exact .inl (hf x z.2)
  have sw := sw_eq h (x := x) (p := p) (l := pos.line) g3
  cases q : swapB sc x p v with
  | false =>
    rw [q] at sw
    exact rs_set_of (ps_set h.nd hi hl (okE h hd e v g4) sw hfn) fun _ _ _ z => z
  | true =>
    rw [q] at sw
    cases v with
    | ListComp xe gens scope vpos =>
      have hyl : X.env.scope.names.lookup x = some .local := by
        unfold swapB at q
        simp only [Bool.and_eq_true, decide_eq_true_eq] at q
        rw [h.scp]; exact q.1.1
      cases e with
      | lc elt tg it t own =>
        simp only [chkE] at g4
        split at g4
        · rename_i xe' tgx ix ifs scope' pos' eqq
          cases eqq
          simp only [Bool.and_eq_true, decide_eq_true_eq] at g4
          obtain ⟨⟨⟨⟨⟨⟨⟨g1, g2⟩, g3⟩, g4⟩, g5⟩, g6⟩, g7⟩, g8⟩ := g4
          have ok : BlkOk X.N X.env.scope scope (ownP c.N scope) := by rw [h.N, h.scp]; exact blkOk_by g1
          have nd : X.N.Nodup := h.nd
          refine rs_set_of (ps_setLc (g := RdG X.K tg) (tt := RdT X.K A (fun _ _ _ _ => False) (evOc Γ t)) (te := RdE X.K A (fun _ _ _ _ => False) (evE Γ elt)) h.calm nd hi hyl sw (okI h hd it tgx ix g6) ok (fun s H C cl fp => tg_ok (h.blk ok.kind) (sf := scope) (fun x hx => by show (scope.names.lookup x == some .cell) = true; rw [hx]; rfl) g3)
            (fun s H C cl fp => okOc (lm := false) (h.blk ok.kind) (fun z => Bool.noConfusion z) t ifs g7) (fun s H C cl fp => okE (lm := false) (h.blk ok.kind) (fun z => Bool.noConfusion z) elt xe g8) (noSet_folded g5 _)) fun σ H Q q => ?_
          rw [g2]
          refine lc_sound (tsl g4) ?_
          rwa [show evE Γ (.lc elt tg it t own) = _ from funext fun ρ => evE.eq_def _ _ _] at q
        · cases g4
      | lc2 elt t1 i1 c1 t2 i2 c2 own own2 =>
        simp only [chkE] at g4
        split at g4
        · rename_i xe' tgx ix ifs tgx2 ix2 ifs2 scope' pos' eqq
          cases eqq
          simp only [Bool.and_eq_true, decide_eq_true_eq] at g4
          obtain ⟨⟨⟨⟨⟨⟨⟨⟨⟨⟨⟨⟨⟨g1, g2⟩, g3⟩, g4⟩, g5⟩, g6⟩, g7⟩, g8⟩, g9⟩, g10⟩, g11⟩, g12⟩, g13⟩, g14⟩ := g4
          have ok : BlkOk X.N X.env.scope scope (ownP c.N scope) := by rw [h.N, h.scp]; exact blkOk_by g1
          have nd : X.N.Nodup := h.nd
          have hfs : ∀ x, scope.names.lookup x = some .cell → (scope.names.lookup x == some .cell) = true := fun x hx => by rw [hx]; rfl
          have i21 : ∀ j ∈ own2, j ∈ own := fun j hj => List.contains_iff_mem.mp (List.all_eq_true.mp g5 j hj)
          refine rs_set_of (ps_setLc2 (vs1 := own2) (wi1 := RdI X.K A (fun _ _ _ _ => False) (evI Γ i2)) (g := RdG X.K t1) (g1 := RdG X.K t2) (tt := RdT X.K A (fun _ _ _ _ => False) (evOc Γ c1)) (tt1 := RdT X.K A (fun _ _ _ _ => False) (evOc Γ c2)) (te := RdE X.K A (fun _ _ _ _ => False) (evE Γ elt)) h.calm nd hi hyl sw (okI h hd i1 tgx ix g9) ok (by rw [g2]; exact i21) (fun s H C cl fp => tg_ok (h.blk ok.kind) (sf := scope) hfs g3)
            (fun s H C cl fp => okOc (lm := false) (h.blk ok.kind) (fun z => Bool.noConfusion z) c1 ifs g10) (fun s H C cl fp => okI (lm := false) (h.blk ok.kind) (fun z => Bool.noConfusion z) i2 tgx2 ix2 g12) (fun s H C cl fp => tg_ok (h.blk ok.kind) (sf := scope) hfs g11)
            (fun s H C cl fp => okOc (lm := false) (h.blk ok.kind) (fun z => Bool.noConfusion z) c2 ifs2 g13) (fun s H C cl fp => okE (lm := false) (h.blk ok.kind) (fun z => Bool.noConfusion z) elt xe g14) (noSet_folded g7 _) (noSet_folded g8)) fun σ H Q q => ?_
          rw [g2]
          refine lc2_sound (tsl g4) (tsl g6) i21 ?_
          rwa [show evE Γ (.lc2 elt t1 i1 c1 t2 i2 c2 own own2) = _ from funext fun ρ => evE.eq_def _ _ _] at q
        · cases g4
      | ofC t => cases t <;> first | (simp [chkE] at g4; done) | (rename_i t; cases t <;> simp [chkE] at g4)
      | _ => simp [chkE] at g4
    | _ => cases q
end
end Mn
set_option Elab.async false
set_option linter.all false
set_option maxRecDepth 100000
set_option maxHeartbeats 4000000
namespace Mn
open PySem PySem.Spec PyProof.Rows L2
theorem PS_ev {X : Cx} {A : Ad} {Wx : WX} {x : Stmt} {ev ev' : Env → Fl} (h : PS X x (RdS X.K A Wx ev)) (e : ∀ ρ, ev' ρ = ev ρ) : PS X x (RdS X.K A Wx ev') := (funext e : ev' = ev) ▸ h
theorem PSs_ev {X : Cx} {A : Ad} {Wx : WX} {x : List Stmt} {ev ev' : Env → Fl} (h : PSs X x (RdS X.K A Wx ev)) (e : ∀ ρ, ev' ρ = ev ρ) : PSs X x (RdS X.K A Wx ev') := (funext e : ev' = ev) ▸ h
theorem sole {v t : Expr} {l : Nat} {env : PySem.Env} (ht : ∀ x p, t ≠ .Name x p) : swapsWithSole [t] v l env = pure false := by
  unfold swapsWithSole
  exact sw_tup ht
theorem ip_of (X : Cx) {o : Op2} (h : (decide (o = .add) || decide (o = .sub)) = true) : ∃ f, PIp X o.py (ipI f) ∧ ∀ i j, opD o (.int i) (.int j) = some (.d (.int (f i j))) := by
  cases o with
  | add => exact ⟨_, ip_add, fun i j => rfl⟩
  | sub => exact ⟨_, ip_sub, fun i j => rfl⟩
  | _ => simp at h
theorem sto_loc {X : Cx} {A : Ad} {Γ : Ctx} {c : Cfg} {sc : Scope} {Wx : WX} (h : CxOk X A Γ c sc Wx) (hf : ∀ x, sc.names.lookup x = some .cell → X.fn x = true) {x : Str} (g : stoB sc sc x = true) : L2.Loc X.env.scope x ∧ (X.fn x = true ∨ X.env.scope.names.lookup x = some .local) := by
  unfold stoB at g
  simp only [Bool.and_eq_true, Bool.or_eq_true, decide_eq_true_eq] at g
  refine ⟨by unfold L2.Loc; rw [h.scp]; exact g.imp id And.left, ?_⟩
  rcases g with z | z
  · exact .inr (by rw [h.scp]; exact z)
  · exact .inl (hf x z.2)
mutual
theorem okS {X : Cx} {A : Ad} {Γ : Ctx} {c : Cfg} {sc : Scope} {Wx : WX} {lm : Bool} (h : CxOk X A Γ c sc Wx) (hd : lm = true → HeardOk X A Γ c sc Wx) (hf : ∀ x, sc.names.lookup x = some .cell → X.fn x = true) (hp : PassesOwn (model X.prog X.w) X.A X.env X.xe) :
    ∀ (s : S) (st : Stmt), chkS c lm sc s st = true → PS X st (RdS X.K A Wx (evS Γ s))
  | .set i e, st, g => by
    simp only [chkS] at g
    split at g
    · simp only [Bool.and_eq_true, decide_eq_true_eq] at g
      obtain ⟨⟨⟨g1, g2⟩, g3⟩, g4⟩ := g
      exact PS_ev (rs_setI h hd hf g1 g2 g3 g4) fun ρ => by (first | (rw [evS]; done) | (rw [evS]; rfl))
    · cases g
  | .unp is lst e, st, g => by
    simp only [chkS] at g
    split at g
    · rename_i es k p v pos
      simp only [Bool.and_eq_true] at g
      obtain ⟨⟨g1, g2⟩, g3⟩ := g
      obtain ⟨q1, q2, q3⟩ := go_ok h hf g1
      have he := okE h hd e v g3
      have hs : swapsWithSole [.Tuple es k p] v pos.line X.env = pure false := sole (fun _ _ z => nomatch z)
      have base : PS X (.Assign [.Tuple es k p] v pos) (tAsg (RdE X.K A Wx (evE Γ e)) (if lst then gLst X.K is.length (gRow is) else gTup X.K is.length (gRow is))) := by
        cases lst with
        | true => exact ps_asg he (pg_lst h.calm q1 q2 q3) hs (st_none g2) rfl
        | false => exact ps_asg he (pg_tup h.calm q1 q2 q3) hs (st_none g2) rfl
      exact PS_ev (rs_unp base fun _ _ _ z => z) fun ρ => by (first | (rw [evS]; done) | (rw [evS]; rfl))
    · cases g
  | .par i j a b, st, g => by
    simp only [chkS] at g
    split at g
    · rename_i x px y py k pt v w k2 pv pos
      simp only [Bool.and_eq_true, decide_eq_true_eq] at g
      obtain ⟨⟨⟨⟨⟨⟨⟨⟨⟨⟨g1, g2⟩, g3⟩, g4⟩, g5⟩, g6⟩, g7⟩, g8⟩, g9⟩, g10⟩, g11⟩ := g
      have ha := pa_cons (okE h hd a v g9) (pa_cons (okE h hd b w g10) pa_nil (star_head (noStar_ne g6))) (star_head (noStar_ne g5))
      have hi : X.N[i]? = some x := by rw [h.N]; exact g1
      have hj : X.N[j]? = some y := by rw [h.N]; exact g2
      cases q : isPar sc x y px py with
      | true =>
        rw [q] at g11
        simp only [if_true, Bool.and_eq_true, Bool.not_eq_true'] at g11
        have q' := q
        unfold isPar at q'
        simp only [Bool.and_eq_true, decide_eq_true_eq] at q'
        exact PS_ev (rs_par (ps_par h.calm h.nd hi hj g7 (by rw [h.scp]; exact q'.1.1) (by rw [h.scp]; exact q'.1.2) ha (st_par h g5 g6 g8 q g11.1 g11.2) (sole (fun _ _ z => nomatch z))) fun _ _ _ z => z) fun ρ => by (first | (rw [evS]; done) | (rw [evS]; rfl))
      | false =>
        have pg : PG X (.Tuple [.Name x px, .Name y py] k pt) (gTup X.K 2 (gRow [i, j])) := pg_tup h.calm (pgs_cons (h.pg hf g1 g3) (pgs_cons (h.pg hf g2 g4) pgs_nil rfl) rfl) rfl rfl
        exact PS_ev (rs_parT (ps_asg (pe_tup ha) pg (sole (fun _ _ z => nomatch z)) (st_parT h g5 g6 q) rfl) fun _ _ _ z => z) fun ρ => by (first | (rw [evS]; done) | (rw [evS]; rfl))
    · cases g
  | .aug i o e, st, g => by
    simp only [chkS] at g
    split at g
    · rename_i x p p' v pos
      simp only [Bool.and_eq_true, decide_eq_true_eq] at g
      obtain ⟨⟨⟨⟨g1, g2⟩, g3⟩, g4⟩, g5⟩ := g
      cases opB_eq g3
      obtain ⟨l1, l2⟩ := sto_loc h hf g2
      obtain ⟨f, f1, f2⟩ := ip_of X g4
      exact PS_ev (rs_aug (ps_aug h.nd (by rw [h.N]; exact g1) l1 (okE h hd e v g5) f1 l2) f2) fun ρ => by (first | (rw [evS]; done) | (rw [evS]; rfl))
    · cases g
  | .setX i ix e, st, g => by
    simp only [chkS] at g
    split at g
    · rename_i x p k p2 v pos
      simp only [Bool.and_eq_true, decide_eq_true_eq] at g
      obtain ⟨⟨⟨⟨g1, g2⟩, g3⟩, g4⟩, g5⟩ := g
      exact PS_ev (rs_setX (ps_asg (okE h hd e v g5) (pg_sub (h.var g1 g2) (okE h hd ix k g4) set_list (fun v => by cases k <;> first | rfl | cases g3)) (sole (fun _ _ z => nomatch z)) st_sub rfl)) fun ρ => by (first | (rw [evS]; done) | (rw [evS]; rfl))
    · cases g
  | .augX i ix o e, st, g => by
    simp only [chkS] at g
    split at g
    · rename_i x p k p2 p' v pos
      simp only [Bool.and_eq_true, decide_eq_true_eq] at g
      obtain ⟨⟨⟨⟨⟨⟨g1, g2⟩, g3⟩, g4⟩, g5⟩, g6⟩, g7⟩ := g
      cases opB_eq g4
      obtain ⟨f, f1, f2⟩ := ip_of X g5
      exact PS_ev (rs_augX (ps_augS (h.var g1 g2) (okE h hd ix k g6) get_list (okE h hd e v g7) f1 set_list (fun ov iv new => by cases k <;> first | rfl | cases g3)) f2) fun ρ => by (first | (rw [evS]; done) | (rw [evS]; rfl))
    · cases g
  | .expr e, st, g => by
    simp only [chkS] at g
    split at g
    · simp only [Bool.and_eq_true] at g
      exact PS_ev (rs_expr (okE h hd e _ g.2) (sw_none g.1)) fun ρ => by (first | (rw [evS]; done) | (rw [evS]; rfl))
    · cases g
  | .iff t a b, st, g => by
    simp only [chkS] at g
    split at g
    · simp only [Bool.and_eq_true] at g
      obtain ⟨⟨g1, g2⟩, g3⟩ := g
      exact PS_ev (rs_if (okC h hd t _ g1).1 (okSs h hd hf hp a _ g2) (okSs h hd hf hp b _ g3)) fun ρ => by (first | (rw [evS]; done) | (rw [evS]; rfl))
    · cases g
  | .for_ tg it b, st, g => by
    simp only [chkS] at g
    split at g
    · simp only [Bool.and_eq_true] at g
      obtain ⟨⟨⟨g1, g2⟩, g3⟩, g4⟩ := g
      exact PS_ev (rs_for hp h.calm (okI h hd it _ _ g3) (tg_ok h hf g1) (okSs h hd hf hp b _ g4) (noSet_folded g2 _)) fun ρ => by (first | (rw [evS]; done) | (rw [evS]; rfl))
    · cases g
  | .whil t b, st, g => by
    simp only [chkS] at g
    split at g
    · simp only [Bool.and_eq_true] at g
      exact PS_ev (rs_while hp (okC h hd t _ g.1).1 (okSs h hd hf hp b _ g.2)) fun ρ => by (first | (rw [evS]; done) | (rw [evS]; rfl))
    · cases g
  | .ret e, st, g => by
    simp only [chkS] at g
    split at g
    · exact PS_ev (rs_ret (okE h hd e _ g)) fun ρ => by (first | (rw [evS]; done) | (rw [evS]; rfl))
    · cases g
  | .retN, st, g => by
    simp only [chkS] at g
    split at g
    · exact PS_ev rs_retN fun ρ => by (first | (rw [evS]; done) | (rw [evS]; rfl))
    · cases g
  | .raise x, st, g => by
    simp only [chkS] at g
    split at g
    · simp only [Bool.and_eq_true, decide_eq_true_eq] at g
      obtain ⟨⟨g1, g2⟩, g3⟩ := g
      subst g1
      obtain ⟨gl, db⟩ := h.gl g2
      obtain ⟨bmB, B, n1, n2, F, q, gC, kC, r⟩ := h.exn _ g3
      exact PS_ev (rs_raise h.calm h.tk (pmk0 F q gC kC r gl db)) fun ρ => by (first | (rw [evS]; done) | (rw [evS]; rfl))
    · cases g
  | .pass, st, g => by
    simp only [chkS] at g
    split at g
    · exact PS_ev rs_pass fun ρ => by (first | (rw [evS]; done) | (rw [evS]; rfl))
    · cases g
  | .brk, st, g => by
    simp only [chkS] at g
    split at g
    · exact PS_ev rs_brk fun ρ => by (first | (rw [evS]; done) | (rw [evS]; rfl))
    · cases g
  | .cnt, st, g => by
    simp only [chkS] at g
    split at g
    · exact PS_ev rs_cnt fun ρ => by (first | (rw [evS]; done) | (rw [evS]; rfl))
    · cases g
theorem okSs {X : Cx} {A : Ad} {Γ : Ctx} {c : Cfg} {sc : Scope} {Wx : WX} {lm : Bool} (h : CxOk X A Γ c sc Wx) (hd : lm = true → HeardOk X A Γ c sc Wx) (hf : ∀ x, sc.names.lookup x = some .cell → X.fn x = true) (hp : PassesOwn (model X.prog X.w) X.A X.env X.xe) :
    ∀ (ss : Ss) (sts : List Stmt), chkSs c lm sc ss sts = true → PSs X sts (RdS X.K A Wx (evSs Γ ss))
  | .nil, sts, g => by
    simp only [chkSs, List.isEmpty_iff] at g
    subst g
    exact PSs_ev rs_nil fun ρ => by (first | (rw [evSs]; done) | (rw [evSs]; rfl))
  | .cons s ss, sts, g => by
    simp only [chkSs] at g
    split at g
    · simp only [Bool.and_eq_true] at g
      refine PSs_ev (rs_cons (okS h hd hf hp s _ g.1) (okSs h hd hf hp ss _ g.2)) fun ρ => ?_
      first | (rw [evSs]; done) | (rw [evSs]; cases evS Γ s ρ <;> rfl)
    · cases g
end
end Mn
set_option Elab.async false
set_option linter.all false
set_option maxRecDepth 100000
set_option maxHeartbeats 2000000
namespace Mn
open PySem PySem.Spec PyProof.Rows L2 LamX
/-! ## a law's end: its promise may lean on the caller's guards -/
abbrev emptyT : Obj := { cls := .none, data := .fields #[] }
abbrev scriptO (us : List Value) : Obj := { cls := .type "list", data := .seq us.toArray }
/-- what is tracked at the law's entry: the script at most, and the tables -/
structure TopH (H : Hp) (a : Addr) (ts : List Addr) (K : PySem.W.Frag) : Prop where
  only : ∀ b, H b ≠ none → b = a ∨ b ∈ ts
  frag : H a ≠ none → K.lookup a = none
  tabs : ∀ t, t ∈ ts → H t = some (.tbl #[])
  kind : ∀ b, H b = none ∨ b ∈ ts ∨ ∃ u xs, H b = some (.frz u (.lst xs))
/-- what the head knows -/
structure TopS (P : Program) (w : World) (K : PySem.W.Frag) (mg mb : Str → Option Value) (s : Shared) (cs : List (Addr × Addr)) : Prop where
  kin : K.In s.heap
  glob : s.heap.Ns mainGlobals mg
  blt : s.heap.Ns builtinsNs mb
  boot : ∀ x : Str, x ≠ "__name__" → mb x = bootBuiltins x
  lim : s.heap.NoLimit
  gens : s.gens = #[]
  emp : ∀ q, q ∈ cs → s.heap.get? q.2 = some emptyT
  out : ∀ q, q ∈ cs → K.lookup q.2 = none
  hd : ∀ q, q ∈ cs → PySem.W.CodeHd s.heap q.1 q.2
  bmod : ∃ (m : Addr) (o : Obj), mg "__builtins__" = some (.ref m) ∧ m ≠ builtinsNs ∧ s.heap.get? m = some o ∧ o.cls = .type "module" ∧ o.dict = some builtinsNs ∧ o.data = .plain
section
variable {P : Program} {w : World} {K : PySem.W.Frag} {mg mb : Str → Option Value} {s : Shared} {cs : List (Addr × Addr)} {a : Addr} {us : List Value} {H : Hp}
theorem TopS.tabAt (S : TopS P w K mg mb s cs) {t : Addr} (ht : t ∈ cs.map (·.2)) : s.heap.get? t = some emptyT := by
  obtain ⟨q, hq, rfl⟩ := List.mem_map.mp ht
  exact S.emp q hq
theorem TopS.untracked (S : TopS P w K mg mb s cs) (T : TopH H a (cs.map (·.2)) K) (ha : s.heap.get? a = some (scriptO us)) {b : Addr} {o : Obj} (ho : s.heap.get? b = some o) (n1 : ∀ vs n, o.data ≠ .seq vs n) (n2 : o.data ≠ .fields #[]) : H b = none := by
  cases q : H b with
  | none => rfl
  | some u =>
    exfalso
    rcases T.only b (by rw [q]; exact Option.some_ne_none _) with z | z
    · subst z
      rw [ha] at ho
      cases ho
      exact n1 _ _ rfl
    · rw [S.tabAt z] at ho
      cases ho
      exact n2 rfl
theorem TopS.ns (S : TopS P w K mg mb s cs) (T : TopH H a (cs.map (·.2)) K) (ha : s.heap.get? a = some (scriptO us)) {b : Addr} {m : Str → Option Value} (h : s.heap.Ns b m) : (hidT s.heap H).Ns b m := by
  obtain ⟨o, es, ep, h1, h2, h3⟩ := h
  exact ⟨o, es, ep, hidT_get h1 (S.untracked T ha h1 (fun vs n z => by rw [h2] at z; cases z) (fun z => by rw [h2] at z; cases z)), h2, h3⟩
theorem TopS.kinH (S : TopS P w K mg mb s cs) (T : TopH H a (cs.map (·.2)) K) : K.In (hidT s.heap H) := fun b o h => by
  refine hidT_get (S.kin b o h) ?_
  cases q : H b with
  | none => rfl
  | some u =>
    exfalso
    have hn : H b ≠ none := by rw [q]; exact Option.some_ne_none _
    rcases T.only b hn with z | z
    · subst z
      rw [T.frag hn] at h
      cases h
    · obtain ⟨p, hp, rfl⟩ := List.mem_map.mp z
      rw [S.out p hp] at h
      cases h
theorem TopS.tabB (S : TopS P w K mg mb s cs) (T : TopH H a (cs.map (·.2)) K) (ha : s.heap.get? a = some (scriptO us)) : ∀ q, q ∈ cs → TabB (hidT s.heap H) mg q.1 q.2 := fun q hq => by
  have e0 := S.emp q hq
  refine ⟨?_, ?_, fun z => ?_⟩
  · obtain ⟨o, vs, fl, tf, fg, tg, inF, tx, tt, h1, h2, h3, hr⟩ := S.hd q hq
    refine ⟨o, vs, fl, tf, fg, tg, inF, tx, tt, hidT_get h1 (S.untracked T ha h1 (fun us n z => ?_) fun z => ?_), h2, h3, hr⟩
    · rw [h3] at z; cases z
    · rw [h3] at z
      cases z
      have := hr.1
      simp at this
  · obtain ⟨m, o, b1, b2, b3, b4, b5, b6⟩ := S.bmod
    have nd : ∀ {c : Addr} {d : Data}, (∃ u, s.heap.get? c = some u ∧ u.data = d) → d ≠ .plain → m ≠ c := fun {c d} ⟨u, hu, hd⟩ hp z => by
      subst z
      rw [hu] at b3
      cases b3
      rw [b6] at hd
      exact hp hd.symm
    obtain ⟨og, es, ep, g1, g2, _⟩ := S.glob
    exact ⟨m, o, b1, b2, nd ⟨og, g1, g2⟩ (fun z => nomatch z), nd ⟨_, e0, rfl⟩ (fun z => nomatch z), hidT_get b3 (S.untracked T ha b3 (fun us n z => by rw [b6] at z; cases z) (fun z => by rw [b6] at z; cases z)), b4, b5, b6⟩
  · obtain ⟨og, es, ep, g1, g2, _⟩ := S.glob
    rw [z, e0] at g1
    cases g1
    cases g2
/-- what is left behind the law -/
theorem TopS.left (S : TopS P w K mg mb s cs) {ex : List Addr} {H' : Hp} {s' : Shared} (T : TopH H a (cs.map (·.2)) K) (hok : HOk P w H s.heap) (hok' : HOk P w H' s'.heap) (un : Un (frs []) [] H H' s.heap s'.heap) : OldK s.heap s'.heap := by
  have stay : ∀ b o, b ∉ cs.map (·.2) → s.heap.get? b = some o → s'.heap.get? b = some o := fun b o nb h => by
    rcases T.kind b with z | z | ⟨u, xs, z⟩
    · exact un.keep b o h z (List.not_mem_nil) (List.not_mem_nil)
    · exact absurd z nb
    · have z2 := un.frzs b u _ z
      have h1 := (hok b _ z).1
      rw [h] at h1
      cases h1
      exact (hok' b _ z2).1
  have grow : ∀ q, q ∈ cs → ∃ more : Array Value, s'.heap.get? q.2 = some { cls := .none, data := .fields more } := fun q hq => by
    obtain ⟨more, z⟩ := un.tbls q.2 #[] (T.tabs _ (List.mem_map_of_mem hq))
    exact ⟨_, hok' q.2 _ z⟩
  refine ⟨fun b o h => ?_, fun b o h => ?_⟩
  · by_cases nb : b ∈ cs.map (·.2)
    · obtain ⟨q, hq, rfl⟩ := List.mem_map.mp nb
      obtain ⟨more, hm⟩ := grow q hq
      rw [S.emp q hq] at h
      cases h
      exact .inr (.inl ⟨((S.hd q hq).tab (S.emp q hq)).isCodeTable, rfl, #[], more, rfl, by rw [Array.empty_append]; exact hm⟩)
    · exact .inl (stay b o nb h)
  · by_cases nb : b ∈ cs.map (·.2)
    · obtain ⟨q, hq, rfl⟩ := List.mem_map.mp nb
      obtain ⟨more, hm⟩ := grow q hq
      exact ⟨_, hm⟩
    · exact ⟨o, stay b o nb h⟩
/-- from what is tracked -/
theorem TopS.run {k : Nat} {fa : Addr} {fd : FuncData} {x : Str} {sp : Sp} (S : TopS P w K mg mb s cs) (T : TopH H a (cs.map (·.2)) K) (ha : s.heap.get? a = some (scriptO us)) (hok : HOk P w H s.heap) (hr : Room k callerA)
    (F : ∀ base : Heap, K.In base → base.Ns mainGlobals mg → (∀ q, q ∈ cs → TabB base mg q.1 q.2) → FnG true P w K mg base k fa fd [x] sp) (hbind : BindsTo s fd ⟨[.ref a], []⟩ [(x, .ref a)]) (hsp : sp [.ref a] H (fun v _ => v = .bl true) fun _ _ _ => False) :
    codeAny (model P w) callerA (.call (.ref fa) ⟨[.ref a], []⟩) (fun r s' => r = .ok (.ret (.bool true)) ∧ OldK s.heap s'.heap ∧ s'.os = s.os ∧ AllBare s'.gens) s := by
  have hmod : L2.Mod K mg (hidT s.heap H) := ⟨S.kinH T, S.ns T ha S.glob, ⟨mb, S.ns T ha S.blt, S.boot⟩, by obtain ⟨mc, h1, h2⟩ := S.lim; exact ⟨mc, S.ns T ha h1, h2⟩⟩
  have env : Env0 P w K mg (hidT s.heap H) callerA [] s H := ⟨rfl, hmod, fun b o h => of_hidT h, Nat.le_of_eq (hidT_size _ _), trivial, fun b hb => absurd hb (List.not_mem_nil), hok, .of_eq S.gens⟩
  have go := (F _ (S.kinH T) (S.ns T ha S.glob) (S.tabB T ha)).run callerA [] s H ⟨[.ref a], []⟩ [.ref a] [.ref a] _ _ (fun _ => rfl) hr env hbind (.cons rfl .nil) hsp
  refine codeAny_mono go fun r s' h => ?_
  match r, h with
  | .error e, h =>
    obtain ⟨_, _, _, _, _, _, _, _, _, _, _, _, z⟩ := h
    exact (show False from z).elim
  | .ok (.ret u), ⟨v, H', os, bare, un, hok', r', q⟩ =>
    have q : v = .bl true := q
    subst q
    cases (show u = Value.bool true from r')
    exact ⟨rfl, S.left (ex := []) T hok hok' un, os, bare⟩
  | .ok .next, h => exact (show False from h).elim
  | .ok .brk, h => exact (show False from h).elim
  | .ok .cont, h => exact (show False from h).elim
/-- the script is written, or new: either way it reads as the numbers -/
theorem TopS.law {k : Nat} {fa : Addr} {fd : FuncData} {x : Str} {sp : Sp} {ns : List Int} (S : TopS P w K mg mb s cs) (ha : s.heap.get? a = some (scriptO us)) (hi : IntsAre us ns) (hl : ns.length ≤ sizeLine) (hr : Room k callerA)
    (F : ∀ base : Heap, K.In base → base.Ns mainGlobals mg → (∀ q, q ∈ cs → TabB base mg q.1 q.2) → FnG true P w K mg base k fa fd [x] sp) (hbind : BindsTo s fd ⟨[.ref a], []⟩ [(x, .ref a)])
    (hsp : ∀ H : Hp, (∀ q, q ∈ cs → H q.2 = some (.tbl #[])) → (∀ b o, H b = some o → nonT o → ∃ u xs, o = .frz u (.lst xs)) → SqL K H a (ns.map V.int) → sp [.ref a] H (fun v _ => v = .bl true) fun _ _ _ => False) :
    codeAny (model P w) callerA (.call (.ref fa) ⟨[.ref a], []⟩) (fun r s' => r = .ok (.ret (.bool true)) ∧ OldK s.heap s'.heap ∧ s'.os = s.os ∧ AllBare s'.gens) s := by
  have rel := vals_ints hi
  have lenu : us.length = ns.length := hi.length
  have na : a ∉ cs.map (·.2) := fun z => by
    have q := S.tabAt z
    rw [ha] at q
    have := congrArg Obj.data (Option.some.inj q)
    cases this
  cases hk : K.lookup a with
  | some o =>
    have same := S.kin a o hk
    rw [ha] at same
    cases same
    let H : Hp := fun b => if b ∈ cs.map (·.2) then some (.tbl #[]) else none
    have yes : ∀ b, b ∈ cs.map (·.2) → H b = some (.tbl #[]) := fun b h => if_pos h
    have no : ∀ b, b ∉ cs.map (·.2) → H b = none := fun b h => if_neg h
    have T : TopH H a (cs.map (·.2)) K := ⟨fun b h => .inr (Classical.byContradiction fun z => h (no b z)), fun h => absurd (no a na) h, yes, fun b => (Classical.em (b ∈ cs.map (·.2))).elim (fun z => .inr (.inl z)) fun z => .inl (no b z)⟩
    have hok : HOk P w H s.heap := fun b o h => by
      by_cases hb : b ∈ cs.map (·.2)
      · rw [yes b hb] at h
        cases h
        exact S.tabAt hb
      · rw [no b hb] at h
        cases h
    refine S.run T ha hok hr F hbind (hsp H (fun q hq => yes _ (List.mem_map_of_mem hq)) (fun b o h n => ?_) (.inr ⟨_, us.toArray, _, hk, rfl, rfl, rfl, by rw [List.size_toArray, lenu]; exact hl, by simpa using rel⟩))
    by_cases hb : b ∈ cs.map (·.2)
    · rw [yes b hb] at h
      cases h
      exact absurd rfl (n _)
    · rw [no b hb] at h
      cases h
  | none =>
    let H : Hp := fun b => if b = a then some (.frz (scriptO us) (.lst (ns.map V.int))) else if b ∈ cs.map (·.2) then some (.tbl #[]) else none
    have at_a : H a = some (.frz (scriptO us) (.lst (ns.map V.int))) := if_pos rfl
    have yes : ∀ b, b ∈ cs.map (·.2) → H b = some (.tbl #[]) := fun b h => (if_neg (fun z => na (by rw [← z]; exact h))).trans (if_pos h)
    have no : ∀ b, b ≠ a → b ∉ cs.map (·.2) → H b = none := fun b h1 h2 => (if_neg h1).trans (if_neg h2)
    have T : TopH H a (cs.map (·.2)) K := ⟨fun b h => Classical.byContradiction fun z => h (no b (fun e => z (.inl e)) fun e => z (.inr e)), fun _ => hk, yes, fun b => (Classical.em (b = a)).elim (fun z => .inr (.inr ⟨scriptO us, ns.map V.int, by rw [z]; exact at_a⟩)) fun z => (Classical.em (b ∈ cs.map (·.2))).elim (fun z => .inr (.inl z)) fun z' => .inl (no b z z')⟩
    have hok : HOk P w H s.heap := fun b o h => by
      by_cases hb : b = a
      · subst hb
        rw [at_a] at h
        cases h
        exact ⟨ha, by rw [List.length_map]; exact hl, us, _, rel, ha⟩
      · by_cases hb2 : b ∈ cs.map (·.2)
        · rw [yes b hb2] at h
          cases h
          exact S.tabAt hb2
        · rw [no b hb hb2] at h
          cases h
    refine S.run T ha hok hr F hbind (hsp H (fun q hq => yes _ (List.mem_map_of_mem hq)) (fun b o h n => ?_) (.inl (.inr ⟨_, at_a⟩)))
    by_cases hb : b = a
    · subst hb
      rw [at_a] at h
      cases h
      exact ⟨_, _, rfl⟩
    · by_cases hb2 : b ∈ cs.map (·.2)
      · rw [yes b hb2] at h
        cases h
        exact absurd rfl (n _)
      · rw [no b hb hb2] at h
        cases h
end
theorem walkG {l : PySem.W.OpenLaw} {n k : Nat} {q : Program} {loose : List Str} {XP : (Str → Option Value) → Heap → Prop} {YP : World → Heap → Prop} {d : DefRec} {x : Str} (hn : l.most = some n) (hn2 : n ≤ sizeLine) (hdf : d.params.defaults = []) (hr : Room k callerA)
    (F : ∀ (w : World) (mg : Str → Option Value) (fa : Addr) (h : Heap), YP w h → h.Ns mainGlobals mg → mg d.name = some (.ref fa) → ∃ (K : PySem.W.Frag) (fd : FuncData) (cs : List (Addr × Addr)) (sp : Sp), K.In h ∧
      (∀ q, q ∈ cs → h.get? q.2 = some emptyT) ∧ (∀ q, q ∈ cs → K.lookup q.2 = none) ∧ (∀ q, q ∈ cs → PySem.W.CodeHd h q.1 q.2) ∧ (∀ (s : Shared) (u : Value), BindsTo s fd ⟨[u], []⟩ [(x, u)]) ∧
      (∀ (H : Hp) (a : Addr) (ns : List Int), ns.length ≤ n → (∀ z, z ∈ ns → Builtin.Int.intBits z ≤ 1048576) → (∀ q, q ∈ cs → H q.2 = some (.tbl #[])) → (∀ b o, H b = some o → nonT o → ∃ u xs, o = .frz u (.lst xs)) → SqL K H a (ns.map V.int) → sp [.ref a] H (fun v _ => v = .bl true) fun _ _ _ => False) ∧
      ∀ base : Heap, K.In base → base.Ns mainGlobals mg → (∀ q, q ∈ cs → TabB base mg q.1 q.2) → FnG true l.prog w K mg base k fa fd [x] sp) :
    PySem.W.WalkO q loose XP YP l.row.toRowW d [] (fun f vs => PySem.call f vs) := by
  refine Att.attach_callB hn hdf fun w s₀ s₁ mg mb fa o pm cd doc a us ns G Y ho hd hcd hmg hobj hints hlen hbits hg => ?_
  obtain ⟨K, fd, cs, sp, c1, c2, c3, c4, c5, c6, c7⟩ := F w mg fa _ Y G.T.g hmg
  exact TopS.law (mb := mb) ⟨c1, G.T.g, G.T.b, G.T.builtins, G.T.nolimit, hg, c2, c3, c4, G.T.bmain⟩ hobj hints (Nat.le_trans hlen hn2) hr c7 (c5 _ _) fun H hT hO hS => c6 H a ns hlen hbits hT hO hS
end Mn
set_option Elab.async false
set_option linter.all false
set_option maxRecDepth 100000
set_option maxHeartbeats 4000000
namespace Mn
open PySem PySem.Spec PyProof.Rows L2 LamX
/-! ## a program of the small language -/
structure Fd where
  name : Str
  N : List Str
  ps : List Str
  lend : Bool
  lm : Bool
  body : Ss
structure Prg where
  fns : List Fd
  glo : List (Str × D)
  told : List (Str × List (Str × D))
  wf : Nat
  bl : List Str
  exn : List Str
def Prg.fn (P : Prg) (f : Str) : Option Fd := P.fns.find? fun d => d.name == f
def Prg.cfg (P : Prg) (d : Fd) : Cfg := ⟨d.N, fun f => (P.fn f).map fun e => e.ps.length, fun x => (P.glo.lookup x).isSome, fun x => P.bl.contains x, fun x => P.exn.contains x⟩
def Prg.ctx (P : Prg) (call : Bool → Str → List W → CRes) (g : Bool) : Ctx := ⟨fun x => P.glo.lookup x, fun _ => false, fun f => ((P.fn f).map (·.lend)).getD false, call, fun f => P.told.lookup f, P.wf, g⟩
def endD (ws : List W) (ρ : Env) (r : R) : CRes := match finR ρ r with
  | some r' => (match ws with
    | .own true _ :: _ => (match ρ[(0 : Nat)]? with
      | some (some (W.own true ys)) => .ret r' (some ys)
      | _ => .stuck)
    | _ => .ret r' none)
  | none => .stuck
def runD (Γ : Ctx) (d : Fd) (ws : List W) : CRes := if ws.length = d.ps.length then (match evSs Γ d.body (ws.map some ++ List.replicate (d.N.length - ws.length) none) with
  | .nx ρ => endD ws ρ (.d .none)
  | .rt r ρ => endD ws ρ r
  | .ex c _ => .ex c
  | _ => .stuck) else .stuck
def Prg.call (P : Prg) : Nat → Bool → Str → List W → CRes
  | 0, _, _, _ => .stuck
  | n + 1, g, f, ws => match P.fn f with
    | some d => runD (P.ctx (P.call n) g) d ws
    | none => .stuck
/-- what the head must tell of it -/
structure PrgOk (P : Prg) (prog : Program) (w : World) (K : PySem.W.Frag) (mg : Str → Option Value) (base : Heap) (A : Ad) (st : Str → Stmt) : Prop where
  defs : ∀ f d, P.fn f = some d → ∃ fdt, FunD K f f (defArgs (st f)) (defBody (st f)) (defScope (st f)) [] [] (A f) fdt ∧ mg f = some (.ref (A f)) ∧ Binds K fdt d.ps []
  scp : ∀ f d, P.fn f = some d → FnScope d.N d.ps (defScope (st f))
  chk : ∀ f d, P.fn f = some d → chkSs (P.cfg d) d.lm (defScope (st f)) d.body (defBody (st f)) = true
  glo : ∀ x d, P.glo.lookup x = some d → ∃ v u, mg x = some u ∧ RelV v u ∧ ∀ F, Dq K F v d
  bl : ∀ x, P.bl.contains x = true → mg x = none
  exn : ∀ x, P.exn.contains x = true → ∃ bmB B newId initId, ExcBaseFacts B newId initId bmB ∧ PySem.W.excIn K (A x) bmB newId = true ∧ mg x = some (.ref (A x)) ∧ PySem.W.keepIn K (.ref (A x)) = true ∧
    PySem.W.subIn K (.ref (A x)) (.type "BaseException") = some true ∧ PySem.W.typeIn K (.ref (A x)) = some (.type "type")
  told : ∀ g hs, P.told.lookup g = some hs → ∃ (a e no : Str) (CS : Addr) (j j2 k k2 : Nat) (p1 p2 p3 p4 p5 p6 p7 p8 p9 p10 p11 : Pos) (Ng : List Str) (fdt : FuncData),
    FunD K g g (defArgs (st g)) (defBody (st g)) (defScope (st g)) [] [] (A g) fdt ∧ mg g = some (.ref (A g)) ∧ Binds K fdt [a] [] ∧ FnScope Ng [a] (defScope (st g)) ∧ Ng[0]? = some a ∧ Vis (defScope (st g)) a ∧
    defBody (st g) = [.Try [.Return (some (.Tuple [.Constant (.str "told") j2 p9, .Call (.Name a p1) [] [] p2] k p10)) p3] [.ExceptHandler (some (.Name e p4)) none [.Return (some (.Tuple [.Constant (.str no) j p5] k2 p11)) p6] p7] [] [] p8] ∧
    (defScope (st g)).names.lookup e = some .globalImplicit ∧ mg e = some (.ref CS) ∧ (e == ("__debug__" : Str)) = false ∧ (a == ("__debug__" : Str)) = false ∧ (a == ("__classdict__" : Str)) = false ∧ HsOk K A CS no hs
  lam : ∀ f d fdt, P.fn f = some d → d.lm = true → FunD K f f (defArgs (st f)) (defBody (st f)) (defScope (st f)) [] [] (A f) fdt → ∃ c Pt, fdt.code = .ref c ∧ TabB base mg c Pt ∧ (Pt, f ++ ".<locals>." ++ "<lambda>") ∈ A.T ∧ ∀ p, p ∈ A.T → p.1 = Pt → p.2 = f ++ ".<locals>." ++ "<lambda>"
section
variable {P : Prg} {prog : Program} {w : World} {K : PySem.W.Frag} {mg : Str → Option Value} {base : Heap} {A : Ad} {st : Str → Stmt} {B : Bs} {σ σ2 : L2.St} {ρ : Env} {T : Tmps} {H F : Hp} {O : Addr → Option Owner}
theorem Sep.bare (S : Sep K A B σ ρ T H F O) {n : Nat} (h : σ2.length = n) : Sep K A B σ2 (List.replicate n none) [] H F O := by
  have no : ∀ (i : Nat) (w : W), (List.replicate n (none : Option W))[i]? ≠ some (some w) := fun i w e => by
    rw [List.getElem?_replicate] at e
    split at e <;> cases e
  exact ⟨S.fh, S.f0, S.fn, S.h0, S.h1, S.ho, by rw [h, List.length_replicate], fun i w e => absurd e (no i w), fun k r v e => by simp at e, fun i xs e => absurd e (no i _), fun k xs p e => by simp at e, fun i xs p e => absurd e (no i _), S.nn, S.tb⟩
theorem none_map {ws : List W} : (ws.map fun _ => (none : Option W)) = List.replicate ws.length none := by
  induction ws with
  | nil => rfl
  | cons w ws ih => rw [List.map_cons, ih, List.length_cons, List.replicate_succ]
/-- the end of a def's run, as its promise has it -/
theorem run_sound {Γ : Ctx} {d : Fd} {vs : List V} {ws : List W} {Q : VK} {Ex : XK} {F0 : Hp} {O0 : Addr → Option Owner} (hl : vs.length = ws.length) (hN : d.ps.length ≤ d.N.length)
    (h : match runD Γ d ws with
    | .ret r o => (∀ i, r ≠ .slot i) ∧ ∀ v H', At K A (callB H F0 O0 vs) (vs.map some) (outs ws o) [(r, v)] H' → Q v H'
    | .ex c => ∀ H', At K A (callB H F0 O0 vs) (vs.map some) (ws.map fun _ => none) [] H' → Ex (.ref (A c)) none H'
    | .stuck => False) :
    FlP K A (fun cls d _ H => Ex cls d H) (callB H F0 O0 vs) { nx := fun _ H' => Q .non H', rt := Q } (evSs Γ d.body (ws.map some ++ List.replicate (d.N.length - ws.length) none)) := by
  have fin : ∀ {ρ : Env} {r : R}, (match endD ws ρ r with
    | .ret r o => (∀ i, r ≠ .slot i) ∧ ∀ v H', At K A (callB H F0 O0 vs) (vs.map some) (outs ws o) [(r, v)] H' → Q v H'
    | .ex c => ∀ H', At K A (callB H F0 O0 vs) (vs.map some) (ws.map fun _ => none) [] H' → Ex (.ref (A c)) none H'
    | .stuck => False) → ∀ σ v H', At K A (callB H F0 O0 vs) σ ρ [(r, v)] H' → Q v H' := fun {ρ r} h σ v H' a => by
    unfold endD at h
    cases q : finR ρ r with
    | none => rw [q] at h; exact h.elim
    | some r' =>
      rw [q] at h
      split at h
      · rename_i e
        split at e
        · rename_i e0
          cases e0
          split at e
          · split at e
            · rename_i ys q2
              cases e
              exact h.2 _ _ (exit_sound a q hl ⟨_, q2, rfl⟩)
            · cases e
          · rename_i nx
            cases e
            refine h.2 _ _ (exit_sound a q hl ?_)
            split
            · exact absurd rfl (nx _ _)
            · rfl
        · cases e
      · rename_i e
        split at e
        · split at e
          · split at e <;> cases e
          · cases e
        · cases e
      · exact h.elim
  by_cases hlen : ws.length = d.ps.length
  · have h1 : runD Γ d ws = (match evSs Γ d.body (ws.map some ++ List.replicate (d.N.length - ws.length) none) with
      | .nx ρ => endD ws ρ (.d .none)
      | .rt r ρ => endD ws ρ r
      | .ex c _ => .ex c
      | _ => .stuck) := if_pos hlen
    cases q : evSs Γ d.body (ws.map some ++ List.replicate (d.N.length - ws.length) none) with
    | nx ρ =>
      have h2 : runD Γ d ws = endD ws ρ (.d .none) := by rw [h1, q]
      rw [h2] at h
      exact fun σ H' ⟨F, O, S⟩ => fin h σ .non H' ⟨F, O, Sep.push (T := []) S .non⟩
    | rt r ρ =>
      have h2 : runD Γ d ws = endD ws ρ r := by rw [h1, q]
      rw [h2] at h
      exact fun σ v H' a => fin h σ v H' a
    | ex c ρ =>
      have h2 : runD Γ d ws = .ex c := by rw [h1, q]
      rw [h2] at h
      exact fun σ H' ⟨F, O, S⟩ => h H' ⟨F, O, by rw [none_map]; exact S.bare (by rw [List.length_map, hl])⟩
    | bk ρ =>
      have h2 : runD Γ d ws = .stuck := by rw [h1, q]
      rw [h2] at h
      exact h.elim
    | ct ρ =>
      have h2 : runD Γ d ws = .stuck := by rw [h1, q]
      rw [h2] at h
      exact h.elim
    | stuck =>
      have h2 : runD Γ d ws = .stuck := by rw [h1, q]
      rw [h2] at h
      exact h.elim
  · have h2 : runD Γ d ws = .stuck := if_neg hlen
    rw [h2] at h
    exact h.elim
end
end Mn
set_option Elab.async false
set_option linter.all false
set_option maxRecDepth 100000
set_option maxHeartbeats 4000000
namespace Mn
open PySem PySem.Spec PyProof.Rows L2 LamX
section
variable {P : Prg} {prog : Program} {w : World} {K : PySem.W.Frag} {mg : Str → Option Value} {base : Heap} {A : Ad} {st : Str → Stmt}
/-- the defs of n calls' depth keep their promises -/
def Keeps (P : Prg) (prog : Program) (w : World) (K : PySem.W.Frag) (mg : Str → Option Value) (base : Heap) (A : Ad) (st : Str → Stmt) (n : Nat) : Prop :=
  ∀ g f d, P.fn f = some d → ∃ fdt, FnG g prog w K mg base (3 * n) (A f) fdt d.ps (spC K A d.ps.length (P.call n g f)) ∧ FunD K f f (defArgs (st f)) (defBody (st f)) (defScope (st f)) [] [] (A f) fdt ∧ Binds K fdt d.ps []
theorem cfg_ar {d : Fd} {f : Str} {n : Nat} (h : (P.cfg d).ar f = some n) : ∃ e, P.fn f = some e ∧ e.ps.length = n := by
  have h' : (P.fn f).map (fun e => e.ps.length) = some n := h
  cases q : P.fn f with
  | none => rw [q] at h'; cases h'
  | some e => rw [q] at h'; exact ⟨e, rfl, Option.some.inj h'⟩
/-- where a body runs -/
theorem PrgOk.cx (S : PrgOk P prog w K mg base A st) {n : Nat} (I : Keeps P prog w K mg base A st n) {g : Bool} {d : Fd} {X : Cx} {sc : Scope} {Wx : WX} {told : Str → Option (List (Str × D))} (e1 : X.prog = prog) (e2 : X.w = w) (e3 : X.K = K) (e4 : X.mg = mg) (e5 : X.base = base) (e6 : X.env.scope = sc) (e7 : X.N = d.N) (nd : d.N.Nodup)
    (e8 : X.calm = true) (tk : Takes X Wx) (kd : sc.kind = .function) (hr : Room (3 * n) X.A) (hg : g = true → X.A.guards = some []) : CxOk X A { P.ctx (P.call n) g with told := told } (P.cfg d) sc Wx := by
  subst e1 e2 e3 e4 e5
  refine ⟨e6, e7, by rw [e7]; exact nd, e8, tk, kd, by have := hr.un; omega, hg, fun f m h => ?_, fun x y _ h => S.glo x y h, fun x h => S.bl x h, fun x h => ?_⟩
  · obtain ⟨b, b1, b2⟩ := cfg_ar h
    obtain ⟨fdt, G, FD, bn⟩ := I g f b b1
    obtain ⟨_, _, m1, _⟩ := S.defs f b b1
    subst b2
    exact ⟨m1, FD.kp, _, fdt, b.ps, G, hr, bn⟩
  · obtain ⟨bmB, B, n1, n2, F, q1, q2, q3, q4, q5⟩ := S.exn x h
    exact ⟨bmB, B, n1, n2, F, q1, q2, q3, raises_own q4 q5⟩
theorem start0 {a : Str} {N : List Str} (h : N[0]? = some a) (f : Addr) : (L2.start N [V.ref f])[0]? = some (some (V.ref f)) := rfl
theorem lam_bind {body : Expr} {scope : Scope} (q : Str) (cl : List (Str × Addr)) (pm cv ctv : Value) : bindArgs (PySem.W.kla_fn "<lambda>" q ⟨[], [], none, [], [], none, []⟩ body scope cl pm cv ctv) ⟨[], []⟩ = pure [] := rfl
/-- g(lambda: ..), told of any context -/
theorem heard_rule {X : Cx} {A : Ad} {Wx : WX} {gn a e no f : Str} {CS c Pt : Addr} {hs : List (Str × D)} {j j2 k k2 kk : Nat} {p1 p2 p3 p4 p5 p6 p7 p8 p9 p10 p11 p lpos pos : Pos} {Ng : List Str} {pg : Arguments} {sg : Scope} {dV kV doc pm cdv ct oc : Value} {an od : Option Addr} {osl : Array (Option Value)} {body : Expr} {scope : Scope} {ev : Env → Res (R × Env)}
    (hgl : Gl X gn) (mG : X.mg gn = some (.ref (A gn))) (kp : PySem.W.keepIn X.K (.ref (A gn)) = true)
    (lk : X.K.lookup (A gn) = some ⟨oc, od, .func (PySem.W.fnOf gn gn pg [.Try [.Return (some (.Tuple [.Constant (.str "told") j2 p9, .Call (.Name a p1) [] [] p2] k p10)) p3] [.ExceptHandler (some (.Name e p4)) none [.Return (some (.Tuple [.Constant (.str no) j p5] k2 p11)) p6] p7] [] [] p8] sg dV kV doc pm an cdv ct), osl⟩)
    (hcd : PySem.W.codeIn X.K cdv gn = true)
    (bG : Binds X.K (PySem.W.fnOf gn gn pg [.Try [.Return (some (.Tuple [.Constant (.str "told") j2 p9, .Call (.Name a p1) [] [] p2] k p10)) p3] [.ExceptHandler (some (.Name e p4)) none [.Return (some (.Tuple [.Constant (.str no) j p5] k2 p11)) p6] p7] [] [] p8] sg dV kV doc pm an cdv ct) [a] [])
    (Sg : FnScope Ng [a] sg) (hN0 : Ng[0]? = some a) (hva : Vis sg a) (hle : sg.names.lookup e = some .globalImplicit) (hme : X.mg e = some (.ref CS)) (he : (e == ("__debug__" : Str)) = false) (hg1 : (gn == ("__debug__" : Str)) = false) (ha1 : (a == ("__debug__" : Str)) = false) (ha2 : (a == ("__classdict__" : Str)) = false)
    (hso : HsOk X.K A CS no hs) (TB : TabB X.base X.mg c Pt) (ec : X.env.code = .ref c) (hq : X.env.qual = f) (hmT : (Pt, f ++ "<lambda>") ∈ A.T) (hu : ∀ p, p ∈ A.T → p.1 = Pt → p.2 = f ++ "<lambda>") (hr : Room (kk + 2) X.A) (L : LamS X.env.scope scope)
    (hB : ∀ (A2 : Around) (outer2 : List PySem.Env) (s2 : Shared) (H2 : Hp) (E : XK) (f2 c2 : Addr), Room kk (A2.deeper (lamEnv X scope s2.heap.objs.size f2 c2)) → PE (lamCx X A2 outer2 s2 H2 E scope f2 c2) body (RdE X.K A (fun cls d _ H => E cls d H) ev)) :
    PE X (.Call (.Name gn p) [.Lambda ⟨[], [], none, [], [], none, []⟩ body scope lpos] [] pos) (RdE X.K A Wx (heardEv hs ev)) := by
  subst hq
  have hG := tup_gives (X := X) (Ng := Ng) (x := gn) (a := a) (q := X.env.qual ++ "<lambda>") (yes := "told") (no := no) (g := A gn) (cdg := cdv) (j := j) (j2 := j2) (k := k) (k2 := k2) (p1 := p1) (p2 := p2) (p3 := p3) (p4 := p4) (p5 := p5) (p6 := p6) (p7 := p7) (p8 := p8) (p9 := p9) (p10 := p10) (p11 := p11) hle hme he (start0 hN0)
  have key := pe_lamcall (X := X) (T := A.T) (TT := TTup X.K CS "told" no) (x := gn) (g := A gn) (c := c) (P := Pt) (t := fun E => RdE X.K A (fun cls d _ H => E cls d H) ev) (k := kk) (params := ⟨[], [], none, [], [], none, []⟩) (body := body) (scope := scope) (p := p) (lpos := lpos) (pos := pos) hgl mG kp lk hcd bG Sg hN0 hva hG TB ec hmT hu hr L rfl lam_bind hB hg1 ha1 ha2
  exact PE_imp key fun σ H Q h => heard_sound hso h
theorem PrgOk.heard (S : PrgOk P prog w K mg base A st) {n : Nat} (I : Keeps P prog w K mg base A st n) {g : Bool} {d : Fd} {f : Str} (hfn : P.fn f = some d) (hlm : d.lm = true) {fdt : FuncData} (FD : FunD K f f (defArgs (st f)) (defBody (st f)) (defScope (st f)) [] [] (A f) fdt) {A' : Around} {outer : List PySem.Env} {s : Shared} {H : Hp} {Ex : XK}
    (hr : Room (3 * n + 2) (A'.deeper (envOfC f (defScope (st f)) s.heap.objs.size (A f) fdt.code))) (kd : (defScope (st f)).kind = .function) (nd : d.N.Nodup) :
    HeardOk (cxOf (L2.CX prog w) prog w K mg base d.N f (defScope (st f)) (A f) fdt.code A' outer s H Ex) A (P.ctx (P.call n) g) (P.cfg d) (defScope (st f)) (fun cls d _ H => Ex cls d H) := by
  intro gn hs ht body scope p lpos pos ev hgl hlam hbody
  obtain ⟨a, e, no, CS, j, j2, k, k2, p1, p2, p3, p4, p5, p6, p7, p8, p9, p10, p11, Ng, fdg, Fg, mG, bG, Sg, hN0, hva, hbd, hle, hme, he, ha1, ha2, hso⟩ := S.told gn hs ht
  obtain ⟨c, Pt, ec, TB, hmT, hu⟩ := S.lam f d fdt hfn hlm FD
  obtain ⟨oc, od, dV, kV, doc, pm, an, cdv, ct, osl, efd, lk, hcd, _, _⟩ := Fg.ex
  rw [efd] at lk bG
  rw [hbd] at lk bG
  have L := LamX.lamS_by hlam
  have gl : (defScope (st f)).names.lookup gn = some .globalImplicit ∧ (gn == ("__debug__" : Str)) = false := by
    unfold glB at hgl
    simp only [Bool.and_eq_true, decide_eq_true_eq, Bool.not_eq_true'] at hgl
    exact hgl
  have hB : ∀ (A2 : Around) (outer2 : List PySem.Env) (s2 : Shared) (H2 : Hp) (E : XK) (f2 c2 : Addr), Room (3 * n) (A2.deeper (lamEnv (cxOf (L2.CX prog w) prog w K mg base d.N f (defScope (st f)) (A f) fdt.code A' outer s H Ex) scope s2.heap.objs.size f2 c2)) →
      PE (lamCx (cxOf (L2.CX prog w) prog w K mg base d.N f (defScope (st f)) (A f) fdt.code A' outer s H Ex) A2 outer2 s2 H2 E scope f2 c2) body (RdE K A (fun cls d _ H => E cls d H) ev) := fun A2 outer2 s2 H2 E f2 c2 hr2 => by
    refine hbody (lamCx (cxOf (L2.CX prog w) prog w K mg base d.N f (defScope (st f)) (A f) fdt.code A' outer s H Ex) A2 outer2 s2 H2 E scope f2 c2) (fun cls d _ H => E cls d H) ?_
    exact S.cx I (g := false) rfl rfl rfl rfl rfl rfl rfl nd rfl (takes_of rfl rfl rfl rfl) L.kind hr2 (fun z => Bool.noConfusion z)
  exact heard_rule (X := cxOf (L2.CX prog w) prog w K mg base d.N f (defScope (st f)) (A f) fdt.code A' outer s H Ex) (f := f ++ ".<locals>.") gl.1 mG Fg.kp lk hcd bG Sg hN0 hva hle hme he gl.2 ha1 ha2 hso TB ec rfl hmT hu hr L hB
theorem PrgOk.keeps (S : PrgOk P prog w K mg base A st) : ∀ n, Keeps P prog w K mg base A st n
  | 0 => fun g f d hfn => by
    obtain ⟨fdt, FD, mG, bn⟩ := S.defs f d hfn
    exact ⟨fdt, ⟨fun vs H Q Ex h => h.1, fun A' outer s H args us vs Q Ex _ _ _ _ _ h => by
      obtain ⟨_, F, O, ws, _, z⟩ := h
      exact (show False from z).elim⟩, FD, bn⟩
  | n + 1 => fun g f d hfn => by
    have I := S.keeps n
    obtain ⟨fdt, FD, mG, bn⟩ := S.defs f d hfn
    refine ⟨fdt, ?_, FD, bn⟩
    have FD0 := FD
    obtain ⟨oc, od, dV, kV, doc, pm, an, cdv, ct, osl, efd, lk, hcd, _, _⟩ := FD.ex
    have sc := S.scp f d hfn
    rw [efd] at lk ⊢
    refine fnG_of (k := 3 * n + 2) lk hcd sc (fun vs H Q Ex h => h.1) fun A' outer s H vs Q Ex hg hr hsp => ?_
    obtain ⟨hl, F, O, ws, Sp, h⟩ := hsp
    have hwl : vs.length = ws.length := by
      have := Sp.len
      simpa using this
    have ecall : P.call (n + 1) g f ws = runD (P.ctx (P.call n) g) d ws := by
      show (match P.fn f with | some d => runD (P.ctx (P.call n) g) d ws | none => .stuck) = _
      rw [hfn]
    rw [ecall] at h
    have hNl : d.ps.length ≤ d.N.length := by
      have := congrArg List.length sc.pre
      rw [List.length_take] at this
      omega
    have ecd : cdv = fdt.code := by rw [efd]
    subst ecd
    have cx := S.cx I (g := g) (d := d) (told := fun f => P.told.lookup f) (X := cxOf (L2.CX prog w) prog w K mg base d.N f (defScope (st f)) (A f) fdt.code A' outer s H Ex) (sc := defScope (st f)) (Wx := fun cls d _ H => Ex cls d H) rfl rfl rfl rfl rfl rfl rfl sc.nd rfl (takes_of rfl rfl rfl rfl) sc.kind (hr.mono (by omega)) hg
    refine ⟨_, okSs cx (fun z => S.heard I hfn z FD0 hr sc.kind sc.nd) (fun _ _ => rfl) (passes_of rfl) d.body (defBody (st f)) (S.chk f d hfn), callB H F O vs, ws.map some ++ List.replicate (d.N.length - ws.length) none, ⟨F, O, ?_⟩, run_sound hwl hNl h⟩
    have := Sp.pad (d.N.length - vs.length)
    rw [hwl] at this
    show Sep K A (callB H F O vs) (vs.map some ++ List.replicate (d.N.length - vs.length) none) _ [] H F O
    rw [hwl]
    exact this
end
end Mn
set_option Elab.async false
set_option linter.all false
set_option maxRecDepth 100000
set_option maxHeartbeats 4000000
namespace Mn
open PySem PySem.Spec PyProof.Rows L2 LamX He
/-! ## from what a head tells -/
/-- the shape of a def that hears: its parameter, the class, the word -/
def toldShape : List Stmt → Option (Str × Str × Str)
  | [.Try [.Return (some (.Tuple [.Constant (.str y) _ _, .Call (.Name a _) [] [] _] _ _)) _] [.ExceptHandler (some (.Name e _)) none [.Return (some (.Tuple [.Constant (.str no) _ _] _ _)) _] _] [] [] _] => if y = "told" then some (a, e, no) else none
  | _ => none
theorem toldShape_ok {b : List Stmt} {a e no : Str} (h : toldShape b = some (a, e, no)) : ∃ (j j2 k k2 : Nat) (p1 p2 p3 p4 p5 p6 p7 p8 p9 p10 p11 : Pos),
    b = [.Try [.Return (some (.Tuple [.Constant (.str "told") j2 p9, .Call (.Name a p1) [] [] p2] k p10)) p3] [.ExceptHandler (some (.Name e p4)) none [.Return (some (.Tuple [.Constant (.str no) j p5] k2 p11)) p6] p7] [] [] p8] := by
  unfold toldShape at h
  split at h
  · split at h
    · rename_i q
      cases h
      subst q
      exact ⟨_, _, _, _, _, _, _, _, _, _, _, _, _, _, _, rfl⟩
    · cases h
  · cases h
def scB (N ps : List Str) (sc : Scope) : Bool := decide (sc.kind = .function) && !sc.isCoroutine && !sc.isGenerator && decide N.Nodup && decide (N.take ps.length = ps) && (ps.all fun x => decide (sc.names.lookup x = some .local) || decide (sc.names.lookup x = some .cell)) && sc.names.all fun y => !decide (y.2 = .free)
theorem scB_ok {N ps : List Str} {sc : Scope} (h : scB N ps sc = true) : FnScope N ps sc := by
  unfold scB at h
  simp only [Bool.and_eq_true, decide_eq_true_eq, Bool.not_eq_true', List.all_eq_true, Bool.or_eq_true, decide_eq_false_iff_not] at h
  obtain ⟨⟨⟨⟨⟨⟨h1, h2⟩, h3⟩, h4⟩, h5⟩, h6⟩, h7⟩ := h
  exact ⟨h1, h2, h3, h4, h5, h6, h7⟩
/-- simple data as the head has it -/
def dvOf : D → Dv
  | .int i => .int i
  | .str s => .str s
  | .bool b => .bl b
  | _ => .non
def isSimple : D → Bool
  | .int _ => true
  | .str _ => true
  | .bool _ => true
  | .none => true
  | _ => false
theorem simple_dq {K : PySem.W.Frag} {F : Hp} {d : D} (h : isSimple d = true) : Dq K F (Dv.v K (dvOf d)) d := by
  cases d with
  | none => exact .non
  | bool b => exact .bl b
  | int i => exact .int i
  | str s => exact .str s
  | _ => cases h
theorem simples_dq {K : PySem.W.Frag} {F : Hp} : ∀ {ds : List D}, ds.all isSimple = true → DqAll K F ((ds.map dvOf).map (Dv.v K)) ds
  | [], _ => .nil
  | d :: ds, h => by
    rw [List.all_cons, Bool.and_eq_true] at h
    exact .cons (simple_dq h.1) (simples_dq h.2)
def gloFa : Str × D → Fa
  | (x, .str s) => .str x s
  | (x, .int i) => .int x i
  | (x, _) => .glo x
def gloEx (K : PySem.W.Frag) : Str × D → Bool
  | (_, .str _) => true
  | (_, .int _) => true
  | (x, .tuple ds) => ds.all isSimple && tupB K x (ds.map dvOf)
  | _ => false
def noLists (K : PySem.W.Frag) : Bool := K.all fun q => match q.2.cls with
  | .type c => !decide (c = "list")
  | _ => true
theorem noLists_ok {K : PySem.W.Frag} (h : noLists K = true) {a : Addr} {o : Obj} (e : K.lookup a = some o) : o.cls ≠ .type "list" := by
  intro z
  have m : (a, o) ∈ K := He.lookup_mem e
  have q := List.all_eq_true.mp h _ m
  simp only [z] at q
  simp at q
def toldE (st : Str → Stmt) (g : Str) : Str := match toldShape (defBody (st g)) with
  | some (_, e, _) => e
  | none => ""
def Prg.fa (P : Prg) (st : Str → Stmt) : List Fa := P.fns.map (fun d => .glo d.name) ++ P.bl.map .free ++ P.exn.map .exc ++ P.exn.map .glo ++ P.glo.map gloFa ++ P.told.map (fun t => .glo t.1) ++ P.told.map (fun t => .glo (toldE st t.1)) ++ P.told.flatMap fun t => t.2.map fun h => .exm h.1 (toldE st t.1) true
def defD (st : Str → Stmt) (f : Str) : DefD := ⟨(f, none), f, f, defArgs (st f), defBody (st f), defScope (st f), [], []⟩
def Prg.fd (P : Prg) (st : Str → Stmt) : List DefD := P.fns.map (fun d => defD st d.name) ++ P.told.map fun t => defD st t.1
def Prg.tf (P : Prg) : List Defn := (P.fns.filter (·.lm)).map fun d => (d.name, none)
def Prg.ex (P : Prg) (K : PySem.W.Frag) : Bool := noLists K && P.glo.all (gloEx K)
/-- what is checked of the text -/
def Prg.txtB (P : Prg) (st : Str → Stmt) : Bool := P.fns.all fun d => scB d.N d.ps (defScope (st d.name)) && chkSs (P.cfg d) d.lm (defScope (st d.name)) d.body (defBody (st d.name))
def Prg.toldB (P : Prg) (st : Str → Stmt) : Bool := P.told.all fun t => match toldShape (defBody (st t.1)) with
  | some (a, e, no) => scB [a] [a] (defScope (st t.1)) && (decide ((defScope (st t.1)).names.lookup a = some .local) || decide ((defScope (st t.1)).names.lookup a = some .cell)) && decide ((defScope (st t.1)).names.lookup e = some .globalImplicit) && !(e == ("__debug__" : Str)) && !(a == ("__debug__" : Str)) && !(a == ("__classdict__" : Str)) && t.2.all fun h => (match h.2 with
    | .tuple [.str s] => decide (s = no)
    | _ => false)
  | none => false
def Bnd (st : Str → Stmt) (f : Str) (ps : List Str) : Prop := ∀ (kV doc pm : Value) (an : Option Addr) (cdv ct : Value) (us : List Value), us.length = ps.length → bindArgs (PySem.W.fnOf f f (defArgs (st f)) (defBody (st f)) (defScope (st f)) .none kV doc pm an cdv ct) ⟨us, []⟩ = pure (ps.zip us)
theorem fn_mem {P : Prg} {f : Str} {d : Fd} (h : P.fn f = some d) : d ∈ P.fns ∧ d.name = f := by
  unfold Prg.fn at h
  exact ⟨List.mem_of_find?_eq_some h, by simpa using List.find?_some h⟩
theorem look_mem {β : Type} {x : Str} {y : β} : ∀ {l : List (Str × β)}, l.lookup x = some y → (x, y) ∈ l
  | [], h => by cases h
  | (a, b) :: l, h => by
    rw [List.lookup_cons] at h
    split at h
    · rename_i q
      cases h
      rw [beq_iff_eq] at q
      subst q
      exact List.mem_cons_self
    · exact List.mem_cons_of_mem _ (look_mem h)
theorem lookEx_mem {c : Str} {d : D} : ∀ {hs : List (Str × D)}, lookupEx c hs = some d → (c, d) ∈ hs
  | [], h => by cases h
  | (a, b) :: l, h => by
    unfold lookupEx at h
    split at h
    · rename_i q
      cases h
      subst q
      exact List.mem_cons_self
    · exact List.mem_cons_of_mem _ (lookEx_mem h)
section
variable {P : Prg} {prog : Program} {st : Str → Stmt} {w : World} {h base : Heap} {K : PySem.W.Frag} {mg : Str → Option Value}
def adOf (P : Prg) (K : PySem.W.Frag) : Ad := ⟨fun x => ga K x, (P.fns.filter (·.lm)).map fun d => ((cT K (d.name, none)).2, d.name ++ ".<locals>." ++ "<lambda>")⟩
theorem prgOk_of (c : SaysX (P.fa st) (P.fd st) [] P.tf P.ex w h K) (X : K.In h) (G : h.Ns mainGlobals mg) (tx : P.txtB st = true) (to : P.toldB st = true) (bn : ∀ d, d ∈ P.fns → Bnd st d.name d.ps) (bt : ∀ t, t ∈ P.told → ∀ a e no, toldShape (defBody (st t.1)) = some (a, e, no) → Bnd st t.1 [a])
    (one : ∀ d e, d ∈ P.fns → d.lm = true → e ∈ P.fns → e.lm = true → d.name = e.name) (TB : ∀ p, p ∈ P.tf → TabB base mg (cT K p).1 (cT K p).2) : PrgOk P prog w K mg base (adOf P K) st := by
  have fact : ∀ {f : Fa}, f ∈ P.fa st → f.ok K = true := fun hf => c.t.d.facts hf
  have def_ : ∀ {d : DefD}, d ∈ P.fd st → ∃ fd, FunD K d.name d.qual d.params d.body d.scope (d.dvs K) (d.kws K) (fAd K d.at_) fd := fun hd => c.t.d.defs hd
  have ex := c.more
  unfold Prg.ex at ex
  rw [Bool.and_eq_true] at ex
  have tx' : ∀ d, d ∈ P.fns → scB d.N d.ps (defScope (st d.name)) = true ∧ chkSs (P.cfg d) d.lm (defScope (st d.name)) d.body (defBody (st d.name)) = true := fun d hd => by
    have := List.all_eq_true.mp tx d hd
    rwa [Bool.and_eq_true] at this
  refine ⟨fun f d hf => ?_, fun f d hf => ?_, fun f d hf => ?_, fun x d hx => ?_, fun x hx => ?_, fun x hx => ?_, fun g hs hg => ?_, fun f d fdt hf hl FD => ?_⟩
  · obtain ⟨hd, rfl⟩ := fn_mem hf
    obtain ⟨fdt, F⟩ := def_ (d := defD st d.name) (List.mem_append_left _ (List.mem_map_of_mem hd))
    have g : mg d.name = some (.ref (ga K d.name)) := glo_ok X G (fact (f := .glo d.name) (by simp only [Prg.fa, List.mem_append, List.mem_map]; exact .inl (.inl (.inl (.inl (.inl (.inl (.inl ⟨d, hd, rfl⟩))))))))
    exact ⟨fdt, F, g, FunD.bindsN F (bn d hd)⟩
  · obtain ⟨hd, rfl⟩ := fn_mem hf
    exact scB_ok (tx' d hd).1
  · obtain ⟨hd, rfl⟩ := fn_mem hf
    exact (tx' d hd).2
  · have hm := look_mem hx
    have hfa : gloFa (x, d) ∈ P.fa st := by simp only [Prg.fa, List.mem_append, List.mem_map]; exact .inl (.inl (.inl (.inr ⟨_, hm, rfl⟩)))
    have hex := List.all_eq_true.mp ex.2 _ hm
    cases d with
    | str s =>
      obtain ⟨t, e⟩ := str_ok X G (fact hfa)
      exact ⟨.str s, _, e, ⟨t, rfl⟩, fun F => .str s⟩
    | int i =>
      obtain ⟨t, e⟩ := int_ok X G (fact hfa)
      exact ⟨.int i, _, e, ⟨t, rfl⟩, fun F => .int i⟩
    | tuple ds =>
      simp only [gloEx, Bool.and_eq_true] at hex
      exact ⟨.ref (ga K x), _, glo_ok X G (fact hfa), rfl, fun F => .tup (tupB_ok hex.2 F) (simples_dq hex.1)⟩
    | _ => simp [gloEx] at hex
  · exact free_ok X G (fact (f := .free x) (by simp only [Prg.fa, List.mem_append, List.mem_map]; exact .inl (.inl (.inl (.inl (.inl (.inl (.inr ⟨x, by simpa using hx, rfl⟩))))))))
  · have hx' : x ∈ P.exn := by simpa using hx
    obtain ⟨e1, e2, e3, e4⟩ := exc_ok (fact (f := .exc x) (by simp only [Prg.fa, List.mem_append, List.mem_map]; exact .inl (.inl (.inl (.inl (.inl (.inr ⟨x, hx', rfl⟩)))))))
    have g := glo_ok X G (fact (f := .glo x) (by simp only [Prg.fa, List.mem_append, List.mem_map]; exact .inl (.inl (.inl (.inl (.inr ⟨x, hx', rfl⟩))))))
    exact ⟨veBase, "ValueError", "ValueError.__new__", "ValueError.__init__", PySem.F.excBase_ValueError, e1, g, e2, e3, e4⟩
  · have hm := look_mem hg
    have q := List.all_eq_true.mp to _ hm
    simp only at q
    split at q
    · rename_i a e no hsh
      simp only [Bool.and_eq_true, Bool.or_eq_true, decide_eq_true_eq, Bool.not_eq_true', List.all_eq_true] at q
      obtain ⟨⟨⟨⟨⟨⟨q1, q2⟩, q3⟩, q4⟩, q5⟩, q6⟩, q7⟩ := q
      obtain ⟨j, j2, k, k2, p1, p2, p3, p4, p5, p6, p7, p8, p9, p10, p11, hb⟩ := toldShape_ok hsh
      obtain ⟨fdt, F⟩ := def_ (d := defD st g) (List.mem_append_right _ (List.mem_map.mpr ⟨_, hm, rfl⟩))
      have ete : toldE st g = e := by unfold toldE; rw [hsh]
      have g1 : mg g = some (.ref (ga K g)) := glo_ok X G (fact (f := .glo g) (by simp only [Prg.fa, List.mem_append, List.mem_map]; exact .inl (.inl (.inr ⟨_, hm, rfl⟩))))
      have g2 : mg e = some (.ref (ga K e)) := glo_ok X G (fact (f := .glo e) (by simp only [Prg.fa, List.mem_append, List.mem_map]; exact .inl (.inr ⟨_, hm, by rw [ete]⟩)))
      refine ⟨a, e, no, ga K e, j, j2, k, k2, p1, p2, p3, p4, p5, p6, p7, p8, p9, p10, p11, [a], fdt, F, g1, FunD.bindsN F (bt _ hm a e no hsh), scB_ok q1, rfl, q2.imp id .inl, hb, q3, g2, q4, q5, q6, fun cx d hcx => ?_⟩
      have hc := lookEx_mem hcx
      have q8 := q7 _ hc
      refine ⟨exm_ok (fact (f := .exm cx e true) (by simp only [Prg.fa, List.mem_append, List.mem_flatMap, List.mem_map]; exact .inr ⟨_, hm, _, hc, by rw [ete]⟩)), ?_⟩
      simp only at q8
      split at q8
      · rename_i s
        rw [of_decide_eq_true q8]
      · cases q8
    · cases q
  · obtain ⟨hd, rfl⟩ := fn_mem hf
    obtain ⟨oc, od, dV, kV, doc, pm, an, cdv, ct, osl, efd, lk, hcd, _, _⟩ := FD.ex
    obtain ⟨cc, ecd⟩ := codeIn_ref hcd
    have ecode : fdt.code = .ref cc := by rw [efd]; exact ecd
    have hcof : codeOf K (d.name, none) = cc := codeOf_eq lk ecode
    have hp : (d.name, none) ∈ P.tf := List.mem_map.mpr ⟨d, List.mem_filter.mpr ⟨hd, hl⟩, rfl⟩
    have tb := TB _ hp
    refine ⟨cc, (cT K (d.name, none)).2, ecode, ?_, List.mem_map.mpr ⟨d, List.mem_filter.mpr ⟨hd, hl⟩, rfl⟩, fun p hpp _ => ?_⟩
    · have e1 : (cT K (d.name, none)).1 = cc := hcof
      rw [← e1]
      exact tb
    · obtain ⟨d2, hd2, rfl⟩ := List.mem_map.mp hpp
      obtain ⟨m2, l2⟩ := List.mem_filter.mp hd2
      show d2.name ++ ".<locals>." ++ "<lambda>" = _
      rw [one d2 d m2 l2 hd hl]
end
end Mn
set_option Elab.async false
set_option linter.all false
set_option maxRecDepth 100000
set_option maxHeartbeats 4000000
namespace Mn
open PySem PySem.Spec PyProof.Rows L2 LamX He
theorem ints_dq {K : PySem.W.Frag} {F : Hp} : ∀ ns : List Int, DqAll K F (ns.map V.int) (ns.map PyData.int)
  | [] => .nil
  | n :: ns => .cons (.int n) (ints_dq ns)
/-- what the head is asked for -/
abbrev Prg.hook (P : Prg) (st : Str → Stmt) (m : Nat) : PySem.W.Hook := hookX m (P.fa st) (P.fd st) [] P.tf P.ex
/-- the law's end, its answers given -/
theorem law_walk {l : PySem.W.OpenLaw} {P : Prg} {st : Str → Stmt} {m n : Nat} {q : Program} {loose : List Str} {XP : (Str → Option Value) → Heap → Prop} {dr : DefRec} {d : Fd} (hn : l.most = some 63) (hdf : dr.params.defaults = []) (hdn : dr.name = "law") (hr : Room (3 * n) callerA)
    (tx : P.txtB st = true) (to : P.toldB st = true) (bn : ∀ d, d ∈ P.fns → Bnd st d.name d.ps) (bt : ∀ t, t ∈ P.told → ∀ a e no, toldShape (defBody (st t.1)) = some (a, e, no) → Bnd st t.1 [a])
    (one : ∀ d e, d ∈ P.fns → d.lm = true → e ∈ P.fns → e.lm = true → d.name = e.name) (hd : P.fn "law" = some d) (hps : d.ps = [("script" : Str)])
    (pure_ : ∀ ns : List Int, ns.length ≤ 63 → (∀ z, z ∈ ns → Builtin.Int.intBits z ≤ 1048576) → P.call n true "law" [.d (.list (ns.map PyData.int))] = .ret (.d (.bool true)) none) :
    PySem.W.WalkO q loose XP (P.hook st m).says l.row.toRowW dr [] (fun f vs => PySem.call f vs) := by
  refine walkG (n := 63) (k := 3 * n) (x := "script") hn (by decide) hdf hr fun w mg fa h Y G hmg => ?_
  obtain ⟨K, KX, c⟩ := Y
  rw [hdn] at hmg
  obtain ⟨hdm, hdnm⟩ := fn_mem hd
  have glaw : mg "law" = some (.ref (ga K "law")) := glo_ok KX G (c.t.d.facts (f := .glo "law") (by simp only [Prg.fa, List.mem_append, List.mem_map]; exact .inl (.inl (.inl (.inl (.inl (.inl (.inl ⟨d, hdm, by rw [hdnm]⟩))))))))
  rw [glaw] at hmg
  cases hmg
  obtain ⟨fdt, F0⟩ := c.t.d.defs (d := defD st d.name) (List.mem_append_left _ (List.mem_map_of_mem hdm))
  have F1 : FunD K d.name d.name (defArgs (st d.name)) (defBody (st d.name)) (defScope (st d.name)) [] [] (ga K d.name) fdt := F0
  rw [hdnm] at F1
  have ex := c.more
  unfold Prg.ex at ex
  rw [Bool.and_eq_true] at ex
  refine ⟨K, fdt, P.tf.map (cT K), spC K (adOf P K) 1 (P.call n true "law"), KX, fun q hq => ?_, fun q hq => ?_, fun q hq => ?_, fun s u => ?_, fun H a ns hl hb hT hO hS => ?_, fun base hKb hG hTB => ?_⟩
  · obtain ⟨p, hp, rfl⟩ := List.mem_map.mp hq
    exact c.empty p hp
  · obtain ⟨p, hp, rfl⟩ := List.mem_map.mp hq
    exact c.out p hp
  · obtain ⟨p, hp, rfl⟩ := List.mem_map.mp hq
    exact PySem.W.codeHd_of_K KX (c.hd p hp)
  · have b := FunD.bindsA (ps := d.ps) F0 (bn d hdm) s [u] (by rw [hps]; rfl)
    rw [hps] at b
    exact b
  · have rdH : ∃ o, H a = some o ∧ nonT o ∧ Rd (mask H) a (.lst (ns.map V.int)) := by
      rcases hS with (z | ⟨u, z⟩) | ⟨o, its, k, e1, e2, _⟩
      · exact ⟨_, z, nonT_lst, .inl (mask_of z nonT_lst)⟩
      · exact ⟨_, z, (fun _ z => nomatch z), .inr ⟨u, mask_of z (fun _ z => nomatch z)⟩⟩
      · exact absurd e2 (noLists_ok ex.1 e1)
    obtain ⟨o, _, _, rd⟩ := rdH
    refine ⟨rfl, mask H, fun _ => none, [.d (.list (ns.map PyData.int))], ?_, ?_⟩
    · refine ⟨fun b o h => (mask_some h).1, fun _ _ h => h, fun _ h => .inl h, fun _ _ h _ => (mask_some h).1, fun _ h => h, fun b h => absurd rfl h, rfl, fun i w h => ?_, fun k r v h => by simp at h, fun i xs h => ?_, fun k xs p h => by simp at h, fun i xs p h _ => ?_, fun _ h => h, ⟨fun b o h => (mask_some h).2, fun p hp => ?_⟩⟩
      · cases i with
        | zero => cases h; exact ⟨_, rfl, .lst rd (ints_dq ns)⟩
        | succ i => simp at h
      · cases i with
        | zero => cases h
        | succ i => simp at h
      · cases i with
        | zero => cases h
        | succ i => simp at h
      · obtain ⟨e, he, rfl⟩ := List.mem_map.mp hp
        exact TabS.nil (hT _ (List.mem_map.mpr ⟨(e.name, none), List.mem_map.mpr ⟨e, he, rfl⟩, rfl⟩))
    · rw [pure_ ns hl hb]
      refine ⟨(fun i z => nomatch z), fun v H' ⟨F, O, S⟩ => ?_⟩
      have t : Dq K F v (.bool true) := S.temps 0 _ _ rfl
      cases t
      rfl
  · have S := prgOk_of (prog := l.prog) (w := w) (base := base) c KX G tx to bn bt one fun p hp => hTB _ (List.mem_map_of_mem hp)
    obtain ⟨fdt2, FG, F2, _⟩ := S.keeps n true "law" d hd
    have e : fdt2 = fdt := by
      obtain ⟨_, _, _, _, _, _, _, _, _, _, _, lk1, _⟩ := F1.ex
      obtain ⟨_, _, _, _, _, _, _, _, _, _, _, lk2, _⟩ := F2.ex
      have lk2' : K.lookup (ga K "law") = _ := lk2
      rw [lk1] at lk2'
      cases lk2'
      rfl
    subst e
    rw [hps] at FG
    exact FG
end Mn
set_option Elab.async false
set_option linter.all false
set_option maxRecDepth 100000
set_option maxHeartbeats 4000000
namespace Mn
open PySem
/-! ## reckoning in the small language -/
theorem bind_left {α β : Type} {m m' : Res α} {f : α → Res β} (h : m = m') : (m >>= f) = (m' >>= f) := by rw [h]
theorem fl_left {α : Type} {m m' : Res α} {f : α → Fl} (h : m = m') : m.fl f = m'.fl f := by rw [h]
theorem bind_ok {α β : Type} (a : α) (f : α → Res β) : ((.ok a : Res α) >>= f) = f a := rfl
theorem bind_ex {α β : Type} (c : Str) (ρ : Env) (f : α → Res β) : ((.ex c ρ : Res α) >>= f) = .ex c ρ := rfl
theorem fl_ok {α : Type} (a : α) (f : α → Fl) : (Res.ok a).fl f = f a := rfl
theorem fl_ex {α : Type} (c : Str) (ρ : Env) (f : α → Fl) : (Res.ex c ρ : Res α).fl f = .ex c ρ := rfl
theorem of_some {α : Type} (a : α) : Res.of (some a) = .ok a := rfl
def andThen (f : Fl) (k : Env → Fl) : Fl := match f with
  | .nx ρ => k ρ
  | f => f
theorem then_left {f f' : Fl} {k : Env → Fl} (h : f = f') : andThen f k = andThen f' k := by rw [h]
theorem evSs_cons (Γ : Ctx) (s : S) (ss : Ss) (ρ : Env) : evSs Γ (.cons s ss) ρ = andThen (evS Γ s ρ) fun ρ => evSs Γ ss ρ := by
  rw [evSs]
  rfl
theorem evSs_nil (Γ : Ctx) (ρ : Env) : evSs Γ .nil ρ = .nx ρ := by rw [evSs]
theorem then_nx (ρ : Env) (k : Env → Fl) : andThen (.nx ρ) k = k ρ := rfl
theorem then_rt (r : R) (ρ : Env) (k : Env → Fl) : andThen (.rt r ρ) k = .rt r ρ := rfl
theorem then_ex (c : Str) (ρ : Env) (k : Env → Fl) : andThen (.ex c ρ) k = .ex c ρ := rfl
/-! comprehensions whose turns leave the slots as they are -/
theorem lc_pure {f : D → Env → Res (Option D × Env)} {ρ : Env} (g : D → Option D) : ∀ {xs acc : List D}, (∀ x, x ∈ xs → f x ρ = .ok (g x, ρ)) → acc.length + xs.length ≤ LIM → lcLoop f xs acc ρ = .ok (acc ++ xs.filterMap g, ρ)
  | [], acc, _, _ => by simp [lcLoop]
  | x :: xs, acc, h, hl => by
    rw [List.length_cons] at hl
    have hx := h x List.mem_cons_self
    have hr := fun y hy => h y (List.mem_cons_of_mem _ hy)
    cases q : g x with
    | none =>
      rw [q] at hx
      simp only [lcLoop, hx]
      rw [lc_pure g hr (by omega), List.filterMap_cons_none q]
    | some y =>
      rw [q] at hx
      simp only [lcLoop, hx]
      rw [if_pos (by omega), lc_pure g hr (by rw [List.length_append, List.length_singleton]; omega), List.filterMap_cons_some q, List.append_assoc]
      rfl
theorem lc_map {f : D → Env → Res (Option D × Env)} {ρ : Env} (g : D → D) {xs : List D} (h : ∀ x, x ∈ xs → f x ρ = .ok (some (g x), ρ)) (hl : xs.length ≤ LIM) : lcLoop f xs [] ρ = .ok (xs.map g, ρ) := by
  rw [lc_pure (fun x => some (g x)) h (by simpa using hl)]
  simp
theorem lc_filter {f : D → Env → Res (Option D × Env)} {ρ : Env} (p : D → Bool) {xs : List D} (h : ∀ x, x ∈ xs → f x ρ = .ok (if p x then some x else none, ρ)) (hl : xs.length ≤ LIM) : lcLoop f xs [] ρ = .ok (xs.filter p, ρ) := by
  rw [lc_pure (fun x => if p x then some x else none) h (by simpa using hl), List.nil_append]
  congr 2
  induction xs with
  | nil => rfl
  | cons x xs ih =>
    have := ih (fun y hy => h y (List.mem_cons_of_mem _ hy)) (by rw [List.length_cons] at hl; omega)
    cases q : p x <;> simp [List.filterMap_cons, List.filter_cons, q, this]
end Mn
set_option Elab.async false
set_option linter.all false
set_option maxRecDepth 100000
set_option maxHeartbeats 4000000
namespace Mn
open PySem
def runB (Γ : Ctx) (np nN : Nat) (body : Ss) (ws : List W) : CRes := if ws.length = np then (match evSs Γ body (ws.map some ++ List.replicate (nN - ws.length) none) with
  | .nx ρ => endD ws ρ (.d .none)
  | .rt r ρ => endD ws ρ r
  | .ex c _ => .ex c
  | _ => .stuck) else .stuck
theorem runB_rt {Γ : Ctx} {np nN : Nat} {body : Ss} {ws : List W} {r : R} {ρ ρ0 : Env} {c : CRes} (hl : ws.length = np) (h0 : ws.map some ++ List.replicate (nN - ws.length) none = ρ0) (h : evSs Γ body ρ0 = .rt r ρ) (e : endD ws ρ r = c) : runB Γ np nN body ws = c := by
  subst h0
  rw [runB, if_pos hl, h]
  exact e
theorem runB_nx {Γ : Ctx} {np nN : Nat} {body : Ss} {ws : List W} {ρ ρ0 : Env} {c : CRes} (hl : ws.length = np) (h0 : ws.map some ++ List.replicate (nN - ws.length) none = ρ0) (h : evSs Γ body ρ0 = .nx ρ) (e : endD ws ρ (.d .none) = c) : runB Γ np nN body ws = c := by
  subst h0
  rw [runB, if_pos hl, h]
  exact e
theorem runB_ex {Γ : Ctx} {np nN : Nat} {body : Ss} {ws : List W} {ρ ρ0 : Env} {c : Str} (hl : ws.length = np) (h0 : ws.map some ++ List.replicate (nN - ws.length) none = ρ0) (h : evSs Γ body ρ0 = .ex c ρ) : runB Γ np nN body ws = .ex c := by
  subst h0
  rw [runB, if_pos hl, h]
/-! ### statements, one by one -/
theorem ss_nx {Γ : Ctx} {s : S} {ss : Ss} {ρ ρ1 : Env} {f : Fl} (h : evS Γ s ρ = .nx ρ1) (h2 : evSs Γ ss ρ1 = f) : evSs Γ (.cons s ss) ρ = f := by rw [evSs_cons, h]; exact h2
theorem ss_rt {Γ : Ctx} {s : S} {ss : Ss} {ρ ρ1 : Env} {r : R} (h : evS Γ s ρ = .rt r ρ1) : evSs Γ (.cons s ss) ρ = .rt r ρ1 := by rw [evSs_cons, h]; rfl
theorem ss_ex {Γ : Ctx} {s : S} {ss : Ss} {ρ ρ1 : Env} {c : Str} (h : evS Γ s ρ = .ex c ρ1) : evSs Γ (.cons s ss) ρ = .ex c ρ1 := by rw [evSs_cons, h]; rfl
theorem s_set {Γ : Ctx} {i : Nat} {e : E} {ρ ρ1 ρ2 : Env} {r : R} (h : evE Γ e ρ = .ok (r, ρ1)) (h2 : r.into i ρ1 = some ρ2) : evS Γ (.set i e) ρ = .nx ρ2 := by
  rw [evS, h]
  show (match r.into i ρ1 with | some ρ1 => Fl.nx ρ1 | none => .stuck) = _
  rw [h2]
theorem s_expr {Γ : Ctx} {e : E} {ρ ρ1 : Env} {r : R} (h : evE Γ e ρ = .ok (r, ρ1)) : evS Γ (.expr e) ρ = .nx ρ1 := by rw [evS, h]; rfl
theorem s_exprx {Γ : Ctx} {e : E} {ρ ρ1 : Env} {c : Str} (h : evE Γ e ρ = .ex c ρ1) : evS Γ (.expr e) ρ = .ex c ρ1 := by rw [evS, h]; rfl
theorem s_ret {Γ : Ctx} {e : E} {ρ ρ1 : Env} {r : R} (h : evE Γ e ρ = .ok (r, ρ1)) : evS Γ (.ret e) ρ = .rt r ρ1 := by rw [evS, h]; rfl
theorem s_retx {Γ : Ctx} {e : E} {ρ ρ1 : Env} {c : Str} (h : evE Γ e ρ = .ex c ρ1) : evS Γ (.ret e) ρ = .ex c ρ1 := by rw [evS, h]; rfl
theorem s_if {Γ : Ctx} {c : C} {a b : Ss} {ρ ρ1 : Env} {t : Bool} {f : Fl} (h : evC Γ c ρ = .ok (t, ρ1)) (h2 : (if t then evSs Γ a ρ1 else evSs Γ b ρ1) = f) : evS Γ (.iff c a b) ρ = f := by rw [evS, h]; exact h2
theorem s_ifx {Γ : Ctx} {c : C} {a b : Ss} {ρ ρ1 : Env} {x : Str} (h : evC Γ c ρ = .ex x ρ1) : evS Γ (.iff c a b) ρ = .ex x ρ1 := by rw [evS, h]; rfl
theorem s_for {Γ : Ctx} {tg : Tg} {it : I} {b : Ss} {ρ ρ1 : Env} {xs : List D} {f : Fl} (h : evI Γ it ρ = .ok (xs, ρ1)) (h2 : forLoop (fun x ρ => match tg.set ρ x with
    | some ρ => evSs Γ b ρ
    | none => .stuck) xs ρ1 = f) : evS Γ (.for_ tg it b) ρ = f := by rw [evS, h]; exact h2
/-! ### expressions -/
theorem e_call {Γ : Ctx} {f : Str} {es : Es} {ρ ρ1 ρ2 : Env} {rs : List R} {ds : List D} {r : R} {o : Option (List D)} (h : evEs Γ es ρ = .ok (rs, ρ1)) (hl : Γ.lend f = false) (hk : keepAll rs ρ1 = some (ds, ρ2)) (hc : Γ.call Γ.g f (ds.map .d) = .ret r o) (hr : ∀ i, r ≠ .slot i) : evE Γ (.call f es) ρ = .ok (r, ρ2) := by
  rw [evE, h]
  show callF Γ f rs ρ1 = _
  unfold callF
  simp only [hl, Bool.false_eq_true, if_false, hk, hc]
theorem e_callx {Γ : Ctx} {f : Str} {es : Es} {ρ ρ1 ρ2 : Env} {rs : List R} {ds : List D} {c : Str} (h : evEs Γ es ρ = .ok (rs, ρ1)) (hl : Γ.lend f = false) (hk : keepAll rs ρ1 = some (ds, ρ2)) (hc : Γ.call Γ.g f (ds.map .d) = .ex c) : evE Γ (.call f es) ρ = .ex c ρ2 := by
  rw [evE, h]
  show callF Γ f rs ρ1 = _
  unfold callF
  simp only [hl, Bool.false_eq_true, if_false, hk, hc]
theorem e_lend {Γ : Ctx} {f : Str} {es : Es} {ρ ρ1 ρ2 : Env} {i : Nat} {l l2 : Bool} {xs xs2 ys : List D} {rest : List R} {ds : List D} {r : R} (h : evEs Γ es ρ = .ok (.slot i :: rest, ρ1)) (hl : Γ.lend f = true) (ho : ρ1[i]? = some (some (W.own l xs))) (hk : keepAll rest ρ1 = some (ds, ρ2)) (ho2 : ρ2[i]? = some (some (W.own l2 xs2)))
    (hc : Γ.call Γ.g f (.own true xs :: ds.map .d) = .ret r (some ys)) (hr : ∀ i, r ≠ .slot i) : evE Γ (.call f es) ρ = .ok (r, ρ2.set i (some (.own l ys))) := by
  rw [evE, h]
  show callF Γ f (.slot i :: rest) ρ1 = _
  unfold callF
  simp only [hl, if_true, ho, hk, ho2, hc]
theorem es_nil {Γ : Ctx} {ρ : Env} : evEs Γ .nil ρ = .ok ([], ρ) := by rw [evEs]
theorem es_cons {Γ : Ctx} {e : E} {es : Es} {ρ ρ1 ρ2 : Env} {r : R} {rs : List R} (h : evE Γ e ρ = .ok (r, ρ1)) (h2 : evEs Γ es ρ1 = .ok (rs, ρ2)) : evEs Γ (.cons e es) ρ = .ok (r :: rs, ρ2) := by
  rw [evEs, h]
  show (evEs Γ es ρ1 >>= fun z => (.ok (r :: z.1, z.2) : Res (List R × Env))) = _
  rw [h2]
  rfl
theorem e_blt {Γ : Ctx} {b : Blt} {es : Es} {ρ ρ1 : Env} {rs : List R} {xs : List D} {r : R} (h : evEs Γ es ρ = .ok (rs, ρ1)) (hp : peekAll ρ1 rs = some xs) (hb : bltD Γ.g b xs = some r) : evE Γ (.blt b es) ρ = .ok (r, ρ1) := by
  rw [evE, h]
  show (Res.of (peekAll ρ1 rs) >>= fun xs => Res.of (bltD Γ.g b xs) >>= fun r => (.ok (r, ρ1) : Res (R × Env))) = _
  rw [hp]
  show (Res.of (bltD Γ.g b xs) >>= fun r => (.ok (r, ρ1) : Res (R × Env))) = _
  rw [hb]
  rfl
theorem e_lc {Γ : Ctx} {elt : E} {tg : Tg} {it : I} {c : Oc} {own : List Nat} {ρ ρ1 ρn : Env} {xs ys : List D} (h : evI Γ it ρ = .ok (xs, ρ1)) (hl : lcLoop (lcTurn tg (evOc Γ c) (evE Γ elt) own) xs [] (wipeE ρ1 own) = .ok (ys, ρn)) {ρ5 : Env} (hb : backE own 0 ρ1 ρn = ρ5 := by rfl) : evE Γ (.lc elt tg it c own) ρ = .ok (.fresh ys, ρ5) := by
  subst hb
  rw [evE, h]
  show (lcLoop (lcTurn tg (evOc Γ c) (evE Γ elt) own) xs [] (wipeE ρ1 own) >>= fun z => (.ok (.fresh z.1, backE own 0 ρ1 z.2) : Res (R × Env))) = _
  rw [hl]
  rfl
/-- a turn that keeps -/
theorem turn_yes {Γ : Ctx} {tg : Tg} {c : Oc} {elt : E} {own : List Nat} {ρ ρ1 ρ2 ρ3 ρ4 : Env} {x y : D} {r : R} (h1 : tg.set ρ x = some ρ1) (h2 : evOc Γ c ρ1 = .ok (true, ρ2)) (h3 : evE Γ elt ρ2 = .ok (r, ρ3)) (h4 : r.keep ρ3 = some (y, ρ4)) {ρ5 : Env} (hw : wipeE ρ4 own = ρ5 := by rfl) : lcTurn tg (evOc Γ c) (evE Γ elt) own x ρ = .ok (some y, ρ5) := by
  subst hw
  show (Res.of (tg.set ρ x) >>= fun ρ => evOc Γ c ρ >>= fun z => _) = _
  rw [h1]
  show (evOc Γ c ρ1 >>= fun z => _) = _
  rw [h2]
  show (evE Γ elt ρ2 >>= fun p => keepR p >>= fun z => (.ok (some z.1, wipeE z.2 own) : Res (Option D × Env))) = _
  rw [h3]
  show (Res.of (r.keep ρ3) >>= fun z => (.ok (some z.1, wipeE z.2 own) : Res (Option D × Env))) = _
  rw [h4]
  rfl
theorem turn_no {Γ : Ctx} {tg : Tg} {c : Oc} {elt : E} {own : List Nat} {ρ ρ1 ρ2 : Env} {x : D} (h1 : tg.set ρ x = some ρ1) (h2 : evOc Γ c ρ1 = .ok (false, ρ2)) {ρ5 : Env} (hw : wipeE ρ2 own = ρ5 := by rfl) : lcTurn tg (evOc Γ c) (evE Γ elt) own x ρ = .ok (none, ρ5) := by
  subst hw
  show (Res.of (tg.set ρ x) >>= fun ρ => evOc Γ c ρ >>= fun z => _) = _
  rw [h1]
  show (evOc Γ c ρ1 >>= fun z => _) = _
  rw [h2]
  rfl
theorem oc_yes {Γ : Ctx} {ρ : Env} : evOc Γ .yes ρ = .ok (true, ρ) := by rw [evOc]
theorem oc_some {Γ : Ctx} {c : C} {ρ ρ1 : Env} {t : Bool} (h : evC Γ c ρ = .ok (t, ρ1)) : evOc Γ (.some c) ρ = .ok (t, ρ1) := by rw [evOc]; exact h
theorem c_tru {Γ : Ctx} {e : E} {ρ ρ1 : Env} {r : R} {u : D} {t : Bool} (h : evE Γ e ρ = .ok (r, ρ1)) (h2 : r.peek ρ1 = some u) (h3 : truD u = some t) : evC Γ (.tru e) ρ = .ok (t, ρ1) := by
  rw [evC, h]
  show (Res.of (r.peek ρ1) >>= fun u => Res.of (truD u) >>= fun t => (.ok (t, ρ1) : Res (Bool × Env))) = _
  rw [h2]
  show (Res.of (truD u) >>= fun t => (.ok (t, ρ1) : Res (Bool × Env))) = _
  rw [h3]
  rfl
theorem c_cmp {Γ : Ctx} {o : Cp} {a b : E} {ρ ρ1 ρ2 : Env} {x y : R} {u v : D} {t : Bool} (ha : evE Γ a ρ = .ok (x, ρ1)) (hb : evE Γ b ρ1 = .ok (y, ρ2)) (hu : x.peek ρ2 = some u) (hv : y.peek ρ2 = some v) (ht : cmpD o u v = some t) : evC Γ (.cmp o a b) ρ = .ok (t, ρ2) := by
  rw [evC, ha]
  show (evE Γ b ρ1 >>= fun z => _) = _
  rw [hb]
  show (Res.of (x.peek ρ2) >>= fun u => Res.of (y.peek ρ2) >>= fun v => Res.of (cmpD o u v) >>= fun t => (.ok (t, ρ2) : Res (Bool × Env))) = _
  rw [hu]
  show (Res.of (y.peek ρ2) >>= fun v => Res.of (cmpD o u v) >>= fun t => (.ok (t, ρ2) : Res (Bool × Env))) = _
  rw [hv]
  show (Res.of (cmpD o u v) >>= fun t => (.ok (t, ρ2) : Res (Bool × Env))) = _
  rw [ht]
  rfl
theorem c_not {Γ : Ctx} {a : C} {ρ ρ1 : Env} {t : Bool} (h : evC Γ a ρ = .ok (t, ρ1)) : evC Γ (.not a) ρ = .ok (!t, ρ1) := by rw [evC, h]; rfl
theorem c_or {Γ : Ctx} {a b : C} {ρ ρ1 : Env} {t : Bool} {z : Res (Bool × Env)} (h : evC Γ a ρ = .ok (t, ρ1)) (h2 : (if t then .ok (true, ρ1) else evC Γ b ρ1) = z) : evC Γ (.or a b) ρ = z := by rw [evC, h]; exact h2
theorem c_and {Γ : Ctx} {a b : C} {ρ ρ1 : Env} {t : Bool} {z : Res (Bool × Env)} (h : evC Γ a ρ = .ok (t, ρ1)) (h2 : (if t then evC Γ b ρ1 else .ok (false, ρ1)) = z) : evC Γ (.and a b) ρ = z := by rw [evC, h]; exact h2
theorem e_ofC {Γ : Ctx} {c : C} {ρ ρ1 : Env} {t : Bool} (h : evC Γ c ρ = .ok (t, ρ1)) : evE Γ (.ofC c) ρ = .ok (.d (.bool t), ρ1) := by rw [evE, h]; rfl
theorem e_ofCx {Γ : Ctx} {c : C} {ρ ρ1 : Env} {x : Str} (h : evC Γ c ρ = .ex x ρ1) : evE Γ (.ofC c) ρ = .ex x ρ1 := by rw [evE, h]; rfl
theorem i_seq {Γ : Ctx} {e : E} {ρ ρ1 ρ2 : Env} {r : R} {y : D} {xs : List D} (h : evE Γ e ρ = .ok (r, ρ1)) (hk : r.keep ρ1 = some (y, ρ2)) (hi : itemsD y = some xs) : evI Γ (.seq e) ρ = .ok (xs, ρ2) := by
  rw [evI, h]
  show (Res.of (r.keep ρ1) >>= fun z => Res.of (itemsD z.1) >>= fun xs => (.ok (xs, z.2) : Res (List D × Env))) = _
  rw [hk]
  show (Res.of (itemsD y) >>= fun xs => (.ok (xs, ρ2) : Res (List D × Env))) = _
  rw [hi]
  rfl
theorem e_vd {Γ : Ctx} {i : Nat} {ρ : Env} {x : D} (h : ρ[i]? = some (some (W.d x))) : evE Γ (.var i) ρ = .ok (.d x, ρ) := by rw [evE, h]
theorem e_vo {Γ : Ctx} {i : Nat} {ρ : Env} {l : Bool} {xs : List D} (h : ρ[i]? = some (some (W.own l xs))) : evE Γ (.var i) ρ = .ok (.slot i, ρ) := by rw [evE, h]
theorem e_tup {Γ : Ctx} {es : Es} {ρ ρ1 ρ2 : Env} {rs : List R} {xs : List D} (h : evEs Γ es ρ = .ok (rs, ρ1)) (hk : keepAll rs ρ1 = some (xs, ρ2)) (hl : xs.length ≤ LIM) : evE Γ (.tup es) ρ = .ok (.d (.tuple xs), ρ2) := by
  rw [evE, h]
  show (Res.of (keepAll rs ρ1) >>= fun z => if z.1.length ≤ LIM then (.ok (.d (.tuple z.1), z.2) : Res (R × Env)) else .stuck) = _
  rw [hk]
  exact if_pos hl
theorem e_lst {Γ : Ctx} {es : Es} {ρ ρ1 ρ2 : Env} {rs : List R} {xs : List D} (h : evEs Γ es ρ = .ok (rs, ρ1)) (hk : keepAll rs ρ1 = some (xs, ρ2)) (hl : xs.length ≤ LIM) : evE Γ (.lst es) ρ = .ok (.fresh xs, ρ2) := by
  rw [evE, h]
  show (Res.of (keepAll rs ρ1) >>= fun z => if z.1.length ≤ LIM then (.ok (.fresh z.1, z.2) : Res (R × Env)) else .stuck) = _
  rw [hk]
  exact if_pos hl
theorem e_op {Γ : Ctx} {o : Op2} {a b : E} {ρ ρ1 ρ2 : Env} {x y r : R} {u v : D} (ha : evE Γ a ρ = .ok (x, ρ1)) (hb : evE Γ b ρ1 = .ok (y, ρ2)) (hu : x.peek ρ2 = some u) (hv : y.peek ρ2 = some v) (ho : opD o u v = some r) : evE Γ (.op o a b) ρ = .ok (r, ρ2) := by
  rw [evE, ha]
  show (evE Γ b ρ1 >>= fun z => _) = _
  rw [hb]
  show (Res.of (x.peek ρ2) >>= fun u => Res.of (y.peek ρ2) >>= fun v => Res.of (opD o u v) >>= fun r => (.ok (r, ρ2) : Res (R × Env))) = _
  rw [hu]
  show (Res.of (y.peek ρ2) >>= fun v => Res.of (opD o u v) >>= fun r => (.ok (r, ρ2) : Res (R × Env))) = _
  rw [hv]
  show (Res.of (opD o u v) >>= fun r => (.ok (r, ρ2) : Res (R × Env))) = _
  rw [ho]
  rfl
theorem e_idx {Γ : Ctx} {a i : E} {ρ ρ1 ρ2 : Env} {x y : R} {u v d : D} (ha : evE Γ a ρ = .ok (x, ρ1)) (hb : evE Γ i ρ1 = .ok (y, ρ2)) (hu : x.peek ρ2 = some u) (hv : y.peek ρ2 = some v) (ho : idxD u v = some d) : evE Γ (.idx a i) ρ = .ok (.d d, ρ2) := by
  rw [evE, ha]
  show (evE Γ i ρ1 >>= fun z => _) = _
  rw [hb]
  show (Res.of (x.peek ρ2) >>= fun u => Res.of (y.peek ρ2) >>= fun v => Res.of (idxD u v) >>= fun r => (.ok (.d r, ρ2) : Res (R × Env))) = _
  rw [hu]
  show (Res.of (y.peek ρ2) >>= fun v => Res.of (idxD u v) >>= fun r => (.ok (.d r, ρ2) : Res (R × Env))) = _
  rw [hv]
  show (Res.of (idxD u v) >>= fun r => (.ok (.d r, ρ2) : Res (R × Env))) = _
  rw [ho]
  rfl
theorem e_slc {Γ : Ctx} {a : E} {lo hi : Oe} {ρ ρ1 ρ2 ρ3 : Env} {x r : R} {l h : Option Int} {u : D} (ha : evE Γ a ρ = .ok (x, ρ1)) (hl : evO Γ lo ρ1 = .ok (l, ρ2)) (hh : evO Γ hi ρ2 = .ok (h, ρ3)) (hu : x.peek ρ3 = some u) (ho : slcD u l h = some r) : evE Γ (.slc a lo hi) ρ = .ok (r, ρ3) := by
  rw [evE, ha]
  show (evO Γ lo ρ1 >>= fun z => _) = _
  rw [hl]
  show (evO Γ hi ρ2 >>= fun z => _) = _
  rw [hh]
  show (Res.of (x.peek ρ3) >>= fun u => Res.of (slcD u l h) >>= fun r => (.ok (r, ρ3) : Res (R × Env))) = _
  rw [hu]
  show (Res.of (slcD u l h) >>= fun r => (.ok (r, ρ3) : Res (R × Env))) = _
  rw [ho]
  rfl
theorem o_none {Γ : Ctx} {ρ : Env} : evO Γ .none ρ = .ok (none, ρ) := by rw [evO]
theorem o_some {Γ : Ctx} {e : E} {ρ ρ1 : Env} {i : Int} (h : evE Γ e ρ = .ok (.d (.int i), ρ1)) : evO Γ (.some e) ρ = .ok (some i, ρ1) := by rw [evO, h]; rfl
end Mn
set_option Elab.async false
set_option linter.all false
set_option maxRecDepth 100000
set_option maxHeartbeats 1000000
namespace Mn
open PySem
/-! ## partitions of a lot, and what edges put together -/
/-- texts in order -/
def sortS (l : List Str) : List Str := l.mergeSort (PySem.W.dataLe false PyData.str)
theorem str_anti {a b : Str} (h1 : PySem.W.dataLe false PyData.str a b = true) (h2 : PySem.W.dataLe false PyData.str b a = true) : a = b := by
  have := leD_anti (x := .str a) (y := .str b) (by simp [PySem.W.alike]) h1 h2
  simpa [PyData.eqv] using this
theorem sortS_pw (l : List Str) : (sortS l).Pairwise fun a b => PySem.W.dataLe false PyData.str a b = true := List.pairwise_mergeSort (leD_total PyData.str).trans (fun a b => by simpa using (leD_total PyData.str).total a b) l
theorem sortS_eq {l m : List Str} (h : l.Perm m) : sortS l = sortS m :=
  List.Perm.eq_of_pairwise (le := fun a b => PySem.W.dataLe false PyData.str a b = true) (fun a b _ _ h1 h2 => str_anti h1 h2) (sortS_pw l) (sortS_pw m) ((List.mergeSort_perm l _).trans (h.trans (List.mergeSort_perm m _).symm))
theorem sortS_perm (l : List Str) : (sortS l).Perm l := List.mergeSort_perm l _
theorem sortS_idem (l : List Str) : sortS (sortS l) = sortS l := sortS_eq (sortS_perm l)
theorem sortS_mem {l : List Str} {x : Str} : x ∈ sortS l ↔ x ∈ l := (sortS_perm l).mem_iff
structure Part (lot : List Str) (G : List (List Str)) : Prop where
  perm : G.flatten.Perm lot
  nod : lot.Nodup
  ne : ∀ g, g ∈ G → g ≠ []
def same (G : List (List Str)) (x y : Str) : Prop := ∃ g, g ∈ G ∧ x ∈ g ∧ y ∈ g
section
variable {lot : List Str} {G : List (List Str)}
theorem Part.fnod (p : Part lot G) : G.flatten.Nodup := p.perm.nodup_iff.mpr p.nod
/-- two groups that share one are one -/
theorem flat_uniq : ∀ {G : List (List Str)}, G.flatten.Nodup → ∀ {g g' : List Str} {x : Str}, g ∈ G → g' ∈ G → x ∈ g → x ∈ g' → g = g'
  | [], _, _, _, _, h, _, _, _ => by cases h
  | k :: G, nd, g, g', x, h, h', hx, hx' => by
    rw [List.flatten_cons, List.nodup_append] at nd
    obtain ⟨n1, n2, n3⟩ := nd
    rcases List.mem_cons.mp h with e | m <;> rcases List.mem_cons.mp h' with e' | m'
    · rw [e, e']
    · subst e
      exact absurd rfl (n3 x hx x (List.mem_flatten.mpr ⟨g', m', hx'⟩))
    · subst e'
      exact absurd rfl (n3 x hx' x (List.mem_flatten.mpr ⟨g, m, hx⟩))
    · exact flat_uniq n2 m m' hx hx'
theorem Part.uniq (p : Part lot G) {g g' : List Str} {x : Str} (h : g ∈ G) (h' : g' ∈ G) (hx : x ∈ g) (hx' : x ∈ g') : g = g' := flat_uniq p.fnod h h' hx hx'
theorem Part.mem (p : Part lot G) {x : Str} : x ∈ lot ↔ ∃ g, g ∈ G ∧ x ∈ g := by
  rw [← p.perm.mem_iff, List.mem_flatten]
theorem Part.same_lot (p : Part lot G) {x y : Str} (h : same G x y) : x ∈ lot ∧ y ∈ lot := by
  obtain ⟨g, hg, hx, hy⟩ := h
  exact ⟨p.mem.mpr ⟨g, hg, hx⟩, p.mem.mpr ⟨g, hg, hy⟩⟩
theorem same_symm {x y : Str} (h : same G x y) : same G y x := let ⟨g, a, b, c⟩ := h; ⟨g, a, c, b⟩
theorem Part.trans (p : Part lot G) {x y z : Str} (h : same G x y) (h' : same G y z) : same G x z := by
  obtain ⟨g, hg, hx, hy⟩ := h
  obtain ⟨g', hg', hy', hz⟩ := h'
  have := p.uniq hg hg' hy hy'
  subst this
  exact ⟨g, hg, hx, hz⟩
theorem Part.refl (p : Part lot G) {x : Str} (h : x ∈ lot) : same G x x := by
  obtain ⟨g, hg, hx⟩ := p.mem.mp h
  exact ⟨g, hg, hx, hx⟩
theorem Part.gnod (p : Part lot G) {g : List Str} (h : g ∈ G) : g.Nodup := by
  have : ∀ {G : List (List Str)}, G.flatten.Nodup → g ∈ G → g.Nodup := by
    intro G
    induction G with
    | nil => intro _ h; cases h
    | cons k G ih =>
      intro nd h
      rw [List.flatten_cons, List.nodup_append] at nd
      rcases List.mem_cons.mp h with rfl | h
      · exact nd.1
      · exact ih nd.2.1 h
  exact this p.fnod h
/-- a group is all that stand with one of it -/
theorem Part.group (p : Part lot G) {g : List Str} {x : Str} (h : g ∈ G) (hx : x ∈ g) [DecidablePred (same G x)] : g.Perm (lot.filter fun y => decide (same G x y)) := by
  refine (List.perm_ext_iff_of_nodup (p.gnod h) (p.nod.filter _)).mpr fun y => ?_
  rw [List.mem_filter, decide_eq_true_eq]
  constructor
  · exact fun hy => ⟨p.mem.mpr ⟨g, h, hy⟩, g, h, hx, hy⟩
  · rintro ⟨_, g', hg', hx', hy'⟩
    have := p.uniq h hg' hx hx'
    subst this
    exact hy'
open Classical in
theorem Part.sorted_mem (p : Part lot G) {t : List Str} : t ∈ G.map sortS ↔ ∃ x, x ∈ lot ∧ t = sortS (lot.filter fun y => decide (same G x y)) := by
  rw [List.mem_map]
  constructor
  · rintro ⟨g, hg, rfl⟩
    obtain ⟨x, hx⟩ := List.exists_mem_of_ne_nil g (p.ne g hg)
    exact ⟨x, p.mem.mpr ⟨g, hg, hx⟩, sortS_eq (p.group hg hx)⟩
  · rintro ⟨x, hx, rfl⟩
    obtain ⟨g, hg, hx⟩ := p.mem.mp hx
    exact ⟨g, hg, sortS_eq (p.group hg hx)⟩
theorem Part.sorted_nod (p : Part lot G) : (G.map sortS).Nodup := by
  have go : ∀ {G : List (List Str)}, G.flatten.Nodup → (∀ g, g ∈ G → g ≠ []) → (G.map sortS).Nodup := by
    intro G
    induction G with
    | nil => exact fun _ _ => List.nodup_nil
    | cons g G ih =>
      intro nd ne
      have nd0 := nd
      rw [List.flatten_cons, List.nodup_append] at nd
      rw [List.map_cons, List.nodup_cons]
      refine ⟨fun h => ?_, ih nd.2.1 fun k hk => ne k (List.mem_cons_of_mem _ hk)⟩
      obtain ⟨k, hk, e⟩ := List.mem_map.mp h
      obtain ⟨x, hx⟩ := List.exists_mem_of_ne_nil g (ne g List.mem_cons_self)
      have hxk : x ∈ k := by rw [← sortS_mem, e, sortS_mem]; exact hx
      exact nd.2.2 x hx x (List.mem_flatten.mpr ⟨k, hk, hxk⟩) rfl
  exact go p.fnod p.ne
/-- one relation, one sorted partition -/
theorem Part.sorted_eq {G' : List (List Str)} (p : Part lot G) (p' : Part lot G') (h : ∀ x y, same G x y ↔ same G' x y) : (G.map sortS).Perm (G'.map sortS) := by
  classical
  refine (List.perm_ext_iff_of_nodup p.sorted_nod p'.sorted_nod).mpr fun t => ?_
  rw [p.sorted_mem, p'.sorted_mem]
  have e : ∀ x, (lot.filter fun y => decide (same G x y)) = lot.filter fun y => decide (same G' x y) := fun x => by
    congr 1
    funext y
    exact decide_eq_decide.mpr (h x y)
  simp only [e]
end
/-! ### edges -/
inductive Conn (E : List (Str × Str)) : Str → Str → Prop where
  | refl (x : Str) : Conn E x x
  | edge {a b : Str} : (a, b) ∈ E → Conn E a b
  | symm {x y : Str} : Conn E x y → Conn E y x
  | trans {x y z : Str} : Conn E x y → Conn E y z → Conn E x z
theorem Conn.mono {E E' : List (Str × Str)} (h : ∀ e, e ∈ E → e ∈ E') {x y : Str} (c : Conn E x y) : Conn E' x y := by
  induction c with
  | refl x => exact .refl x
  | edge m => exact .edge (h _ m)
  | symm _ ih => exact ih.symm
  | trans _ _ i1 i2 => exact i1.trans i2
theorem conn_cons {E : List (Str × Str)} {a b x y : Str} : Conn ((a, b) :: E) x y ↔ Conn E x y ∨ ((Conn E x a ∨ Conn E x b) ∧ (Conn E y a ∨ Conn E y b)) := by
  have up : ∀ {x y}, Conn E x y → Conn ((a, b) :: E) x y := fun c => c.mono fun e h => List.mem_cons_of_mem _ h
  have ab : Conn ((a, b) :: E) a b := .edge List.mem_cons_self
  constructor
  · intro c
    induction c with
    | refl x => exact .inl (.refl x)
    | edge m =>
      rcases List.mem_cons.mp m with e | m
      · cases e
        exact .inr ⟨.inl (.refl _), .inr (.refl _)⟩
      · exact .inl (.edge m)
    | symm _ ih => exact ih.imp Conn.symm And.symm
    | @trans x y z _ _ i1 i2 =>
      rcases i1 with i1 | ⟨i1, i1'⟩ <;> rcases i2 with i2 | ⟨i2, i2'⟩
      · exact .inl (i1.trans i2)
      · exact .inr ⟨i2.imp i1.trans i1.trans, i2'⟩
      · exact .inr ⟨i1, i1'.imp i2.symm.trans i2.symm.trans⟩
      · exact .inr ⟨i1, i2'⟩
  · rintro (c | ⟨h1, h2⟩)
    · exact up c
    · have xa : Conn ((a, b) :: E) x a := h1.elim up fun c => (up c).trans ab.symm
      have ya : Conn ((a, b) :: E) y a := h2.elim up fun c => (up c).trans ab.symm
      exact xa.trans ya.symm
/-- the partition by some edges -/
structure By (lot : List Str) (E : List (Str × Str)) (G : List (List Str)) : Prop where
  part : Part lot G
  rel : ∀ x y, x ∈ lot → y ∈ lot → (same G x y ↔ Conn E x y)
theorem By.same_eq {lot : List Str} {E E' : List (Str × Str)} {G G' : List (List Str)} (h : By lot E G) (h' : By lot E' G') (e : ∀ p, p ∈ E ↔ p ∈ E') (x y : Str) : same G x y ↔ same G' x y := by
  constructor
  · intro s
    obtain ⟨a, b⟩ := h.part.same_lot s
    exact (h'.rel x y a b).mpr (((h.rel x y a b).mp s).mono fun p => (e p).mp)
  · intro s
    obtain ⟨a, b⟩ := h'.part.same_lot s
    exact (h.rel x y a b).mpr (((h'.rel x y a b).mp s).mono fun p => (e p).mpr)
theorem by_singles {lot : List Str} (nd : lot.Nodup) : By lot [] (lot.map fun x => [x]) := by
  have fl : (lot.map fun x => [x]).flatten = lot := by
    induction lot with
    | nil => rfl
    | cons a l ih => rw [List.map_cons, List.flatten_cons, ih (List.nodup_cons.mp nd).2]; rfl
  refine ⟨⟨by rw [fl], nd, fun g h => ?_⟩, fun x y hx hy => ?_⟩
  · obtain ⟨a, _, rfl⟩ := List.mem_map.mp h
    exact List.cons_ne_nil _ _
  · constructor
    · rintro ⟨g, hg, h1, h2⟩
      obtain ⟨a, _, rfl⟩ := List.mem_map.mp hg
      rw [List.mem_singleton] at h1 h2
      rw [h1, h2]
      exact .refl a
    · intro c
      have : ∀ {x y}, Conn [] x y → x = y := by
        intro x y c
        induction c with
        | refl _ => rfl
        | edge m => cases m
        | symm _ ih => exact ih.symm
        | trans _ _ a b => exact a.trans b
      rw [← this c]
      exact ⟨[x], List.mem_map_of_mem hx, List.mem_singleton_self x, List.mem_singleton_self x⟩
/-- a step that joins just the groups of a and of b -/
theorem By.step {lot : List Str} {E : List (Str × Str)} {G G' : List (List Str)} {a b : Str} (h : By lot E G) (ha : a ∈ lot) (hb : b ∈ lot) (p' : Part lot G') (hs : ∀ x y, same G' x y ↔ same G x y ∨ ((same G x a ∨ same G x b) ∧ (same G y a ∨ same G y b))) : By lot ((a, b) :: E) G' := by
  refine ⟨p', fun x y hx hy => ?_⟩
  rw [hs, conn_cons, h.rel x y hx hy, h.rel x a hx ha, h.rel x b hx hb, h.rel y a hy ha, h.rel y b hy hb]
/-! ### the two ways to put together -/
def putG (G : List (List Str)) (a b : Str) : List (List Str) := G.filter (fun g => !g.contains a && !g.contains b) ++ [sortS ((G.filter fun g => g.contains a || g.contains b).flatten)]
theorem same_app {G : List (List Str)} {m : List Str} {x y : Str} : same (G ++ [m]) x y ↔ same G x y ∨ (x ∈ m ∧ y ∈ m) := by
  constructor
  · rintro ⟨g, hg, hx, hy⟩
    rcases List.mem_append.mp hg with h | h
    · exact .inl ⟨g, h, hx, hy⟩
    · rw [List.mem_singleton] at h
      subst h
      exact .inr ⟨hx, hy⟩
  · rintro (⟨g, hg, hx, hy⟩ | ⟨hx, hy⟩)
    · exact ⟨g, List.mem_append_left _ hg, hx, hy⟩
    · exact ⟨m, List.mem_append_right _ (List.mem_singleton_self m), hx, hy⟩
section
variable {lot : List Str} {E : List (Str × Str)} {G : List (List Str)} {a b : Str}
theorem By.put (h : By lot E G) (ha : a ∈ lot) (hb : b ∈ lot) : By lot ((a, b) :: E) (putG G a b) := by
  have mem : ∀ x, x ∈ sortS ((G.filter fun g => g.contains a || g.contains b).flatten) ↔ same G x a ∨ same G x b := fun x => by
    rw [sortS_mem, List.mem_flatten]
    constructor
    · rintro ⟨g, hg, hx⟩
      rw [List.mem_filter, Bool.or_eq_true, List.contains_iff_mem, List.contains_iff_mem] at hg
      rcases hg.2 with z | z
      · exact .inl ⟨g, hg.1, hx, z⟩
      · exact .inr ⟨g, hg.1, hx, z⟩
    · rintro (⟨g, hg, hx, hz⟩ | ⟨g, hg, hx, hz⟩)
      · exact ⟨g, List.mem_filter.mpr ⟨hg, by rw [Bool.or_eq_true, List.contains_iff_mem]; exact .inl hz⟩, hx⟩
      · exact ⟨g, List.mem_filter.mpr ⟨hg, by rw [Bool.or_eq_true, List.contains_iff_mem, List.contains_iff_mem]; exact .inr hz⟩, hx⟩
  have flip : (fun g : List Str => !g.contains a && !g.contains b) = fun g => !(g.contains a || g.contains b) := by
    funext g
    rw [Bool.not_or]
  refine h.step ha hb ⟨?_, h.part.nod, fun g hg => ?_⟩ fun x y => ?_
  · unfold putG
    rw [flip, List.flatten_append, List.flatten_singleton]
    refine ((sortS_perm _).append_left _).trans ?_
    rw [← List.flatten_append]
    exact ((List.perm_append_comm.trans (List.filter_append_perm _ G)).flatten).trans h.part.perm
  · unfold putG at hg
    rcases List.mem_append.mp hg with z | z
    · exact h.part.ne g (List.mem_filter.mp z).1
    · rw [List.mem_singleton] at z
      subst z
      exact List.ne_nil_of_mem ((mem a).mpr (.inl (h.part.refl ha)))
  · unfold putG
    rw [same_app, mem x, mem y]
    constructor
    · rintro (⟨g, hg, hx, hy⟩ | z)
      · exact .inl ⟨g, (List.mem_filter.mp hg).1, hx, hy⟩
      · exact .inr z
    · rintro (⟨g, hg, hx, hy⟩ | z)
      · by_cases q : (g.contains a || g.contains b) = true
        · rw [Bool.or_eq_true, List.contains_iff_mem, List.contains_iff_mem] at q
          rcases q with q | q
          · exact .inr ⟨.inl ⟨g, hg, hx, q⟩, .inl ⟨g, hg, hy, q⟩⟩
          · exact .inr ⟨.inr ⟨g, hg, hx, q⟩, .inr ⟨g, hg, hy, q⟩⟩
        · refine .inl ⟨g, List.mem_filter.mpr ⟨hg, ?_⟩, hx, hy⟩
          rw [← Bool.not_or]
          simpa using q
      · exact .inr z
/-- as the law does it -/
def joinG (G : List (List Str)) (one other : List Str) : List (List Str) := if one = other then G else G.filter (fun g => !decide (g = one) && !decide (g = other)) ++ [one ++ other]
theorem Part.gs_nodup (p : Part lot G) : G.Nodup := by
  have := p.sorted_nod
  exact List.Pairwise.of_map sortS (fun _ _ hne e => hne (congrArg sortS e)) this
theorem Part.mem_iff (p : Part lot G) {one : List Str} (h1 : one ∈ G) (ha : a ∈ one) (x : Str) : x ∈ one ↔ same G x a := by
  constructor
  · exact fun hx => ⟨one, h1, hx, ha⟩
  · rintro ⟨g, hg, hx, hz⟩
    have := p.uniq h1 hg ha hz
    subst this
    exact hx
theorem By.join (h : By lot E G) {one other : List Str} (h1 : one ∈ G) (h2 : other ∈ G) (ha : a ∈ one) (hb : b ∈ other) : By lot ((a, b) :: E) (joinG G one other) := by
  have la : a ∈ lot := h.part.mem.mpr ⟨one, h1, ha⟩
  have lb : b ∈ lot := h.part.mem.mpr ⟨other, h2, hb⟩
  have m1 := h.part.mem_iff h1 ha
  have m2 := h.part.mem_iff h2 hb
  unfold joinG
  by_cases e : one = other
  · rw [if_pos e]
    subst e
    refine h.step la lb h.part fun x y => ⟨.inl, ?_⟩
    rintro (z | ⟨z1, z2⟩)
    · exact z
    · have hx : x ∈ one := z1.elim (m1 x).mpr (m2 x).mpr
      have hy : y ∈ one := z2.elim (m1 y).mpr (m2 y).mpr
      exact ⟨one, h1, hx, hy⟩
  · rw [if_neg e]
    have flip : (fun g : List Str => !decide (g = one) && !decide (g = other)) = fun g => !(decide (g = one) || decide (g = other)) := by
      funext g
      rw [Bool.not_or]
    have two : (G.filter fun g => decide (g = one) || decide (g = other)).Perm [one, other] := by
      refine (List.perm_ext_iff_of_nodup (h.part.gs_nodup.filter _) (by simp [e])).mpr fun g => ?_
      rw [List.mem_filter, Bool.or_eq_true, decide_eq_true_eq, decide_eq_true_eq]
      simp only [List.mem_cons, List.not_mem_nil, or_false]
      exact ⟨And.right, fun z => ⟨z.elim (fun z => by rw [z]; exact h1) fun z => by rw [z]; exact h2, z⟩⟩
    refine h.step la lb ⟨?_, h.part.nod, fun g hg => ?_⟩ fun x y => ?_
    · rw [flip, List.flatten_append, List.flatten_singleton]
      have e2 : one ++ other = [one, other].flatten := by simp
      rw [e2]
      refine (two.symm.flatten.append_left _).trans ?_
      rw [← List.flatten_append]
      exact ((List.perm_append_comm.trans (List.filter_append_perm _ G)).flatten).trans h.part.perm
    · rcases List.mem_append.mp hg with z | z
      · exact h.part.ne g (List.mem_filter.mp z).1
      · rw [List.mem_singleton] at z
        subst z
        exact List.ne_nil_of_mem (List.mem_append_left _ ha)
    · rw [same_app, List.mem_append, List.mem_append, m1 x, m2 x, m1 y, m2 y]
      constructor
      · rintro (⟨g, hg, hx, hy⟩ | z)
        · exact .inl ⟨g, (List.mem_filter.mp hg).1, hx, hy⟩
        · exact .inr z
      · rintro (⟨g, hg, hx, hy⟩ | z)
        · by_cases q1 : g = one
          · subst q1
            exact .inr ⟨.inl ((m1 x).mp hx), .inl ((m1 y).mp hy)⟩
          · by_cases q2 : g = other
            · subst q2
              exact .inr ⟨.inr ((m2 x).mp hx), .inr ((m2 y).mp hy)⟩
            · exact .inl ⟨g, List.mem_filter.mpr ⟨hg, by simp [q1, q2]⟩, hx, hy⟩
        · exact .inr z
theorem join_len (h : By lot E G) {one other : List Str} (h1 : one ∈ G) (h2 : other ∈ G) (e : one ≠ other) : (joinG G one other).length + 1 = G.length := by
  unfold joinG
  rw [if_neg e]
  have two : (G.filter fun g => decide (g = one) || decide (g = other)).Perm [one, other] := by
    refine (List.perm_ext_iff_of_nodup (h.part.gs_nodup.filter _) (by simp [e])).mpr fun g => ?_
    rw [List.mem_filter, Bool.or_eq_true, decide_eq_true_eq, decide_eq_true_eq]
    simp only [List.mem_cons, List.not_mem_nil, or_false]
    exact ⟨And.right, fun z => ⟨z.elim (fun z => by rw [z]; exact h1) fun z => by rw [z]; exact h2, z⟩⟩
  have flip : (fun g : List Str => !decide (g = one) && !decide (g = other)) = fun g => !(decide (g = one) || decide (g = other)) := by
    funext g
    rw [Bool.not_or]
  have := (List.filter_append_perm (fun g => decide (g = one) || decide (g = other)) G).length_eq
  rw [List.length_append, two.length_eq] at this
  rw [List.length_append, flip]
  simp at this ⊢
  omega
end
end Mn
set_option Elab.async false
set_option linter.all false
set_option maxRecDepth 100000
set_option maxHeartbeats 4000000
namespace Mn
open PySem
theorem lc2_flat {f : D → List D → Env → Res (List D × Env)} {ρ : Env} (h : D → List D) : ∀ {xs acc : List D}, (∀ x, x ∈ xs → ∀ acc, acc.length + (h x).length ≤ LIM → f x acc ρ = .ok (acc ++ h x, ρ)) → acc.length + (xs.flatMap h).length ≤ LIM → lc2Loop f xs acc ρ = .ok (acc ++ xs.flatMap h, ρ)
  | [], acc, _, _ => by simp [lc2Loop]
  | x :: xs, acc, hf, hl => by
    rw [List.flatMap_cons, List.length_append] at hl
    simp only [lc2Loop, hf x List.mem_cons_self acc (by omega)]
    rw [lc2_flat h (fun y hy => hf y (List.mem_cons_of_mem _ hy)) (by rw [List.length_append]; omega), List.flatMap_cons, List.append_assoc]
theorem e_lc2 {Γ : Ctx} {elt : E} {t1 t2 : Tg} {i1 i2 : I} {c1 c2 : Oc} {own own2 : List Nat} {ρ ρ1 ρn : Env} {xs ys : List D} (h : evI Γ i1 ρ = .ok (xs, ρ1)) (hl : lc2Loop (lc2Turn t1 (evOc Γ c1) (evI Γ i2) t2 (evOc Γ c2) (evE Γ elt) own own2) xs [] (wipeE ρ1 own) = .ok (ys, ρn)) {ρ5 : Env} (hb : backE own 0 ρ1 ρn = ρ5 := by rfl) :
    evE Γ (.lc2 elt t1 i1 c1 t2 i2 c2 own own2) ρ = .ok (.fresh ys, ρ5) := by
  subst hb
  rw [evE, h]
  show (lc2Loop (lc2Turn t1 (evOc Γ c1) (evI Γ i2) t2 (evOc Γ c2) (evE Γ elt) own own2) xs [] (wipeE ρ1 own) >>= fun z => (.ok (.fresh z.1, backE own 0 ρ1 z.2) : Res (R × Env))) = _
  rw [hl]
  rfl
theorem turn2 {Γ : Ctx} {elt : E} {t1 t2 : Tg} {i2 : I} {c1 c2 : Oc} {own own2 : List Nat} {ρ ρ1 ρ2 ρ3 ρ4 : Env} {x : D} {acc zs ys : List D} (h1 : t1.set ρ x = some ρ1) (h2 : evOc Γ c1 ρ1 = .ok (true, ρ2)) (h3 : evI Γ i2 ρ2 = .ok (zs, ρ3)) (h4 : lcLoop (lcTurn t2 (evOc Γ c2) (evE Γ elt) own2) zs acc (wipeE ρ3 own2) = .ok (ys, ρ4)) {ρ5 : Env} (hw : wipeE ρ4 own = ρ5 := by rfl) :
    lc2Turn t1 (evOc Γ c1) (evI Γ i2) t2 (evOc Γ c2) (evE Γ elt) own own2 x acc ρ = .ok (ys, ρ5) := by
  subst hw
  show (Res.of (t1.set ρ x) >>= fun ρ => evOc Γ c1 ρ >>= fun z => _) = _
  rw [h1]
  show (evOc Γ c1 ρ1 >>= fun z => _) = _
  rw [h2]
  show (evI Γ i2 ρ2 >>= fun z => lcLoop (lcTurn t2 (evOc Γ c2) (evE Γ elt) own2) z.1 acc (wipeE z.2 own2) >>= fun z => (.ok (z.1, wipeE z.2 own) : Res (List D × Env))) = _
  rw [h3]
  show (lcLoop (lcTurn t2 (evOc Γ c2) (evE Γ elt) own2) zs acc (wipeE ρ3 own2) >>= fun z => (.ok (z.1, wipeE z.2 own) : Res (List D × Env))) = _
  rw [h4]
  rfl
theorem lc_mapA {f : D → Env → Res (Option D × Env)} {ρ : Env} (g : D → D) {xs acc : List D} (h : ∀ x, x ∈ xs → f x ρ = .ok (some (g x), ρ)) (hl : acc.length + xs.length ≤ LIM) : lcLoop f xs acc ρ = .ok (acc ++ xs.map g, ρ) := by
  rw [lc_pure (fun x => some (g x)) h hl]
  simp
/-- sorted texts, as data -/
theorem sortD_strs (l : List Str) : sortD (l.map .str) = (sortS l).map .str := (List.map_mergeSort (f := PyData.str) (r := PySem.W.dataLe false PyData.str) (s := PySem.W.dataLe false fun d => d) fun _ _ _ _ => rfl).symm
theorem sortOk_strs {l : List Str} (h : l.length ≤ LIM) : sortOk (l.map .str) = true := by
  unfold sortOk
  simp only [Bool.and_eq_true, decide_eq_true_eq, List.all_eq_true, Bool.or_eq_true, List.length_map]
  refine ⟨⟨⟨fun a ha b hb => ?_, .inr fun a ha => ?_⟩, h⟩, fun a ha => ?_⟩
  · obtain ⟨x, _, rfl⟩ := List.mem_map.mp ha
    obtain ⟨y, _, rfl⟩ := List.mem_map.mp hb
    simp [PySem.W.alike]
  · obtain ⟨x, _, rfl⟩ := List.mem_map.mp ha
    rfl
  · obtain ⟨x, _, rfl⟩ := List.mem_map.mp ha
    simp [PyData.depth]
end Mn
set_option Elab.async false
set_option linter.all false
set_option maxRecDepth 100000
set_option maxHeartbeats 4000000
namespace Mn
open PySem
def noSlotR : R → Bool
  | .slot _ => false
  | _ => true
/-- a call of a def of a program -/
theorem e_p {P : Prg} {n : Nat} {g : Bool} {f : Str} {es : Es} {ρ ρ1 ρ2 : Env} {rs : List R} {ds : List D} {r : R} {o : Option (List D)} (h : evEs (P.ctx (P.call n) g) es ρ = .ok (rs, ρ1)) (hl : (P.ctx (P.call n) g).lend f = false) (hk : keepAll rs ρ1 = some (ds, ρ2)) (hc : P.call n g f (ds.map .d) = .ret r o) (hr : noSlotR r = true := by rfl) : evE (P.ctx (P.call n) g) (.call f es) ρ = .ok (r, ρ2) :=
  e_call h hl hk hc fun i z => by subst z; cases hr
theorem e_px {P : Prg} {n : Nat} {g : Bool} {f : Str} {es : Es} {ρ ρ1 ρ2 : Env} {rs : List R} {ds : List D} {c : Str} (h : evEs (P.ctx (P.call n) g) es ρ = .ok (rs, ρ1)) (hl : (P.ctx (P.call n) g).lend f = false) (hk : keepAll rs ρ1 = some (ds, ρ2)) (hc : P.call n g f (ds.map .d) = .ex c) : evE (P.ctx (P.call n) g) (.call f es) ρ = .ex c ρ2 :=
  e_callx h hl hk hc
theorem e_pl {P : Prg} {n : Nat} {g : Bool} {f : Str} {es : Es} {ρ ρ1 ρ2 : Env} {i : Nat} {l l2 : Bool} {xs xs2 ys : List D} {rest : List R} {ds : List D} {r : R} (h : evEs (P.ctx (P.call n) g) es ρ = .ok (.slot i :: rest, ρ1)) (hl : (P.ctx (P.call n) g).lend f = true) (ho : ρ1[i]? = some (some (W.own l xs))) (hk : keepAll rest ρ1 = some (ds, ρ2)) (ho2 : ρ2[i]? = some (some (W.own l2 xs2)))
    (hc : P.call n g f (.own true xs :: ds.map .d) = .ret r (some ys)) (hr : noSlotR r = true := by rfl) {ρ3 : Env} (h3 : ρ2.set i (some (.own l ys)) = ρ3 := by rfl) : evE (P.ctx (P.call n) g) (.call f es) ρ = .ok (r, ρ3) := by
  subst h3
  exact e_lend h hl ho hk ho2 hc fun i z => by subst z; cases hr
theorem e_andV {Γ : Ctx} {a b : E} {ρ ρ1 : Env} {t : Bool} {z : Res (R × Env)} (h : evE Γ a ρ = .ok (.d (.bool t), ρ1)) (h2 : (if t then evE Γ b ρ1 else .ok (.d (.bool false), ρ1)) = z) : evE Γ (.andV a b) ρ = z := by
  rw [evE, h]
  cases t <;> exact h2
theorem e_int {Γ : Ctx} {i : Int} {ρ : Env} : evE Γ (.int i) ρ = .ok (.d (.int i), ρ) := by rw [evE]
theorem e_str {Γ : Ctx} {s : Str} {ρ : Env} : evE Γ (.str s) ρ = .ok (.d (.str s), ρ) := by rw [evE]
theorem e_bl {Γ : Ctx} {b : Bool} {ρ : Env} : evE Γ (.bl b) ρ = .ok (.d (.bool b), ρ) := by rw [evE]
theorem e_non {Γ : Ctx} {ρ : Env} : evE Γ .non ρ = .ok (.d .none, ρ) := by rw [evE]
theorem e_ite {Γ : Ctx} {c : C} {a b : E} {ρ ρ1 : Env} {t : Bool} {z : Res (R × Env)} (h : evC Γ c ρ = .ok (t, ρ1)) (h2 : (if t then evE Γ a ρ1 else evE Γ b ρ1) = z) : evE Γ (.ite c a b) ρ = z := by rw [evE, h]; exact h2
/-- xs.append(e) -/
theorem e_app {Γ : Ctx} {i : Nat} {e : E} {ρ ρ1 ρ2 : Env} {r : R} {y : D} {l l0 : Bool} {xs xs0 : List D} (h0 : ρ[i]? = some (some (W.own l0 xs0))) (h : evE Γ e ρ = .ok (r, ρ1)) (hk : r.keep ρ1 = some (y, ρ2)) (ho : ρ2[i]? = some (some (W.own l xs))) (hl : xs.length < LIM) {ρ3 : Env} (h3 : ρ2.set i (some (.own l (xs ++ [y]))) = ρ3 := by rfl) : evE Γ (.app i e) ρ = .ok (.d .none, ρ3) := by
  subst h3
  rw [evE, h0]
  show (evE Γ e ρ >>= fun p => keepR p >>= fun z => _) = _
  rw [h]
  show (Res.of (r.keep ρ1) >>= fun z => _) = _
  rw [hk]
  show (match ρ2[i]? with | some (some (.own l xs)) => if xs.length < LIM then (.ok (.d .none, ρ2.set i (some (.own l (xs ++ [y])))) : Res (R × Env)) else .stuck | _ => .stuck) = _
  rw [ho]
  exact if_pos hl
/-- xs.extend(e) -/
theorem e_ext {Γ : Ctx} {i : Nat} {e : E} {ρ ρ1 : Env} {x : R} {ys : List D} {l l0 : Bool} {xs xs0 : List D} (h0 : ρ[i]? = some (some (W.own l0 xs0))) (h : evE Γ e ρ = .ok (x, ρ1)) (hk : x.peek ρ1 = some (.list ys)) (hs : x.isSlot i = false) (ho : ρ1[i]? = some (some (W.own l xs))) (hl : xs.length + ys.length ≤ LIM) {ρ3 : Env} (h3 : ρ1.set i (some (.own l (xs ++ ys))) = ρ3 := by rfl) : evE Γ (.ext i e) ρ = .ok (.d .none, ρ3) := by
  subst h3
  rw [evE, h0]
  show (evE Γ e ρ >>= fun p => Res.of (p.1.peek p.2) >>= fun z => _) = _
  rw [h]
  show (Res.of (x.peek ρ1) >>= fun z => _) = _
  rw [hk]
  show (match ρ1[i]?, PyData.list ys with | some (some (.own l xs)), .list ys => if x.isSlot i = false ∧ xs.length + ys.length ≤ LIM then (.ok (.d .none, ρ1.set i (some (.own l (xs ++ ys)))) : Res (R × Env)) else .stuck | _, _ => .stuck) = _
  rw [ho]
  exact if_pos ⟨hs, hl⟩
/-- xs.insert(a, e) -/
theorem e_ins {Γ : Ctx} {i : Nat} {a e : E} {ρ ρ1 ρ2 ρ4 : Env} {j : Int} {r : R} {y : D} {l l0 : Bool} {xs xs0 : List D} (h0 : ρ[i]? = some (some (W.own l0 xs0))) (ha : evE Γ a ρ = .ok (.d (.int j), ρ1)) (h : evE Γ e ρ1 = .ok (r, ρ2)) (hk : r.keep ρ2 = some (y, ρ4)) (ho : ρ4[i]? = some (some (W.own l xs))) (hl : 0 ≤ j ∧ j ≤ LIM ∧ xs.length < LIM) {ρ3 : Env} (h3 : ρ4.set i (some (.own l (xs.take j.toNat ++ [y] ++ xs.drop j.toNat))) = ρ3 := by rfl) : evE Γ (.ins i a e) ρ = .ok (.d .none, ρ3) := by
  subst h3
  rw [evE, h0]
  show (evE Γ a ρ >>= fun p => evE Γ e p.2 >>= fun q => keepR q >>= fun z => _) = _
  rw [ha]
  show (evE Γ e ρ1 >>= fun q => keepR q >>= fun z => _) = _
  rw [h]
  show (Res.of (r.keep ρ2) >>= fun z => _) = _
  rw [hk]
  show (match ρ4[i]?, R.d (.int j) with | some (some (.own l xs)), .d (.int j) => if 0 ≤ j ∧ j ≤ LIM ∧ xs.length < LIM then (.ok (.d .none, ρ4.set i (some (.own l (xs.take j.toNat ++ [y] ++ xs.drop j.toNat)))) : Res (R × Env)) else .stuck | _, _ => .stuck) = _
  rw [ho]
  exact if_pos hl
theorem s_unp {Γ : Ctx} {is : List Nat} {e : E} {ρ ρ1 ρ2 ρ3 : Env} {r : R} {xs : List D} (h : evE Γ e ρ = .ok (r, ρ1)) (hk : r.keep ρ1 = some (.list xs, ρ2)) (hs : Tg.set.setRow is xs ρ2 = some ρ3) : evS Γ (.unp is true e) ρ = .nx ρ3 := by
  rw [evS, h]
  show (match r.keep ρ1 with
    | some (.tuple xs, ρ) => if true = true then Fl.stuck else match Tg.set.setRow is xs ρ with
      | some ρ => .nx ρ
      | none => .stuck
    | some (.list xs, ρ) => if true = true then match Tg.set.setRow is xs ρ with
      | some ρ => .nx ρ
      | none => .stuck
      else .stuck
    | _ => .stuck) = _
  rw [hk]
  show (match Tg.set.setRow is xs ρ2 with | some ρ => Fl.nx ρ | none => .stuck) = _
  rw [hs]
theorem s_unpT {Γ : Ctx} {is : List Nat} {e : E} {ρ ρ1 ρ2 ρ3 : Env} {r : R} {xs : List D} (h : evE Γ e ρ = .ok (r, ρ1)) (hk : r.keep ρ1 = some (.tuple xs, ρ2)) (hs : Tg.set.setRow is xs ρ2 = some ρ3) : evS Γ (.unp is false e) ρ = .nx ρ3 := by
  rw [evS, h]
  show (match r.keep ρ1 with
    | some (.tuple xs, ρ) => if false = true then Fl.stuck else match Tg.set.setRow is xs ρ with
      | some ρ => .nx ρ
      | none => .stuck
    | some (.list xs, ρ) => if false = true then match Tg.set.setRow is xs ρ with
      | some ρ => .nx ρ
      | none => .stuck
      else .stuck
    | _ => .stuck) = _
  rw [hk]
  show (match Tg.set.setRow is xs ρ2 with | some ρ => Fl.nx ρ | none => .stuck) = _
  rw [hs]
theorem bools_map (l : List Bool) : boolsD (l.map .bool) = some l := by
  induction l with
  | nil => rfl
  | cons b l ih => rw [List.map_cons, boolsD, ih]; rfl
/-- a loop with a thing that it keeps, from turn to turn -/
theorem for_inv {α : Type} {f : D → Env → Fl} (env : α → Env) (J : List D → α → Prop) : ∀ {xs : List D} {a : α}, J xs a → (∀ x xs a, J (x :: xs) a → ∃ a', f x (env a) = .nx (env a') ∧ J xs a') → ∃ a', forLoop f xs (env a) = .nx (env a') ∧ J [] a'
  | [], a, h, _ => ⟨a, rfl, h⟩
  | x :: xs, a, h, st => by
    obtain ⟨a', e, h'⟩ := st x xs a h
    obtain ⟨a2, e2, h2⟩ := for_inv env J h' st
    exact ⟨a2, by rw [forLoop, e]; exact e2, h2⟩
end Mn
set_option Elab.async false
set_option linter.all false
set_option maxRecDepth 100000
set_option maxHeartbeats 4000000
namespace Mn
open PySem
theorem lc_two {f : D → Env → Res (Option D × Env)} {x y u v : D} {ρ ρ1 ρ2 : Env} (h1 : f x ρ = .ok (some u, ρ1)) (h2 : f y ρ1 = .ok (some v, ρ2)) : lcLoop f [x, y] [] ρ = .ok ([u, v], ρ2) := by
  simp only [lcLoop, h1, h2]
  rfl
theorem s_par {Γ : Ctx} {i j : Nat} {a b : E} {ρ ρ1 ρ2 ρ3 ρ4 : Env} {r r' : R} {x : D} (ha : evE Γ a ρ = .ok (r, ρ1)) (hb : evE Γ b ρ1 = .ok (r', ρ2)) (hij : i ≠ j) (hx : r.peek ρ2 = some x) (nr : noSlotR r = true) (nr' : noSlotR r' = true) (h3 : r.into i ρ2 = some ρ3) (h4 : r'.into j ρ3 = some ρ4) : evS Γ (.par i j a b) ρ = .nx ρ4 := by
  cases r' with
  | slot _ => cases nr'
  | _ =>
    cases r with
    | slot _ => cases nr
    | _ =>
      rw [evS, ha]
      simp only [fl_ok, hb, hx, if_neg hij, h3, h4]
end Mn
set_option Elab.async false
set_option linter.all false
set_option maxRecDepth 100000
set_option maxHeartbeats 4000000
namespace Mn
open PySem
/-! ### data that repr shows -/
theorem ok_append (a b : Str) : PyData.strOk (a ++ b) = (PyData.strOk a && PyData.strOk b) := by
  unfold PyData.strOk
  rw [Str.cps_append, Array.all_append]
theorem ok_from : ∀ (ts : List Str) (k : Nat) (acc : Str), PyData.strOk acc = true → (∀ t, t ∈ ts → PyData.strOk t = true) → PyData.strOk (textFrom k acc ts) = true
  | [], _, _, h, _ => h
  | t :: ts, k, acc, h, ht => by
    unfold textFrom
    refine ok_from ts _ _ ?_ fun t' m => ht t' (List.mem_cons_of_mem _ m)
    rw [ok_append, ok_append, h, ht t List.mem_cons_self]
    split <;> decide +kernel
theorem ok_join : ∀ ts : List Str, (∀ t, t ∈ ts → PyData.strOk t = true) → PyData.strOk (Str.join ", " ts) = true
  | [], _ => by decide +kernel
  | [x], h => h x List.mem_cons_self
  | x :: y :: r, h => by
    show PyData.strOk (x ++ _ ++ Str.join _ (y :: r)) = true
    rw [ok_append, ok_append, h x List.mem_cons_self, ok_join (y :: r) fun t m => h t (List.mem_cons_of_mem _ m)]
    decide +kernel
mutual
def plainD : D → Bool
  | .none | .bool _ => true
  | .int i => decide (i.natAbs.log2 < 1920) && PyData.strOk (PyData.shown (.int i)) && decide ((PyData.shown (.int i)).length ≤ 13)
  | .str x => PyData.strOk x && PyData.strOk (reprText x)
  | .list xs | .tuple xs => plainDs xs
  | .dict _ => false
def plainDs : List D → Bool
  | [] => true
  | x :: xs => plainD x && plainDs xs
end
theorem plainDs_all : ∀ xs : List D, plainDs xs = xs.all plainD
  | [] => rfl
  | x :: xs => by rw [plainDs, plainDs_all xs, List.all_cons]
structure PlainP (d : D) : Prop where
  lay : d.canLay0 = true
  show_ : d.showable = true
  text : PyData.strOk d.shown = true
  short : d.intsShort 13 = true
mutual
theorem plain_p : ∀ d : D, plainD d = true → PlainP d
  | .none, _ => ⟨rfl, rfl, by decide +kernel, rfl⟩
  | .bool b, _ => ⟨rfl, rfl, by cases b <;> decide +kernel, rfl⟩
  | .int i, h => by
    simp only [plainD, Bool.and_eq_true] at h
    exact ⟨rfl, h.1.1, h.1.2, h.2⟩
  | .str x, h => by
    simp only [plainD, Bool.and_eq_true] at h
    exact ⟨h.1, rfl, by rw [PyData.shown]; exact h.2, rfl⟩
  | .list xs, h => by
    have h' : plainDs xs = true := by rw [plainD] at h; exact h
    obtain ⟨a, b, c, d⟩ := plain_ps xs h'
    refine ⟨by rw [PyData.canLay0]; exact a, by rw [PyData.showable]; exact b, ?_, by rw [PyData.intsShort]; exact d⟩
    rw [PyData.shown]
    unfold listText
    rw [ok_append, ok_from _ _ _ (by decide +kernel) c]
    decide +kernel
  | .tuple xs, h => by
    have h' : plainDs xs = true := by rw [plainD] at h; exact h
    obtain ⟨a, b, c, d⟩ := plain_ps xs h'
    refine ⟨by rw [PyData.canLay0]; exact a, by rw [PyData.showable]; exact b, ?_, by rw [PyData.intsShort]; exact d⟩
    rw [PyData.shown]
    unfold tupleText
    rw [ok_append, ok_append, ok_join _ c]
    split <;> decide +kernel
  | .dict _, h => by cases h
theorem plain_ps : ∀ xs : List D, plainDs xs = true → PyData.canLayAll0 xs = true ∧ PyData.showableAll xs = true ∧ (∀ t, t ∈ PyData.shownAll xs → PyData.strOk t = true) ∧ PyData.intsShortAll 13 xs = true
  | [], _ => ⟨rfl, rfl, (fun _ h => by cases h), rfl⟩
  | x :: xs, h => by
    rw [plainDs, Bool.and_eq_true] at h
    have p := plain_p x h.1
    obtain ⟨a, b, c, d⟩ := plain_ps xs h.2
    refine ⟨by rw [PyData.canLayAll0, p.lay, a]; rfl, by rw [PyData.showableAll, p.show_, b]; rfl, fun t ht => ?_, by rw [PyData.intsShortAll, p.short, d]; rfl⟩
    rw [PyData.shownAll] at ht
    rcases List.mem_cons.mp ht with rfl | m
    · exact p.text
    · exact c t m
end
theorem repr_ok {d : D} (h : plainD d = true) (hd : d.depth ≤ 60) (hw : d.weight ≤ 2 ^ 18) (hs : isSeqD d = true) :
    bltD true .repr [d] = some (.d (.str d.shown)) ∧ cmpD .eq (.str d.shown) (.str d.shown) = some true ∧ cmpD .eq d d = some true := by
  have p := plain_p d h
  have len : d.shown.length ≤ sizeLine := by
    have h2 := PyData.shown_le 13 (by decide) d (PyData.leavesShort_of_canLay0 13 d p.lay p.short)
    have e : (2 : Nat) ^ 18 = 262144 := by decide
    have e2 : sizeLine = 16777216 := by decide
    omega
  refine ⟨?_, ?_, ?_⟩
  · show (if _ then some (R.d _) else none) = _
    rw [p.show_, PyData.hasDict_of_canLay d p.lay, decide_eq_true hd, decide_eq_true len, hs]
    rfl
  · show (if _ then some (PyData.eqv (.str d.shown) (.str d.shown)) else none) = _
    have s : SeqAt.shaped (.str d.shown) = true := by
      simp only [SeqAt.shaped, PyData.canLay0, p.text, PyData.depth]
      rfl
    rw [s, SeqAt.eqv_refl _ (by rw [PyData.canLay0]; exact p.text)]
    rfl
  · show (if _ then some (PyData.eqv d d) else none) = _
    have s : SeqAt.shaped d = true := by
      simp only [SeqAt.shaped, p.lay, Bool.true_and, decide_eq_true_eq]
      omega
    cases d with
    | list _ => rw [s, SeqAt.eqv_refl _ p.lay]; rfl
    | tuple _ => rw [s, SeqAt.eqv_refl _ p.lay]; rfl
    | _ => cases hs
end Mn
set_option Elab.async false
set_option linter.all false
set_option maxRecDepth 100000
set_option maxHeartbeats 4000000
namespace Mn
open PySem L2
theorem s_setX {Γ : Ctx} {i : Nat} {ix e : E} {ρ ρ1 ρ2 ρ3 : Env} {r : R} {y : D} {l l0 : Bool} {xs xs0 : List D} {k : Int} {j : Nat} (h : evE Γ e ρ = .ok (r, ρ1)) (hk : r.keep ρ1 = some (y, ρ2)) (h0 : ρ2[i]? = some (some (W.own l0 xs0))) (hx : evE Γ ix ρ2 = .ok (.d (.int k), ρ3)) (ho : ρ3[i]? = some (some (W.own l xs))) (hj : ixN xs.length k = some j) {ρ4 : Env} (h4 : ρ3.set i (some (.own l (xs.set j y))) = ρ4 := by rfl) : evS Γ (.setX i ix e) ρ = .nx ρ4 := by
  subst h4
  rw [evS, h]
  simp only [fl_ok, hk, h0, hx, ho, hj]
theorem s_augX {Γ : Ctx} {i : Nat} {ix e : E} {o : Op2} {ρ ρ1 ρ2 : Env} {l l0 l1 : Bool} {xs xs0 xs1 : List D} {k u v : Int} {z : D} {j : Nat} (h0 : ρ[i]? = some (some (W.own l0 xs0))) (hx : evE Γ ix ρ = .ok (.d (.int k), ρ1)) (h1 : ρ1[i]? = some (some (W.own l1 xs1))) (hu : atI xs1 k = some (.int u)) (h : evE Γ e ρ1 = .ok (.d (.int v), ρ2)) (ho : ρ2[i]? = some (some (W.own l xs))) (hz : opD o (.int u) (.int v) = some (.d z)) (hj : ixN xs.length k = some j) (hp : o = .add ∨ o = .sub) {ρ4 : Env} (h4 : ρ2.set i (some (.own l (xs.set j z))) = ρ4 := by rfl) : evS Γ (.augX i ix o e) ρ = .nx ρ4 := by
  subst h4
  rw [evS]
  simp only [h0, hx, fl_ok, h1, hu, h, ho, hz, hj, if_pos hp]
theorem int_eqb (i j : Int) : cmpD .eq (.int i) (.int j) = some (decide (i = j)) := by
  have s : ∀ i : Int, SeqAt.shaped (.int i) = true := fun _ => rfl
  show (if SeqAt.shaped (.int i) && SeqAt.shaped (.int j) then some (PyData.eqv (.int i) (.int j)) else none) = _
  rw [s, s]
  rfl
theorem int_neb (i j : Int) : cmpD .ne (.int i) (.int j) = some (!decide (i = j)) := by
  have s : ∀ i : Int, SeqAt.shaped (.int i) = true := fun _ => rfl
  show (if SeqAt.shaped (.int i) && SeqAt.shaped (.int j) then some (!PyData.eqv (.int i) (.int j)) else none) = _
  rw [s, s]
  rfl
end Mn
set_option Elab.async false
set_option linter.all false
set_option maxRecDepth 100000
set_option maxHeartbeats 4000000
namespace Mn
open PySem
def okW : Option W → Bool
  | some (.own true _) => false
  | _ => true
theorem free_ok {ρ : Env} {i : Nat} {w : Option W} (h : ρ[i]? = some w) (ok : okW w = true) : isFree ρ i = true := by
  unfold isFree
  rw [h]
  cases w with
  | none => rfl
  | some w =>
    cases w with
    | own l xs => cases l <;> first | rfl | cases ok
    | _ => rfl
theorem intoW_d {ρ : Env} {i : Nat} {w : Option W} {x : D} (h : ρ[i]? = some w) (ok : okW w = true) {ρ2 : Env} (h2 : ρ.set i (some (.d x)) = ρ2 := by rfl) : (R.d x).into i ρ = some ρ2 := by
  subst h2
  unfold R.into
  rw [free_ok h ok]
  rfl
theorem intoW_f {ρ : Env} {i : Nat} {w : Option W} {xs : List D} (h : ρ[i]? = some w) (ok : okW w = true) {ρ2 : Env} (h2 : ρ.set i (some (.own false xs)) = ρ2 := by rfl) : (R.fresh xs).into i ρ = some ρ2 := by
  subst h2
  unfold R.into
  rw [free_ok h ok]
  rfl
theorem back1_self (w : Option W) : back1 w w = w := by
  cases w with
  | none => rfl
  | some w => cases w <;> rfl
theorem backE_self : ∀ (k : Nat) (ρ : Env), backE [] k ρ ρ = ρ
  | _, [] => rfl
  | k, w :: ρ => by
    show back1 w w :: backE [] (k + 1) ρ ρ = _
    rw [back1_self, backE_self]
/-- a comprehension that draws -/
theorem lc_draw {f : D → Env → Res (Option D × Env)} {Bg : List D → Prop} (env : List D → Env) : ∀ {xs acc : List D} {bag : List D}, Bg bag → (∀ x, x ∈ xs → ∀ bag, Bg bag → ∃ t bag', f x (env bag) = .ok (if t = true then some x else none, env bag') ∧ Bg bag') → acc.length + xs.length ≤ LIM →
    ∃ ys bag', lcLoop f xs acc (env bag) = .ok (acc ++ ys, env bag') ∧ Bg bag' ∧ ys.Sublist xs
  | [], acc, bag, hb, _, _ => ⟨[], bag, by simp [lcLoop], hb, .slnil⟩
  | x :: xs, acc, bag, hb, h, hl => by
    rw [List.length_cons] at hl
    obtain ⟨t, bag', e, hb'⟩ := h x List.mem_cons_self bag hb
    have h' := fun y hy => h y (List.mem_cons_of_mem _ hy)
    cases t with
    | true =>
      obtain ⟨ys, b2, e2, h2, sb⟩ := lc_draw env (acc := acc ++ [x]) hb' h' (by rw [List.length_append, List.length_singleton]; omega)
      refine ⟨x :: ys, b2, ?_, h2, sb.cons_cons x⟩
      simp only [lcLoop, e, if_true]
      rw [if_pos (by omega), e2, List.append_assoc]
      rfl
    | false =>
      obtain ⟨ys, b2, e2, h2, sb⟩ := lc_draw env (acc := acc) hb' h' (by omega)
      refine ⟨ys, b2, ?_, h2, sb.cons x⟩
      simp only [lcLoop, e]
      exact e2
theorem e_heard {Γ : Ctx} {g : Str} {body : E} {ρ ρ1 ρ2 : Env} {hs : List (Str × D)} {r : R} {y : D} (ht : Γ.told g = some hs) (h : evE { Γ with g := false, told := fun _ => none } body ρ = .ok (r, ρ1)) (hk : r.keep ρ1 = some (y, ρ2)) {ρ3 : Env} (h3 : backE [] 0 ρ ρ2 = ρ3) : evE Γ (.heard g body) ρ = .ok (.d (.tuple [.str "told", y]), ρ3) := by
  subst h3
  rw [evE, ht]
  show (match evE { Γ with g := false, told := fun _ => none } body ρ with
    | .ok p => match p.1.keep p.2 with
      | some (y, ρ1) => (.ok (.d (.tuple [.str "told", y]), backE [] 0 ρ ρ1) : Res (R × Env))
      | none => .stuck
    | .ex c ρ1 => match lookupEx c hs with
      | some d => .ok (.d d, backE [] 0 ρ ρ1)
      | none => .stuck
    | .stuck => .stuck) = _
  rw [h]
  show (match r.keep ρ1 with
      | some (y, ρ1) => (.ok (.d (.tuple [.str "told", y]), backE [] 0 ρ ρ1) : Res (R × Env))
      | none => .stuck) = _
  rw [hk]
theorem e_heardx {Γ : Ctx} {g c : Str} {body : E} {ρ ρ1 : Env} {hs : List (Str × D)} {d : D} (ht : Γ.told g = some hs) (h : evE { Γ with g := false, told := fun _ => none } body ρ = .ex c ρ1) (hd : lookupEx c hs = some d) {ρ3 : Env} (h3 : backE [] 0 ρ ρ1 = ρ3) : evE Γ (.heard g body) ρ = .ok (.d d, ρ3) := by
  subst h3
  rw [evE, ht]
  show (match evE { Γ with g := false, told := fun _ => none } body ρ with
    | .ok p => match p.1.keep p.2 with
      | some (y, ρ1) => (.ok (.d (.tuple [.str "told", y]), backE [] 0 ρ ρ1) : Res (R × Env))
      | none => .stuck
    | .ex c ρ1 => match lookupEx c hs with
      | some d => .ok (.d d, backE [] 0 ρ ρ1)
      | none => .stuck
    | .stuck => .stuck) = _
  rw [h]
  show (match lookupEx c hs with
      | some d => (.ok (.d d, backE [] 0 ρ ρ1) : Res (R × Env))
      | none => .stuck) = _
  rw [hd]
/-- a call of a program's def, inside a lambda that is heard -/
theorem e_ph {P : Prg} {n : Nat} {g : Bool} {f : Str} {es : Es} {ρ ρ1 ρ2 : Env} {rs : List R} {ds : List D} {r : R} {o : Option (List D)} (h : evEs { P.ctx (P.call n) g with g := false, told := fun _ => none } es ρ = .ok (rs, ρ1)) (hl : (P.ctx (P.call n) g).lend f = false) (hk : keepAll rs ρ1 = some (ds, ρ2)) (hc : P.call n false f (ds.map .d) = .ret r o) (hr : noSlotR r = true := by rfl) : evE { P.ctx (P.call n) g with g := false, told := fun _ => none } (.call f es) ρ = .ok (r, ρ2) :=
  e_call h hl hk hc fun i z => by subst z; cases hr
theorem e_phx {P : Prg} {n : Nat} {g : Bool} {f : Str} {es : Es} {ρ ρ1 ρ2 : Env} {rs : List R} {ds : List D} {c : Str} (h : evEs { P.ctx (P.call n) g with g := false, told := fun _ => none } es ρ = .ok (rs, ρ1)) (hl : (P.ctx (P.call n) g).lend f = false) (hk : keepAll rs ρ1 = some (ds, ρ2)) (hc : P.call n false f (ds.map .d) = .ex c) : evE { P.ctx (P.call n) g with g := false, told := fun _ => none } (.call f es) ρ = .ex c ρ2 :=
  e_callx h hl hk hc
theorem e_rep {Γ : Ctx} {a b : E} {ρ ρ1 ρ2 : Env} {xs : List D} {j : Int} (ha : evE Γ a ρ = .ok (.fresh xs, ρ1)) (hb : evE Γ b ρ1 = .ok (.d (.int j), ρ2)) (hl : 0 ≤ j ∧ j ≤ 1000 ∧ xs.length ≤ 1000) : evE Γ (.rep a b) ρ = .ok (.fresh ((List.replicate j.toNat xs).flatten), ρ2) := by
  rw [evE, ha]
  show (evE Γ b ρ1 >>= fun z => _) = _
  rw [hb]
  exact if_pos hl
end Mn
set_option Elab.async false
set_option linter.all false
set_option maxRecDepth 100000
set_option maxHeartbeats 4000000
namespace K28
open PySem PySem.Spec PyProof.Rows L2 LamX He Mn
def b_is_name : Ss := .cons (.iff (.or (.not (.tru (.blt .isStr (.cons (.var 0) .nil)))) (.not (.chain .le .le (.int 1) (.blt .len (.cons (.var 0) .nil)) (.glo "MOST_LETTERS")))) (.cons (.ret (.bl false)) (.nil)) (.nil)) (.cons (.iff (.or (.cmp .notin (.idx (.var 0) (.int 0)) (.glo "LETTERS")) (.cmp .isin (.var 0) (.glo "RESERVED"))) (.cons (.ret (.bl false)) (.nil)) (.nil)) (.cons (.ret (.blt .all (.cons (.lc (.ofC (.cmp .isin (.var 1) (.op .add (.glo "LETTERS") (.glo "DIGITS")))) (.one 1) (.seq (.var 0)) .yes [1]) .nil))) (.nil)))
def b_check_lot : Ss := .cons (.iff (.or (.not (.tru (.blt .isTup (.cons (.var 0) .nil)))) (.or (.cmp .eq (.blt .len (.cons (.var 0) .nil)) (.int 0)) (.not (.tru (.blt .all (.cons (.lc (.call "is_name" (.cons (.var 1) .nil)) (.one 1) (.seq (.var 0)) .yes [1]) .nil)))))) (.cons (.raise "Nothing") (.nil)) (.nil)) (.cons (.iff (.not (.tru (.blt .all (.cons (.lc (.ofC (.cmp .lt (.var 1) (.var 2))) (.row [1, 2]) (.zip (.var 0) (.slc (.var 0) (.some (.int 1)) .none)) .yes [1, 2]) .nil)))) (.cons (.raise "Nothing") (.nil)) (.nil)) (.nil))
def b_put_together : Ss := .cons (.set 3 (.lc (.var 5) (.one 5) (.seq (.var 0)) (.some (.or (.cmp .isin (.var 1) (.var 5)) (.cmp .isin (.var 2) (.var 5)))) [5])) (.cons (.set 4 (.lc (.var 5) (.one 5) (.seq (.var 0)) (.some (.and (.cmp .notin (.var 1) (.var 5)) (.cmp .notin (.var 2) (.var 5)))) [5])) (.cons (.ret (.op .add (.var 4) (.lst (.cons (.blt .tuple (.cons (.blt .sorted (.cons (.lc2 (.var 6) (.one 5) (.seq (.var 3)) .yes (.one 6) (.seq (.var 5)) .yes [5, 6] [6]) .nil)) .nil)) .nil)))) (.nil)))
def b_is_apart : Ss := .cons (.ret (.ofC (.not (.tru (.blt .any (.cons (.lc (.andV (.ofC (.cmp .isin (.var 1) (.var 3))) (.ofC (.cmp .isin (.var 2) (.var 3)))) (.one 3) (.seq (.var 0)) .yes [3]) .nil)))))) (.nil)
def b_x_law_bag : Ss := .cons (.ret (.lst (.cons (.int 0) (.cons (.int 1234567891) (.cons (.int 0) (.cons (.lc (.blt .abs (.cons (.var 1) .nil)) (.one 1) (.seq (.slc (.var 0) .none (.some (.int 63)))) .yes [1]) .nil)))))) (.nil)
def b_x_law_things : Ss := .cons (.ret (.slc (.tup (.cons (.str "a") (.cons (.str "b") (.cons (.str "c") (.cons (.str "d") (.cons (.str "e") (.cons (.str "f") .nil))))))) .none (.some (.op .add (.int 3) (.call "_law_take" (.cons (.var 0) (.cons (.op .sub (.var 1) (.int 2)) .nil))))))) (.nil)
def b_x_law_all_sayings : Ss := .cons (.set 1 (.lst .nil)) (.cons (.for_ (.one 2) (.seq (.var 0)) (.cons (.for_ (.one 3) (.seq (.var 0)) (.cons (.expr (.ext 1 (.lc (.tup (.cons (.var 2) (.cons (.var 3) (.cons (.var 4) .nil)))) (.one 4) (.seq (.var 0)) (.some (.and (.cmp .lt (.var 2) (.var 3)) (.cmp .notin (.var 4) (.tup (.cons (.var 2) (.cons (.var 3) .nil)))))) [4]))) (.nil))) (.nil))) (.cons (.ret (.blt .sorted (.cons (.var 1) .nil))) (.nil)))
def b_x_law_mixed : Ss := .cons (.set 2 (.lst .nil)) (.cons (.for_ (.one 3) (.seq (.var 1)) (.cons (.expr (.ins 2 (.call "_law_take" (.cons (.var 0) (.cons (.op .add (.blt .len (.cons (.var 2) .nil)) (.int 1)) .nil))) (.var 3))) (.nil))) (.cons (.ret (.var 2)) (.nil)))
def b_x_law_take : Ss := .cons (.iff (.cmp .eq (.idx (.var 0) (.int 0)) (.int 0)) (.cons (.set 4 (.idx (.op .add (.slc (.idx (.var 0) (.int 3)) (.some (.idx (.var 0) (.int 2))) .none) (.lst (.cons (.int 0) .nil))) (.int 0))) (.cons (.augX 0 (.int 2) .add (.int 1)) (.cons (.iff (.cmp .ge (.var 4) (.op .pow (.int 10) (.int 18))) (.cons (.setX 0 (.int 0) (.var 4)) (.nil)) (.nil)) (.cons (.set 5 (.op .add (.op .add (.op .mul (.idx (.var 0) (.int 1)) (.int 48271)) (.op .mod (.blt .int (.cons (.var 4) .nil)) (.int 2147483647))) (.op .mul (.int 7919) (.idx (.var 0) (.int 2))))) (.cons (.setX 0 (.int 1) (.op .mod (.blt .int (.cons (.var 5) .nil)) (.int 2147483647))) (.nil)))))) (.nil)) (.cons (.iff (.cmp .gt (.idx (.var 0) (.int 0)) (.int 0)) (.cons (.set 6 (.op .mod (.blt .int (.cons (.idx (.var 0) (.int 0)) .nil)) (.var 1))) (.cons (.setX 0 (.int 0) (.op .fdiv (.blt .int (.cons (.idx (.var 0) (.int 0)) .nil)) (.var 1))) (.cons (.ret (.var 6)) (.nil)))) (.nil)) (.cons (.set 2 (.op .mod (.blt .int (.cons (.op .mul (.op .add (.idx (.var 0) (.int 1)) (.int 1)) (.int 39373)) .nil)) (.int 1000000007))) (.cons (.set 3 (.op .mod (.blt .int (.cons (.op .mul (.op .mod (.blt .int (.cons (.op .mul (.var 2) (.var 2)) .nil)) (.int 998244353)) (.int 30011)) .nil)) (.int 998244353))) (.cons (.ret (.op .mod (.blt .int (.cons (.op .fdiv (.var 3) (.int 7)) .nil)) (.var 1))) (.nil)))))
def b_x_law_within : Ss := .cons (.ret (.lc (.var 2) (.one 2) (.seq (.var 0)) (.some (.cmp .eq (.lc (.var 3) (.one 3) (.seq (.var 2)) (.some (.cmp .notin (.var 3) (.var 1))) [3]) (.lst .nil))) [2])) (.nil)
def b_x_law_pieces : Ss := .cons (.set 2 (.lc (.lst (.cons (.var 6) .nil)) (.one 6) (.seq (.var 1)) .yes [6])) (.cons (.for_ (.row [3, 4, 5]) (.seq (.call "_law_within" (.cons (.var 0) (.cons (.var 1) .nil)))) (.cons (.unp [7, 8] true (.lc (.idx (.lc (.var 9) (.one 9) (.seq (.var 2)) (.some (.cmp .isin (.var 6) (.var 9))) [9]) (.int 0)) (.one 6) (.seq (.tup (.cons (.var 3) (.cons (.var 4) .nil)))) .yes [6])) (.cons (.iff (.cmp .ne (.var 7) (.var 8)) (.cons (.set 2 (.op .add (.lc (.var 9) (.one 9) (.seq (.var 2)) (.some (.cmp .notin (.var 9) (.tup (.cons (.var 7) (.cons (.var 8) .nil))))) [9]) (.lst (.cons (.op .add (.var 7) (.var 8)) .nil)))) (.nil)) (.nil)) (.nil)))) (.cons (.ret (.blt .sorted (.cons (.lc (.blt .tuple (.cons (.blt .sorted (.cons (.var 9) .nil)) .nil)) (.one 9) (.seq (.var 2)) .yes [9]) .nil))) (.nil)))
def b_x_law_alike : Ss := .cons (.ret (.andV (.ofC (.cmp .eq (.blt .repr (.cons (.var 0) .nil)) (.blt .repr (.cons (.var 1) .nil)))) (.ofC (.cmp .eq (.var 0) (.var 1))))) (.nil)
def b_x_law_tying : Ss := .cons (.par 2 3 (.lc (.lst (.cons (.var 9) .nil)) (.one 9) (.seq (.var 1)) .yes [9]) (.lst .nil)) (.cons (.for_ (.row [4, 5, 6]) (.seq (.call "_law_within" (.cons (.var 0) (.cons (.var 1) .nil)))) (.cons (.unp [7, 8] true (.lc (.idx (.lc (.var 10) (.one 10) (.seq (.var 2)) (.some (.cmp .isin (.var 9) (.var 10))) [10]) (.int 0)) (.one 9) (.seq (.tup (.cons (.var 4) (.cons (.var 5) .nil)))) .yes [9])) (.cons (.iff (.cmp .ne (.var 7) (.var 8)) (.cons (.set 2 (.op .add (.lc (.var 10) (.one 10) (.seq (.var 2)) (.some (.cmp .notin (.var 10) (.tup (.cons (.var 7) (.cons (.var 8) .nil))))) [10]) (.lst (.cons (.op .add (.var 7) (.var 8)) .nil)))) (.cons (.expr (.app 3 (.tup (.cons (.var 4) (.cons (.var 5) (.cons (.var 6) .nil)))))) (.nil))) (.nil)) (.nil)))) (.cons (.ret (.blt .tuple (.cons (.var 3) .nil))) (.nil)))
def b_x_law_some : Ss := .cons (.ret (.idx (.var 1) (.call "_law_take" (.cons (.var 0) (.cons (.blt .len (.cons (.var 1) .nil)) .nil))))) (.nil)
def b_ties : Ss := .cons (.ret (.blt .tuple (.cons (.blt .sset (.cons (.lc (.slc (.var 2) .none (.some (.int 2))) (.one 2) (.seq (.call "within" (.cons (.var 0) (.cons (.var 1) .nil)))) .yes [2]) .nil)) .nil))) (.nil)
def b_pieces : Ss := .cons (.expr (.call "check_lot" (.cons (.var 1) .nil))) (.cons (.set 2 (.lc (.tup (.cons (.var 5) .nil)) (.one 5) (.seq (.var 1)) .yes [5])) (.cons (.for_ (.row [3, 4]) (.seq (.call "ties" (.cons (.var 0) (.cons (.var 1) .nil)))) (.cons (.set 2 (.call "put_together" (.cons (.var 2) (.cons (.var 3) (.cons (.var 4) .nil))))) (.nil))) (.cons (.ret (.blt .tuple (.cons (.blt .sorted (.cons (.var 2) .nil)) .nil))) (.nil))))
def b_within : Ss := .cons (.expr (.call "check_lot" (.cons (.var 1) .nil))) (.cons (.ret (.blt .tuple (.cons (.lc (.var 2) (.one 2) (.seq (.var 0)) (.some (.tru (.blt .all (.cons (.lc (.ofC (.cmp .isin (.var 3) (.var 1))) (.one 3) (.seq (.var 2)) .yes [3]) .nil)))) [2]) .nil))) (.nil))
def b_is_one_piece : Ss := .cons (.ret (.ofC (.cmp .eq (.blt .len (.cons (.call "pieces" (.cons (.var 0) (.cons (.var 1) .nil))) .nil)) (.int 1)))) (.nil)
def b_tying : Ss := .cons (.iff (.not (.tru (.call "is_one_piece" (.cons (.var 0) (.cons (.var 1) .nil))))) (.cons (.raise "Nothing") (.nil)) (.nil)) (.cons (.set 2 (.lc (.tup (.cons (.var 5) .nil)) (.one 5) (.seq (.var 1)) .yes [5])) (.cons (.set 3 (.lst .nil)) (.cons (.for_ (.one 4) (.seq (.call "within" (.cons (.var 0) (.cons (.var 1) .nil)))) (.cons (.iff (.tru (.call "is_apart" (.cons (.var 2) (.cons (.idx (.var 4) (.int 0)) (.cons (.idx (.var 4) (.int 1)) .nil))))) (.cons (.set 2 (.call "put_together" (.cons (.var 2) (.cons (.idx (.var 4) (.int 0)) (.cons (.idx (.var 4) (.int 1)) .nil))))) (.cons (.expr (.app 3 (.var 4))) (.nil))) (.nil)) (.nil))) (.cons (.ret (.blt .tuple (.cons (.var 3) .nil))) (.nil)))))
def b_law : Ss := .cons (.set 1 (.call "_law_bag" (.cons (.var 0) .nil))) (.cons (.for_ (.one 2) (.rng1 (.int 6)) (.cons (.set 3 (.call "_law_things" (.cons (.var 1) (.cons (.int 6) .nil)))) (.cons (.set 4 (.blt .tuple (.cons (.blt .sorted (.cons (.slc (.call "_law_mixed" (.cons (.var 1) (.cons (.call "_law_all_sayings" (.cons (.var 3) .nil)) .nil))) .none (.some (.call "_law_take" (.cons (.var 1) (.cons (.int 9) .nil))))) .nil)) .nil))) (.cons (.set 5 (.blt .tuple (.cons (.lc (.var 12) (.one 12) (.seq (.var 3)) (.some (.cmp .gt (.call "_law_take" (.cons (.var 1) (.cons (.int 4) .nil))) (.int 0))) [12]) .nil))) (.cons (.set 5 (.call "_law_some" (.cons (.var 1) (.cons (.lst (.cons (.var 3) (.cons (.ite (.cmp .ne (.var 5) (.tup .nil)) (.var 5) (.slc (.var 3) .none (.some (.int 1)))) .nil))) .nil)))) (.cons (.set 6 (.call "_law_within" (.cons (.var 4) (.cons (.var 5) .nil)))) (.cons (.set 7 (.call "_law_pieces" (.cons (.var 4) (.cons (.var 5) .nil)))) (.cons (.set 8 (.lst (.cons (.call "within" (.cons (.var 4) (.cons (.var 5) .nil))) (.cons (.call "ties" (.cons (.var 4) (.cons (.var 5) .nil))) (.cons (.call "pieces" (.cons (.var 4) (.cons (.var 5) .nil))) (.cons (.call "is_one_piece" (.cons (.var 4) (.cons (.var 5) .nil))) .nil)))))) (.cons (.iff (.not (.tru (.call "_law_alike" (.cons (.var 8) (.cons (.lst (.cons (.blt .tuple (.cons (.var 6) .nil)) (.cons (.blt .tuple (.cons (.blt .sset (.cons (.lc (.slc (.var 13) .none (.some (.int 2))) (.one 13) (.seq (.var 6)) .yes [13]) .nil)) .nil)) (.cons (.blt .tuple (.cons (.var 7) .nil)) (.cons (.ofC (.cmp .eq (.blt .len (.cons (.var 7) .nil)) (.int 1))) .nil))))) .nil))))) (.cons (.ret (.bl false)) (.nil)) (.nil)) (.cons (.set 9 (.call "_law_tying" (.cons (.var 4) (.cons (.var 5) .nil)))) (.cons (.iff (.or (.cmp .ne (.heard "_law_heard" (.call "tying" (.cons (.var 4) (.cons (.var 5) .nil)))) (.ite (.cmp .eq (.blt .len (.cons (.var 7) .nil)) (.int 1)) (.tup (.cons (.str "told") (.cons (.var 9) .nil))) (.tup (.cons (.str "nothing") .nil)))) (.and (.cmp .eq (.blt .len (.cons (.var 7) .nil)) (.int 1)) (.cmp .ne (.blt .len (.cons (.var 9) .nil)) (.op .sub (.blt .len (.cons (.var 5) .nil)) (.int 1))))) (.cons (.ret (.bl false)) (.nil)) (.nil)) (.cons (.set 10 (.call "_law_some" (.cons (.var 1) (.cons (.lst (.cons .non (.cons (.tup .nil) (.cons (.blt .list (.cons (.var 5) .nil)) (.cons (.tup (.cons (.str "b") (.cons (.str "a") .nil))) (.cons (.tup (.cons (.str "a") (.cons (.str "a") .nil))) (.cons (.tup (.cons (.str "A") .nil)) (.cons (.tup (.cons (.int 1) .nil)) .nil)))))))) .nil)))) (.cons (.set 11 (.lst (.cons (.heard "_law_heard" (.call "ties" (.cons (.var 4) (.cons (.var 10) .nil)))) .nil))) (.cons (.expr (.app 11 (.heard "_law_heard" (.call "pieces" (.cons (.var 4) (.cons (.var 10) .nil)))))) (.cons (.expr (.app 11 (.heard "_law_heard" (.call "within" (.cons (.var 4) (.cons (.var 10) .nil)))))) (.cons (.expr (.app 11 (.heard "_law_heard" (.call "is_one_piece" (.cons (.var 4) (.cons (.var 10) .nil)))))) (.cons (.expr (.app 11 (.heard "_law_heard" (.call "tying" (.cons (.var 4) (.cons (.var 10) .nil)))))) (.cons (.iff (.cmp .ne (.var 11) (.rep (.lst (.cons (.tup (.cons (.str "nothing") .nil)) .nil)) (.int 5))) (.cons (.ret (.bl false)) (.nil)) (.nil)) (.nil))))))))))))))))))) (.cons (.ret (.bl true)) (.nil)))
def P : Prg where
  fns := [
    ⟨"is_name", ["thing", "sign"], ["thing"], false, false, b_is_name⟩,
    ⟨"check_lot", ["lot", "one", "other"], ["lot"], false, false, b_check_lot⟩,
    ⟨"put_together", ["groups", "a", "b", "mine", "others", "group", "one"], ["groups", "a", "b"], false, false, b_put_together⟩,
    ⟨"is_apart", ["groups", "a", "b", "group"], ["groups", "a", "b"], false, false, b_is_apart⟩,
    ⟨"_law_bag", ["script", "cell"], ["script"], false, false, b_x_law_bag⟩,
    ⟨"_law_things", ["bag", "most"], ["bag", "most"], true, false, b_x_law_things⟩,
    ⟨"_law_all_sayings", ["things", "found", "a", "b", "c"], ["things"], false, false, b_x_law_all_sayings⟩,
    ⟨"_law_mixed", ["bag", "things", "found", "thing"], ["bag", "things"], true, false, b_x_law_mixed⟩,
    ⟨"_law_take", ["bag", "many", "begin", "second", "cell", "stirred", "value"], ["bag", "many"], true, false, b_x_law_take⟩,
    ⟨"_law_within", ["sayings", "lot", "saying", "thing"], ["sayings", "lot"], false, false, b_x_law_within⟩,
    ⟨"_law_pieces", ["sayings", "lot", "lots", "a", "b", "c", "thing", "one", "other", "its"], ["sayings", "lot"], false, false, b_x_law_pieces⟩,
    ⟨"_law_alike", ["found", "due"], ["found", "due"], false, false, b_x_law_alike⟩,
    ⟨"_law_tying", ["sayings", "lot", "lots", "found", "a", "b", "c", "one", "other", "thing", "its"], ["sayings", "lot"], false, false, b_x_law_tying⟩,
    ⟨"_law_some", ["bag", "things"], ["bag", "things"], true, false, b_x_law_some⟩,
    ⟨"ties", ["sayings", "lot", "saying"], ["sayings", "lot"], false, false, b_ties⟩,
    ⟨"pieces", ["sayings", "lot", "groups", "a", "b", "one"], ["sayings", "lot"], false, false, b_pieces⟩,
    ⟨"within", ["sayings", "lot", "saying", "one"], ["sayings", "lot"], false, false, b_within⟩,
    ⟨"is_one_piece", ["sayings", "lot"], ["sayings", "lot"], false, false, b_is_one_piece⟩,
    ⟨"tying", ["sayings", "lot", "groups", "found", "saying", "one"], ["sayings", "lot"], false, false, b_tying⟩,
    ⟨"law", ["script", "bag", "lap", "things", "sayings", "lot", "inner", "due", "found", "told", "odd", "heard", "thing", "saying"], ["script"], false, true, b_law⟩]
  glo := [("DIGITS", (.str "0123456789")), ("LETTERS", (.str "abcdefghijklmnopqrstuvwxyz")), ("MOST_LETTERS", (.int 8)), ("RESERVED", (.tuple [(.str "all"), (.str "and"), (.str "by"), (.str "closer"), (.str "distance"), (.str "from"), (.str "height"), (.str "not"), (.str "of"), (.str "parted"), (.str "saying"), (.str "some"), (.str "than"), (.str "things"), (.str "to"), (.str "tree"), (.str "unparted")]))]
  told := [("_law_heard", [("Nothing", .tuple [.str "nothing"])])]
  wf := 0
  bl := ["abs", "all", "any", "int", "isinstance", "len", "list", "range", "repr", "set", "sorted", "str", "tuple", "zip"]
  exn := ["Nothing"]
abbrev pw : Program := PySem.Challenge.pw_lastparted_k28_pieces_and_ties
def isDef (f : Str) : Stmt → Bool
  | .FunctionDef n _ _ _ _ _ _ _ _ _ => n == f
  | _ => false
def st (f : Str) : Stmt := (pw.main.body.find? (isDef f)).getD (.Pass ⟨0, 0, 0, 0⟩)
end K28
set_option Elab.async false
set_option linter.all false
set_option maxRecDepth 100000
set_option maxHeartbeats 0
namespace K28
open PySem PySem.Spec PyProof.Rows L2 LamX He Mn
abbrev Rw : PySem.W.OpenRow := PySem.W.OpenLaw.row PySem.Challenge.rw_lastparted_k28_pieces_and_ties
abbrev hk : PySem.W.Hook := P.hook st 4
def ob (s : PySem.W.SharedT) : AlX := obsX 4 (P.fa st) (P.fd st) [] P.tf P.ex (HandSHeadRun.getT s)
theorem ob_eq (s : PySem.W.SharedT) : ob s = hk.obs s.abs := obsX_eq (HandSHeadRun.getT_eq s)
def loose : List PySem.Str := ["_wall", "__name__", "PartedError", "Nothing", "LETTERS", "DIGITS", "MOST_LETTERS", "RESERVED", "is_name", "check_lot", "within", "ties", "put_together", "pieces", "is_one_piece", "is_apart", "tying", "_law_bag", "_law_take", "_law_some", "_law_mixed", "_law_alike", "_law_things", "_law_all_sayings", "_law_within", "_law_pieces", "_law_heard", "_law_tying"]
theorem run (w : World) : HandSHeadRun.RunEq Rw (PySem.W.view Rw.prog [31]) hk ob 1500 loose w := by
  intro os
  kernel_rfl
end K28
set_option Elab.async false
set_option linter.all false
set_option maxRecDepth 100000
set_option maxHeartbeats 0
namespace K28
open PySem PySem.Spec PyProof.Rows L2 LamX He Mn
theorem b0 {f a : Str} (h : ∀ (kV doc pm : Value) (an : Option Addr) (cdv ct : Value) (u : Value), bindArgs (PySem.W.fnOf f f (defArgs (st f)) (defBody (st f)) (defScope (st f)) .none kV doc pm an cdv ct) ⟨[u], []⟩ = pure [(a, u)]) : Bnd st f [a] :=
  fun kV doc pm an cdv ct us hl => match us, hl with | [u], _ => h kV doc pm an cdv ct u
theorem b2 {f a b : Str} (h : ∀ (kV doc pm : Value) (an : Option Addr) (cdv ct : Value) (u v : Value), bindArgs (PySem.W.fnOf f f (defArgs (st f)) (defBody (st f)) (defScope (st f)) .none kV doc pm an cdv ct) ⟨[u, v], []⟩ = pure [(a, u), (b, v)]) : Bnd st f [a, b] :=
  fun kV doc pm an cdv ct us hl => match us, hl with | [u, v], _ => h kV doc pm an cdv ct u v
theorem b3 {f a b c : Str} (h : ∀ (kV doc pm : Value) (an : Option Addr) (cdv ct : Value) (u v x : Value), bindArgs (PySem.W.fnOf f f (defArgs (st f)) (defBody (st f)) (defScope (st f)) .none kV doc pm an cdv ct) ⟨[u, v, x], []⟩ = pure [(a, u), (b, v), (c, x)]) : Bnd st f [a, b, c] :=
  fun kV doc pm an cdv ct us hl => match us, hl with | [u, v, x], _ => h kV doc pm an cdv ct u v x
theorem bn : ∀ d, d ∈ P.fns → Bnd st d.name d.ps := by
  have go : ∀ {l : List Fd} {d : Fd}, Bnd st d.name d.ps → (∀ e, e ∈ l → Bnd st e.name e.ps) → ∀ e, e ∈ d :: l → Bnd st e.name e.ps := fun h1 h2 e he => (List.mem_cons.mp he).elim (fun z => z ▸ h1) (h2 e)
  unfold P
  repeat' first
    | exact fun e he => absurd he (List.not_mem_nil)
    | refine go ?_ ?_
  all_goals first
    | (refine b0 fun _ _ _ _ _ _ _ => ?_; kernel_rfl)
    | (refine b2 fun _ _ _ _ _ _ _ _ => ?_; kernel_rfl)
    | (refine b3 fun _ _ _ _ _ _ _ _ _ => ?_; kernel_rfl)
theorem bt : ∀ t, t ∈ P.told → ∀ a e no, toldShape (defBody (st t.1)) = some (a, e, no) → Bnd st t.1 [a] := by
  intro t ht a e no h
  have : t = (("_law_heard" : Str), [(("Nothing" : Str), (PyData.tuple [.str "nothing"] : D))]) := by simpa [P] using ht
  subst this
  have h2 : toldShape (defBody (st "_law_heard")) = some (("act" : Str), ("Nothing" : Str), ("nothing" : Str)) := by kernel_rfl
  rw [h2] at h
  cases h
  exact b0 fun _ _ _ _ _ _ _ => by kernel_rfl
theorem to : P.toldB st = true := by decide +kernel
theorem one : ∀ d e, d ∈ P.fns → d.lm = true → e ∈ P.fns → e.lm = true → d.name = e.name := by
  have h : ∀ d, d ∈ P.fns → d.lm = true → d.name = "law" := by
    intro d hd hl
    have : (P.fns.all fun d => !d.lm || d.name == "law") = true := by decide +kernel
    have := List.all_eq_true.mp this d hd
    rw [hl] at this
    simpa using this
  exact fun d e h1 h2 h3 h4 => (h d h1 h2).trans (h e h3 h4).symm
end K28
set_option Elab.async false
set_option linter.all false
set_option maxRecDepth 100000
set_option maxHeartbeats 4000000
namespace K28
open PySem Mn
/-! ### data -/
abbrev Γn (n : Nat) (g : Bool) : Mn.Ctx := P.ctx (P.call n) g
def tS (l : List Str) : D := .tuple (l.map .str)
abbrev Sy := Str × Str × Str
def sD (s : Sy) : D := .tuple [.str s.1, .str s.2.1, .str s.2.2]
def Lt : List Str := ["a", "b", "c", "d", "e", "f"]
def subs {α : Type} : List α → List (List α)
  | [] => [[]]
  | x :: xs => (subs xs).map (x :: ·) ++ subs xs
theorem subs_mem {α : Type} : ∀ {l s : List α}, s.Sublist l → s ∈ subs l
  | [], s, h => by cases h; exact List.mem_singleton_self _
  | x :: l, s, h => by
    unfold subs
    cases h with
    | cons _ h => exact List.mem_append_right _ (subs_mem h)
    | cons_cons _ h => exact List.mem_append_left _ (List.mem_map_of_mem (subs_mem h))
structure LotOk (lot : List Str) : Prop where
  sub : lot.Sublist Lt
  ne : lot ≠ []
def isNone : CRes → Bool
  | .ret (.d .none) none => true
  | _ => false
theorem isNone_ok {c : CRes} (h : isNone c = true) : c = .ret (.d .none) none := by
  unfold isNone at h
  split at h
  · rfl
  · cases h
theorem lot_len {lot : List Str} (h : LotOk lot) : lot.length ≤ 6 := h.sub.length_le
/-- a lot is one -/
theorem check_all (n : Nat) (g : Bool) : ((subs Lt).all fun lot => lot.isEmpty || isNone (P.call (n + 3) g "check_lot" [.d (tS lot)])) = true := by kernel_rfl
theorem c_check {lot : List Str} (h : LotOk lot) (n : Nat) (g : Bool) : P.call (n + 3) g "check_lot" [.d (tS lot)] = .ret (.d .none) none := by
  have := List.all_eq_true.mp (check_all n g) lot (subs_mem h.sub)
  rw [Bool.or_eq_true] at this
  rcases this with z | z
  · exact absurd (List.isEmpty_iff.mp z) h.ne
  · exact isNone_ok z
/-! ### what is compared -/
theorem depth_strs : ∀ l : List Str, PyData.depthAll (l.map .str) = 0
  | [] => rfl
  | _ :: l => by simp [PyData.depthAll, PyData.depth, depth_strs l]
theorem lt_ok {a : Str} (h : a ∈ Lt) : SeqAt.shaped (.str a) = true := by
  have : (Lt.all fun a => SeqAt.shaped (.str a)) = true := by decide +kernel
  exact List.all_eq_true.mp this a h
theorem lay_strs : ∀ {l : List Str}, (∀ a, a ∈ l → a ∈ Lt) → PyData.canLayAll0 (l.map .str) = true
  | [], _ => rfl
  | a :: l, h => by
    have h1 := lt_ok (h a List.mem_cons_self)
    rw [SeqAt.shaped, Bool.and_eq_true] at h1
    rw [List.map_cons, PyData.canLayAll0, h1.1, lay_strs fun b hb => h b (List.mem_cons_of_mem _ hb)]
    rfl
theorem sh_tS {l : List Str} (h : ∀ a, a ∈ l → a ∈ Lt) : SeqAt.shaped (tS l) = true := by
  simp [SeqAt.shaped, tS, PyData.canLay0, PyData.depth, depth_strs, lay_strs h]
theorem any_strs (a : Str) : ∀ l : List Str, ((l.map PyData.str).any fun x => PyData.eqv x (.str a)) = l.contains a
  | [] => rfl
  | b :: l => by
    rw [List.map_cons, List.any_cons, any_strs a l, List.contains_cons]
    congr 1
    simp [PyData.eqv, Bool.beq_comm, BEq.comm]
theorem in_tS {a : Str} {l : List Str} (ha : a ∈ Lt) (h : ∀ a, a ∈ l → a ∈ Lt) : cmpD .isin (.str a) (tS l) = some (l.contains a) := by
  show (if SeqAt.shaped (.str a) && SeqAt.shaped (tS l) then some ((l.map PyData.str).any fun x => PyData.eqv x (.str a)) else none) = _
  rw [sh_tS h, lt_ok ha, any_strs]
  rfl
theorem notin_tS {a : Str} {l : List Str} (ha : a ∈ Lt) (h : ∀ a, a ∈ l → a ∈ Lt) : cmpD .notin (.str a) (tS l) = some (!l.contains a) := by
  show (if SeqAt.shaped (.str a) && SeqAt.shaped (tS l) then some (!(l.map PyData.str).any fun x => PyData.eqv x (.str a)) else none) = _
  rw [sh_tS h, lt_ok ha, any_strs]
  rfl
def SyOk (s : Sy) : Prop := s.1 ∈ Lt ∧ s.2.1 ∈ Lt ∧ s.2.2 ∈ Lt
theorem LotOk.lt {lot : List Str} (h : LotOk lot) : ∀ a, a ∈ lot → a ∈ Lt := fun _ ha => h.sub.subset ha
def inLot (lot : List Str) (s : Sy) : Bool := lot.contains s.1 && lot.contains s.2.1 && lot.contains s.2.2
/-! ### within -/
theorem ld_check (n : Nat) (g : Bool) : (Γn n g).lend "check_lot" = false := by kernel_rfl
theorem cq_within (n : Nat) (g : Bool) (ws : List W) : P.call (n + 1) g "within" ws = runB (Γn n g) 2 4 b_within ws := by kernel_rfl
theorem c_within {lot : List Str} {ss : List Sy} (h : LotOk lot) (hs : ss.length ≤ LIM) (ho : ∀ s, s ∈ ss → SyOk s) (n : Nat) (g : Bool) :
    P.call (n + 4) g "within" [.d (.tuple (ss.map sD)), .d (tS lot)] = .ret (.d (.tuple ((ss.filter (inLot lot)).map sD))) none := by
  rw [cq_within]
  have loop : lcLoop (lcTurn (.one 2) (evOc (Γn (n + 3) g) (.some (.tru (.blt .all (.cons (.lc (.ofC (.cmp .isin (.var 3) (.var 1))) (.one 3) (.seq (.var 2)) .yes [3]) .nil))))) (evE (Γn (n + 3) g) (.var 2)) [2]) (ss.map sD) [] [some (.d (.tuple (ss.map sD))), some (.d (tS lot)), none, none] =
      .ok ((ss.map sD).filter (fun x => match x with | .tuple [.str a, .str b, .str c] => inLot lot (a, b, c) | _ => false), [some (.d (.tuple (ss.map sD))), some (.d (tS lot)), none, none]) := by
    refine lc_filter _ (fun x hx => ?_) (by simpa using hs)
    obtain ⟨s, hs, rfl⟩ := List.mem_map.mp hx
    obtain ⟨o1, o2, o3⟩ := ho s hs
    have inner : lcLoop (lcTurn (.one 3) (evOc (Γn (n + 3) g) .yes) (evE (Γn (n + 3) g) (.ofC (.cmp .isin (.var 3) (.var 1)))) [3]) [.str s.1, .str s.2.1, .str s.2.2] [] [some (.d (.tuple (ss.map sD))), some (.d (tS lot)), some (.d (sD s)), none] =
        .ok ([.bool (lot.contains s.1), .bool (lot.contains s.2.1), .bool (lot.contains s.2.2)], [some (.d (.tuple (ss.map sD))), some (.d (tS lot)), some (.d (sD s)), none]) := by
      have go : ∀ a : Str, a ∈ Lt → lcTurn (.one 3) (evOc (Γn (n + 3) g) .yes) (evE (Γn (n + 3) g) (.ofC (.cmp .isin (.var 3) (.var 1)))) [3] (.str a) [some (.d (.tuple (ss.map sD))), some (.d (tS lot)), some (.d (sD s)), none] = .ok (some (.bool (lot.contains a)), [some (.d (.tuple (ss.map sD))), some (.d (tS lot)), some (.d (sD s)), none]) := fun a ha =>
        turn_yes rfl oc_yes (e_ofC (c_cmp (e_vd rfl) (e_vd rfl) rfl rfl (in_tS ha h.lt))) rfl
      refine lc_map (fun x => match x with | .str a => .bool (lot.contains a) | _ => .none) (fun x hx => ?_) (show 3 ≤ LIM by decide)
      simp only [List.mem_cons, List.not_mem_nil, or_false] at hx
      rcases hx with rfl | rfl | rfl
      · exact go _ o1
      · exact go _ o2
      · exact go _ o3
    have test : evC (Γn (n + 3) g) (.tru (.blt .all (.cons (.lc (.ofC (.cmp .isin (.var 3) (.var 1))) (.one 3) (.seq (.var 2)) .yes [3]) .nil))) [some (.d (.tuple (ss.map sD))), some (.d (tS lot)), some (.d (sD s)), none] = .ok (inLot lot s, [some (.d (.tuple (ss.map sD))), some (.d (tS lot)), some (.d (sD s)), none]) := by
      refine c_tru (r := .d (.bool (inLot lot s))) (u := .bool (inLot lot s)) (e_blt (xs := [.list [.bool (lot.contains s.1), .bool (lot.contains s.2.1), .bool (lot.contains s.2.2)]]) (es_cons (e_lc (i_seq (e_vd rfl) rfl rfl) inner) es_nil) rfl ?_) rfl rfl
      simp [bltD, boolsD, inLot, Bool.and_assoc]
    cases q : inLot lot s with
    | true =>
      rw [q] at test
      refine (turn_yes (y := sD s) rfl (oc_some test) (e_vd rfl) rfl).trans ?_
      simp [sD, q]
      rfl
    | false =>
      rw [q] at test
      refine (turn_no rfl (oc_some test)).trans ?_
      simp [sD, q]
      rfl
  refine runB_rt rfl rfl (ss_nx (s_expr (e_call (es_cons (e_vd rfl) es_nil) (ld_check _ _) rfl (c_check h n g) (fun _ z => nomatch z))) (ss_rt (s_ret (e_blt (es_cons (e_lc (i_seq (e_vd rfl) rfl rfl) loop) es_nil) rfl rfl)))) ?_
  show CRes.ret _ none = _
  congr 3
  rw [List.filter_map]
  rfl
end K28
set_option Elab.async false
set_option linter.all false
set_option maxRecDepth 100000
set_option maxHeartbeats 4000000
namespace K28
open PySem Mn
/-! ### put_together -/
section
variable {lot : List Str} {G : List (List Str)} {a b : Str}
theorem part_lt (h : LotOk lot) (p : Part lot G) {g : List Str} (hg : g ∈ G) : ∀ x, x ∈ g → x ∈ Lt := fun x hx => h.lt x (p.mem.mpr ⟨g, hg, hx⟩)
theorem part_flen (h : LotOk lot) (p : Part lot G) : G.flatten.length ≤ 6 := by rw [p.perm.length_eq]; exact lot_len h
theorem ne_len {α : Type} : ∀ {G : List (List α)}, (∀ g, g ∈ G → g ≠ []) → G.length ≤ G.flatten.length
  | [], _ => Nat.zero_le _
  | g :: G, h => by
    have h1 : 0 < g.length := List.length_pos_iff.mpr (h g List.mem_cons_self)
    have h2 := ne_len fun k hk => h k (List.mem_cons_of_mem _ hk)
    rw [List.length_cons, List.flatten_cons, List.length_append]
    omega
theorem part_len (h : LotOk lot) (p : Part lot G) : G.length ≤ 6 := Nat.le_trans (ne_len p.ne) (part_flen h p)
def ofTS : D → List Str
  | .tuple xs => xs.map fun | .str s => s | _ => ""
  | _ => []
theorem ofTS_tS (l : List Str) : ofTS (tS l) = l := by simp [ofTS, tS, Function.comp_def]
theorem filt_tS (p : List Str → Bool) (G : List (List Str)) : (G.map tS).filter (fun x => p (ofTS x)) = (G.filter p).map tS := by
  rw [List.filter_map]
  congr 1
  congr 1
  funext g
  simp [ofTS_tS]
theorem flat_tS (G : List (List Str)) : (G.map tS).flatMap (fun x => (ofTS x).map PyData.str) = (G.flatten).map PyData.str := by
  induction G with
  | nil => rfl
  | cons g G ih => rw [List.map_cons, List.flatMap_cons, ih, ofTS_tS, List.flatten_cons, List.map_append]
theorem flat_filt_len {α : Type} (p : List α → Bool) : ∀ G : List (List α), (G.filter p).flatten.length ≤ G.flatten.length
  | [] => Nat.le_refl _
  | g :: G => by
    have := flat_filt_len p G
    rw [List.filter_cons]
    split
    · simp only [List.flatten_cons, List.length_append]; omega
    · simp only [List.flatten_cons, List.length_append]; omega
theorem cq_put (n : Nat) (g : Bool) (ws : List W) : P.call (n + 1) g "put_together" ws = runB (Γn n g) 3 7 b_put_together ws := by kernel_rfl
theorem lim6 {k : Nat} (h : k ≤ 6) : k ≤ LIM := Nat.le_trans h (by decide)
theorem c_put (h : LotOk lot) (p : Part lot G) (ha : a ∈ Lt) (hb : b ∈ Lt) (n : Nat) (g : Bool) :
    P.call (n + 1) g "put_together" [.d (.list (G.map tS)), .d (.str a), .d (.str b)] = .ret (.fresh ((putG G a b).map tS)) none := by
  rw [cq_put]
  have glen := part_len h p
  have l1 : lcLoop (lcTurn (.one 5) (evOc (Γn n g) (.some (.or (.cmp .isin (.var 1) (.var 5)) (.cmp .isin (.var 2) (.var 5))))) (evE (Γn n g) (.var 5)) [5]) (G.map tS) [] [some (.d (.list (G.map tS))), some (.d (.str a)), some (.d (.str b)), none, none, none, none] =
      .ok ((G.map tS).filter (fun x => (ofTS x).contains a || (ofTS x).contains b), [some (.d (.list (G.map tS))), some (.d (.str a)), some (.d (.str b)), none, none, none, none]) := by
    refine lc_filter _ (fun x hx => ?_) (by simpa using lim6 glen)
    obtain ⟨k, hk, rfl⟩ := List.mem_map.mp hx
    have kl := part_lt h p hk
    rw [ofTS_tS]
    have test : evC (Γn n g) (.or (.cmp .isin (.var 1) (.var 5)) (.cmp .isin (.var 2) (.var 5))) [some (.d (.list (G.map tS))), some (.d (.str a)), some (.d (.str b)), none, none, some (.d (tS k)), none] = .ok (k.contains a || k.contains b, [some (.d (.list (G.map tS))), some (.d (.str a)), some (.d (.str b)), none, none, some (.d (tS k)), none]) := by
      refine c_or (c_cmp (e_vd rfl) (e_vd rfl) rfl rfl (in_tS ha kl)) ?_
      cases k.contains a
      · exact c_cmp (e_vd rfl) (e_vd rfl) rfl rfl (in_tS hb kl)
      · rfl
    cases q : (k.contains a || k.contains b) with
    | true =>
      rw [q] at test
      exact turn_yes rfl (oc_some test) (e_vd rfl) rfl
    | false =>
      rw [q] at test
      exact turn_no rfl (oc_some test)
  have l2 : lcLoop (lcTurn (.one 5) (evOc (Γn n g) (.some (.and (.cmp .notin (.var 1) (.var 5)) (.cmp .notin (.var 2) (.var 5))))) (evE (Γn n g) (.var 5)) [5]) (G.map tS) [] [some (.d (.list (G.map tS))), some (.d (.str a)), some (.d (.str b)), some (.own false ((G.filter fun k => k.contains a || k.contains b).map tS)), none, none, none] =
      .ok ((G.map tS).filter (fun x => !(ofTS x).contains a && !(ofTS x).contains b), [some (.d (.list (G.map tS))), some (.d (.str a)), some (.d (.str b)), some (.own false ((G.filter fun k => k.contains a || k.contains b).map tS)), none, none, none]) := by
    refine lc_filter _ (fun x hx => ?_) (by simpa using lim6 glen)
    obtain ⟨k, hk, rfl⟩ := List.mem_map.mp hx
    have kl := part_lt h p hk
    rw [ofTS_tS]
    have test : evC (Γn n g) (.and (.cmp .notin (.var 1) (.var 5)) (.cmp .notin (.var 2) (.var 5))) [some (.d (.list (G.map tS))), some (.d (.str a)), some (.d (.str b)), some (.own false ((G.filter fun k => k.contains a || k.contains b).map tS)), none, some (.d (tS k)), none] = .ok (!k.contains a && !k.contains b, [some (.d (.list (G.map tS))), some (.d (.str a)), some (.d (.str b)), some (.own false ((G.filter fun k => k.contains a || k.contains b).map tS)), none, some (.d (tS k)), none]) := by
      refine c_and (c_cmp (e_vd rfl) (e_vd rfl) rfl rfl (notin_tS ha kl)) ?_
      cases k.contains a
      · exact c_cmp (e_vd rfl) (e_vd rfl) rfl rfl (notin_tS hb kl)
      · rfl
    cases q : (!k.contains a && !k.contains b) with
    | true =>
      rw [q] at test
      exact turn_yes rfl (oc_some test) (e_vd rfl) rfl
    | false =>
      rw [q] at test
      exact turn_no rfl (oc_some test)
  rw [filt_tS fun k => k.contains a || k.contains b] at l1
  rw [filt_tS fun k => !k.contains a && !k.contains b] at l2
  have flen : (G.filter fun k => k.contains a || k.contains b).flatten.length ≤ 6 := Nat.le_trans (flat_filt_len _ G) (part_flen h p)
  have olen : (G.filter fun k => !k.contains a && !k.contains b).length ≤ 6 := Nat.le_trans (List.length_filter_le _ _) glen
  have l3 : lc2Loop (lc2Turn (.one 5) (evOc (Γn n g) .yes) (evI (Γn n g) (.seq (.var 5))) (.one 6) (evOc (Γn n g) .yes) (evE (Γn n g) (.var 6)) [5, 6] [6]) ((G.filter fun k => k.contains a || k.contains b).map tS) []
      [some (.d (.list (G.map tS))), some (.d (.str a)), some (.d (.str b)), some (.d (.list ((G.filter fun k => k.contains a || k.contains b).map tS))), some (.own false ((G.filter fun k => !k.contains a && !k.contains b).map tS)), none, none] =
      .ok ([] ++ ((G.filter fun k => k.contains a || k.contains b).map tS).flatMap (fun x => (ofTS x).map PyData.str), [some (.d (.list (G.map tS))), some (.d (.str a)), some (.d (.str b)), some (.d (.list ((G.filter fun k => k.contains a || k.contains b).map tS))), some (.own false ((G.filter fun k => !k.contains a && !k.contains b).map tS)), none, none]) := by
    refine lc2_flat _ (fun x hx acc hl => ?_) (by rw [flat_tS, List.length_map]; exact Nat.le_trans (Nat.add_le_add_left flen 0) (by decide))
    obtain ⟨k, hk, rfl⟩ := List.mem_map.mp hx
    rw [ofTS_tS] at hl ⊢
    refine turn2 (zs := k.map PyData.str) rfl oc_yes (i_seq (e_vd rfl) rfl rfl) ((lc_mapA id (fun x _ => ?_) hl).trans (by rw [List.map_id])) rfl
    exact turn_yes rfl oc_yes (e_vd rfl) rfl
  rw [flat_tS, List.nil_append] at l3
  refine runB_rt rfl rfl (ss_nx (s_set (e_lc (i_seq (e_vd rfl) rfl rfl) l1) rfl) (ss_nx (s_set (e_lc (i_seq (e_vd rfl) rfl rfl) l2) rfl) (ss_rt (s_ret (e_op (r := .fresh ((G.filter fun k => !k.contains a && !k.contains b).map tS ++ [tS (sortS (G.filter fun k => k.contains a || k.contains b).flatten)])) (e_vo rfl)
    (e_lst (es_cons (e_blt (es_cons (e_blt (r := .fresh ((sortS (G.filter fun k => k.contains a || k.contains b).flatten).map PyData.str)) (es_cons (e_lc2 (i_seq (e_vo rfl) rfl rfl) l3) es_nil) rfl ?s) es_nil) rfl rfl) es_nil) rfl (show 1 ≤ LIM by decide)) rfl rfl ?o))))) ?e
  case s =>
    show (if sortOk _ then some (R.fresh (sortD _)) else none) = _
    rw [sortOk_strs (lim6 flen), sortD_strs]
    rfl
  case o =>
    show (if _ then some (R.fresh _) else none) = _
    rw [if_pos (show _ ≤ LIM by simp only [List.length_map]; exact Nat.le_trans (Nat.add_le_add_right olen 1) (by decide))]
    rfl
  case e =>
    show CRes.ret _ none = _
    congr 2
    unfold putG
    rw [List.map_append]
    rfl
end
end K28
set_option Elab.async false
set_option linter.all false
set_option maxRecDepth 100000
set_option maxHeartbeats 4000000
namespace K28
open PySem Mn
/-! ### rows of texts as data -/
theorem tS_key (l : List Str) : tS l = keyD (l.map .inr) := by
  unfold tS keyD
  rw [List.map_map]
  rfl
theorem tS_inj {a b : List Str} (h : tS a = tS b) : a = b := by
  have := congrArg ofTS h
  rwa [ofTS_tS, ofTS_tS] at this
theorem tS_eqv (a b : List Str) : PyData.eqv (tS a) (tS b) = decide (a = b) := by
  rw [tS_key, tS_key, keyD_eqv]
  refine decide_eq_decide.mpr ⟨fun h => ?_, fun h => by rw [h]⟩
  exact tS_inj (by rw [tS_key, tS_key, h])
theorem alike_strs : ∀ a b : List Str, PySem.W.alikeAll (a.map .str) (b.map .str) = true
  | [], b => by cases b <;> simp [PySem.W.alikeAll]
  | _ :: _, [] => by simp [PySem.W.alikeAll]
  | x :: a, y :: b => by simp [PySem.W.alikeAll, PySem.W.alike, alike_strs a b]
theorem tS_alike (a b : List Str) : PySem.W.alike (tS a) (tS b) = true := by
  unfold tS PySem.W.alike
  exact alike_strs a b
theorem tS_depth (a : List Str) : (tS a).depth = 1 := by simp [tS, PyData.depth, depth_strs]
theorem tSs_sortOk {G : List (List Str)} (ne : ∀ g, g ∈ G → g ≠ []) (hl : G.length ≤ LIM) : sortOk (G.map tS) = true := by
  unfold sortOk
  simp only [Bool.and_eq_true, decide_eq_true_eq, List.all_eq_true, Bool.or_eq_true, List.length_map]
  refine ⟨⟨⟨fun a ha b hb => ?_, .inl fun a ha => ?_⟩, hl⟩, fun a ha => ?_⟩
  · obtain ⟨x, _, rfl⟩ := List.mem_map.mp ha
    obtain ⟨y, _, rfl⟩ := List.mem_map.mp hb
    exact tS_alike x y
  · obtain ⟨x, hx, rfl⟩ := List.mem_map.mp ha
    cases x with
    | nil => exact absurd rfl (ne _ hx)
    | cons _ _ => rfl
  · obtain ⟨x, _, rfl⟩ := List.mem_map.mp ha
    rw [tS_depth]
    decide
theorem tSs_sort {G G' : List (List Str)} (h : G.Perm G') : sortD (G.map tS) = sortD (G'.map tS) := by
  refine sort_perm_eq (h.map _) (fun x hx y hy => ?_) fun x hx y hy e => ?_
  · obtain ⟨a, _, rfl⟩ := List.mem_map.mp hx
    obtain ⟨b, _, rfl⟩ := List.mem_map.mp hy
    exact tS_alike a b
  · obtain ⟨a, _, rfl⟩ := List.mem_map.mp hx
    obtain ⟨b, _, rfl⟩ := List.mem_map.mp hy
    rw [tS_eqv, decide_eq_true_eq] at e
    rw [e]
/-! ### is_apart -/
section
variable {lot : List Str} {G : List (List Str)} {a b : Str}
def sameB (G : List (List Str)) (a b : Str) : Bool := G.any fun k => k.contains a && k.contains b
theorem sameB_iff : sameB G a b = true ↔ same G a b := by
  unfold sameB same
  rw [List.any_eq_true]
  simp only [Bool.and_eq_true, List.contains_iff_mem]
theorem cq_apart (n : Nat) (g : Bool) (ws : List W) : P.call (n + 1) g "is_apart" ws = runB (Γn n g) 3 4 b_is_apart ws := by kernel_rfl
theorem c_apart (h : LotOk lot) (p : Part lot G) (ha : a ∈ Lt) (hb : b ∈ Lt) (n : Nat) (g : Bool) :
    P.call (n + 1) g "is_apart" [.d (.list (G.map tS)), .d (.str a), .d (.str b)] = .ret (.d (.bool (!sameB G a b))) none := by
  rw [cq_apart]
  have l1 : lcLoop (lcTurn (.one 3) (evOc (Γn n g) .yes) (evE (Γn n g) (.andV (.ofC (.cmp .isin (.var 1) (.var 3))) (.ofC (.cmp .isin (.var 2) (.var 3))))) [3]) (G.map tS) [] [some (.d (.list (G.map tS))), some (.d (.str a)), some (.d (.str b)), none] =
      .ok ((G.map tS).map (fun x => .bool ((ofTS x).contains a && (ofTS x).contains b)), [some (.d (.list (G.map tS))), some (.d (.str a)), some (.d (.str b)), none]) := by
    refine lc_map _ (fun x hx => ?_) (by simpa using lim6 (part_len h p))
    obtain ⟨k, hk, rfl⟩ := List.mem_map.mp hx
    have kl := part_lt h p hk
    rw [ofTS_tS]
    have test : evE (Γn n g) (.andV (.ofC (.cmp .isin (.var 1) (.var 3))) (.ofC (.cmp .isin (.var 2) (.var 3)))) [some (.d (.list (G.map tS))), some (.d (.str a)), some (.d (.str b)), some (.d (tS k))] = .ok (.d (.bool (k.contains a && k.contains b)), [some (.d (.list (G.map tS))), some (.d (.str a)), some (.d (.str b)), some (.d (tS k))]) := by
      refine e_andV (e_ofC (c_cmp (e_vd rfl) (e_vd rfl) rfl rfl (in_tS ha kl))) ?_
      cases k.contains a
      · rfl
      · exact e_ofC (c_cmp (e_vd rfl) (e_vd rfl) rfl rfl (in_tS hb kl))
    exact turn_yes rfl oc_yes test rfl
  have e : (G.map tS).map (fun x => PyData.bool ((ofTS x).contains a && (ofTS x).contains b)) = (G.map fun k => k.contains a && k.contains b).map .bool := by
    rw [List.map_map, List.map_map]
    refine List.map_congr_left fun k _ => ?_
    simp only [Function.comp, ofTS_tS]
  rw [e] at l1
  refine runB_rt rfl rfl (ss_rt (s_ret (e_ofC (c_not (c_tru (r := .d (.bool (sameB G a b))) (u := .bool (sameB G a b)) (t := sameB G a b) (e_blt (es_cons (e_lc (i_seq (e_vd rfl) rfl rfl) l1) es_nil) rfl ?_) rfl rfl))))) rfl
  show (boolsD _).map _ = _
  rw [bools_map]
  simp only [Option.map, sameB, List.any_map]
  rfl
end
/-! ### ties -/
def pD (s : Sy) : D := tS [s.1, s.2.1]
theorem ld_within (n : Nat) (g : Bool) : (Γn n g).lend "within" = false := by kernel_rfl
theorem cq_ties (n : Nat) (g : Bool) (ws : List W) : P.call (n + 1) g "ties" ws = runB (Γn n g) 2 3 b_ties ws := by kernel_rfl
theorem ds_sset {ss : List Sy} (hl : ss.length < 64) (g : Bool) : bltD g .sset [.list (ss.map pD)] = some (.fresh (sortD (dedup (ss.map pD)))) := by
  have e : ss.map pD = (ss.map fun s => [s.1, s.2.1]).map tS := by rw [List.map_map]; rfl
  have h1 : sortOk (ss.map pD) = true := by
    rw [e]
    refine tSs_sortOk (fun g hg => ?_) (by rw [List.length_map]; exact Nat.le_trans (Nat.le_of_lt hl) (by decide))
    obtain ⟨s, _, rfl⟩ := List.mem_map.mp hg
    exact List.cons_ne_nil _ _
  have h2 : (ss.map pD).all setKey = true := List.all_eq_true.mpr fun x hx => by
    obtain ⟨s, _, rfl⟩ := List.mem_map.mp hx
    rfl
  show (if _ then some (R.fresh _) else none) = _
  rw [h1, h2, List.length_map, decide_eq_true hl]
  rfl
theorem c_ties {lot : List Str} {ss : List Sy} (h : LotOk lot) (hs : ss.length < 64) (ho : ∀ s, s ∈ ss → SyOk s) (n : Nat) (g : Bool) :
    P.call (n + 5) g "ties" [.d (.tuple (ss.map sD)), .d (tS lot)] = .ret (.d (.tuple (sortD (dedup ((ss.filter (inLot lot)).map pD))))) none := by
  rw [cq_ties]
  have fl : (ss.filter (inLot lot)).length < 64 := Nat.lt_of_le_of_lt (List.length_filter_le _ _) hs
  have l1 : lcLoop (lcTurn (.one 2) (evOc (Γn (n + 4) g) .yes) (evE (Γn (n + 4) g) (.slc (.var 2) .none (.some (.int 2)))) [2]) ((ss.filter (inLot lot)).map sD) [] [some (.d (.tuple (ss.map sD))), some (.d (tS lot)), none] =
      .ok (((ss.filter (inLot lot)).map sD).map (fun x => match x with | .tuple (a :: b :: _) => .tuple [a, b] | _ => .none), [some (.d (.tuple (ss.map sD))), some (.d (tS lot)), none]) := by
    refine lc_map _ (fun x hx => ?_) (by rw [List.length_map]; exact Nat.le_trans (Nat.le_of_lt fl) (by decide))
    obtain ⟨s, hs, rfl⟩ := List.mem_map.mp hx
    exact turn_yes rfl oc_yes (e_slc (e_vd rfl) o_none (o_some (by rw [evE])) rfl rfl) rfl
  have e : ((ss.filter (inLot lot)).map sD).map (fun x => match x with | .tuple (a :: b :: _) => .tuple [a, b] | _ => .none) = (ss.filter (inLot lot)).map pD := by
    rw [List.map_map]
    rfl
  rw [e] at l1
  exact runB_rt rfl rfl (ss_rt (s_ret (e_blt (es_cons (e_blt (es_cons (e_lc (i_seq (e_p (es_cons (e_vd rfl) (es_cons (e_vd rfl) es_nil)) (ld_within _ _) rfl (c_within h (Nat.le_trans (Nat.le_of_lt hs) (by decide)) ho n g)) rfl rfl) l1) es_nil) rfl (ds_sset fl g)) es_nil) rfl rfl))) rfl
end K28
set_option Elab.async false
set_option linter.all false
set_option maxRecDepth 100000
set_option maxHeartbeats 4000000
namespace K28
open PySem Mn
abbrev Ed := Str × Str
def edg (l : List Sy) : List Ed := l.map fun s => (s.1, s.2.1)
def eD (e : Ed) : D := tS [e.1, e.2]
def ofE (x : D) : Ed := match ofTS x with
  | [a, b] => (a, b)
  | _ => ("", "")
theorem ofE_eD (e : Ed) : ofE (eD e) = e := by
  unfold ofE eD
  rw [ofTS_tS]
def Srt (G : List (List Str)) : Prop := ∀ g, g ∈ G → sortS g = g
theorem srt_put {G : List (List Str)} (h : Srt G) (a b : Str) : Srt (putG G a b) := fun g hg => by
  unfold putG at hg
  rcases List.mem_append.mp hg with z | z
  · exact h g (List.mem_filter.mp z).1
  · rw [List.mem_singleton] at z
    rw [z, sortS_idem]
theorem srt_single (lot : List Str) : Srt (lot.map fun x => [x]) := fun g hg => by
  obtain ⟨x, _, rfl⟩ := List.mem_map.mp hg
  exact List.mergeSort_singleton _
theorem srt_map {G : List (List Str)} (h : Srt G) : G.map sortS = G := by
  rw [List.map_congr_left (g := id) fun g hg => h g hg, List.map_id]
theorem by_congr {lot : List Str} {E E' : List Ed} {G : List (List Str)} (h : By lot E G) (e : ∀ p, p ∈ E ↔ p ∈ E') : By lot E' G :=
  ⟨h.part, fun x y hx hy => (h.rel x y hx hy).trans ⟨fun c => c.mono fun p => (e p).mp, fun c => c.mono fun p => (e p).mpr⟩⟩
theorem by_same {lot : List Str} {E : List Ed} {G : List (List Str)} {a b : Str} (h : By lot E G) (c : Conn E a b) : By lot ((a, b) :: E) G :=
  ⟨h.part, fun x y hx hy => (h.rel x y hx hy).trans ⟨fun c => c.mono fun p hp => List.mem_cons_of_mem _ hp, fun z => by
    rcases conn_cons.mp z with z | ⟨z1, z2⟩
    · exact z
    · have xa : Conn E x a := z1.elim id fun w => w.trans c.symm
      have ya : Conn E y a := z2.elim id fun w => w.trans c.symm
      exact xa.trans ya.symm⟩⟩
theorem LotOk.nod {lot : List Str} (h : LotOk lot) : lot.Nodup := h.sub.nodup (by decide)
/-! ### pieces -/
theorem ld_ties (n : Nat) (g : Bool) : (Γn n g).lend "ties" = false := by kernel_rfl
theorem ld_put (n : Nat) (g : Bool) : (Γn n g).lend "put_together" = false := by kernel_rfl
theorem ld_apart (n : Nat) (g : Bool) : (Γn n g).lend "is_apart" = false := by kernel_rfl
theorem ld_pieces (n : Nat) (g : Bool) : (Γn n g).lend "pieces" = false := by kernel_rfl
theorem ld_one (n : Nat) (g : Bool) : (Γn n g).lend "is_one_piece" = false := by kernel_rfl
theorem cq_pieces (n : Nat) (g : Bool) (ws : List W) : P.call (n + 1) g "pieces" ws = runB (Γn n g) 2 6 b_pieces ws := by kernel_rfl
theorem ties_mem (l : List Sy) : ∀ x, x ∈ sortD (dedup (l.map pD)) ↔ x ∈ l.map pD := fun x => by
  unfold sortD
  rw [List.mem_mergeSort]
  refine (dedup_mem (fun x hx y hy e => ?_) fun x hx => ?_).1 x
  · obtain ⟨a, _, rfl⟩ := List.mem_map.mp hx
    obtain ⟨b, _, rfl⟩ := List.mem_map.mp hy
    unfold pD at e ⊢
    rw [tS_eqv, decide_eq_true_eq] at e
    rw [e]
  · obtain ⟨a, _, rfl⟩ := List.mem_map.mp hx
    unfold pD
    rw [tS_eqv]
    exact decide_eq_true rfl
theorem ties_edges (l : List Sy) : ∃ es : List Ed, sortD (dedup (l.map pD)) = es.map eD ∧ ∀ e, e ∈ es ↔ e ∈ edg l := by
  have hm := ties_mem l
  refine ⟨(sortD (dedup (l.map pD))).map ofE, ?_, fun e => ?_⟩
  · rw [List.map_map]
    have : ∀ x, x ∈ sortD (dedup (l.map pD)) → (eD ∘ ofE) x = x := fun x hx => by
      obtain ⟨s, _, rfl⟩ := List.mem_map.mp ((hm x).mp hx)
      show eD (ofE (eD (s.1, s.2.1))) = _
      rw [ofE_eD]
      rfl
    rw [List.map_congr_left (g := id) this, List.map_id]
  · rw [List.mem_map]
    constructor
    · rintro ⟨x, hx, rfl⟩
      obtain ⟨s, hs, rfl⟩ := List.mem_map.mp ((hm x).mp hx)
      show ofE (eD (s.1, s.2.1)) ∈ _
      rw [ofE_eD]
      exact List.mem_map_of_mem (f := fun s : Sy => (s.1, s.2.1)) hs
    · intro he
      obtain ⟨s, hs, rfl⟩ := List.mem_map.mp he
      exact ⟨pD s, (hm _).mpr (List.mem_map_of_mem hs), ofE_eD (s.1, s.2.1)⟩
theorem inLot_edge {lot : List Str} {ss : List Sy} {e : Ed} (h : e ∈ edg (ss.filter (inLot lot))) : e.1 ∈ lot ∧ e.2 ∈ lot := by
  obtain ⟨s, hs, rfl⟩ := List.mem_map.mp h
  have := (List.mem_filter.mp hs).2
  unfold inLot at this
  simp only [Bool.and_eq_true, List.contains_iff_mem] at this
  exact this.1
section
variable {lot : List Str} {ss : List Sy}
abbrev PSt := List (List Str) × Option W × Option W
def pEnv (ss : List Sy) (lot : List Str) (a : PSt) : Mn.Env := [some (.d (.tuple (ss.map sD))), some (.d (tS lot)), some (.own false (a.1.map tS)), a.2.1, a.2.2, none]
def pIn (w : Option W) : Prop := w = none ∨ ∃ x, w = some (W.d x)
theorem single_map (lot : List Str) : (lot.map PyData.str).map (fun x => PyData.tuple [x]) = (lot.map fun x => [x]).map tS := by
  rw [List.map_map, List.map_map]
  rfl
theorem row_set (a : PSt) (h1 : pIn a.2.1) (h2 : pIn a.2.2) (e : Ed) : Tg.set (pEnv ss lot a) (eD e) (.row [3, 4]) = some (pEnv ss lot (a.1, some (.d (.str e.1)), some (.d (.str e.2)))) := by
  obtain ⟨G, p, q⟩ := a
  rcases h1 with h1 | ⟨x, h1⟩ <;> rcases h2 with h2 | ⟨y, h2⟩ <;> (cases h1; cases h2; rfl)
theorem c_pieces (h : LotOk lot) (hs : ss.length < 64) (ho : ∀ s, s ∈ ss → SyOk s) (n : Nat) (g : Bool) :
    ∃ G, By lot (edg (ss.filter (inLot lot))) G ∧ Srt G ∧ P.call (n + 6) g "pieces" [.d (.tuple (ss.map sD)), .d (tS lot)] = .ret (.d (.tuple (sortD (G.map tS)))) none := by
  rw [cq_pieces]
  obtain ⟨es, e1, e2⟩ := ties_edges (ss.filter (inLot lot))
  have l1 : lcLoop (lcTurn (.one 5) (evOc (Γn (n + 5) g) .yes) (evE (Γn (n + 5) g) (.tup (.cons (.var 5) .nil))) [5]) (lot.map .str) [] [some (.d (.tuple (ss.map sD))), some (.d (tS lot)), none, none, none, none] =
      .ok ((lot.map .str).map (fun x => .tuple [x]), [some (.d (.tuple (ss.map sD))), some (.d (tS lot)), none, none, none, none]) := by
    refine lc_map _ (fun x hx => ?_) (by rw [List.length_map]; exact lim6 (lot_len h))
    obtain ⟨a, _, rfl⟩ := List.mem_map.mp hx
    exact turn_yes rfl oc_yes (e_tup (es_cons (e_vd rfl) es_nil) rfl (show 1 ≤ LIM by decide)) rfl
  rw [single_map] at l1
  obtain ⟨a', f1, ⟨es', E', x0, x1, x2, x3, x4, x5, x6⟩⟩ := for_inv (f := fun x ρ => match Tg.set ρ x (.row [3, 4]) with
      | some ρ => evSs (Γn (n + 5) g) (.cons (.set 2 (.call "put_together" (.cons (.var 2) (.cons (.var 3) (.cons (.var 4) .nil))))) (.nil)) ρ
      | none => .stuck) (pEnv ss lot)
    (fun xs a => ∃ (es' E' : List Ed), xs = es'.map eD ∧ (∀ e, e ∈ es' → e.1 ∈ lot ∧ e.2 ∈ lot) ∧ By lot E' a.1 ∧ Srt a.1 ∧ (∀ e, (e ∈ E' ∨ e ∈ es') ↔ e ∈ es) ∧ pIn a.2.1 ∧ pIn a.2.2)
    (xs := sortD (dedup ((ss.filter (inLot lot)).map pD))) (a := ((lot.map fun x => [x]), none, none))
    ⟨es, [], e1, fun e he => inLot_edge ((e2 e).mp he), by_singles h.nod, srt_single lot, fun e => by simp, .inl rfl, .inl rfl⟩
    fun x xs a ⟨es', E', y0, y1, y2, y3, y4, y5, y6⟩ => by
      obtain ⟨G, p, q⟩ := a
      cases es' with
      | nil => cases y0
      | cons e es' =>
        rw [List.map_cons, List.cons.injEq] at y0
        obtain ⟨rfl, rfl⟩ := y0
        obtain ⟨m1, m2⟩ := y1 e List.mem_cons_self
        refine ⟨(putG G e.1 e.2, some (.d (.str e.1)), some (.d (.str e.2))), ?_, es', e :: E', rfl, fun z hz => y1 z (List.mem_cons_of_mem _ hz), y2.put m1 m2, srt_put y3 _ _, fun z => ?_, .inr ⟨_, rfl⟩, .inr ⟨_, rfl⟩⟩
        · show (match Tg.set (pEnv ss lot (G, p, q)) (eD e) (.row [3, 4]) with
            | some ρ => evSs (Γn (n + 5) g) (.cons (.set 2 (.call "put_together" (.cons (.var 2) (.cons (.var 3) (.cons (.var 4) .nil))))) (.nil)) ρ
            | none => .stuck) = _
          rw [row_set _ y5 y6]
          exact ss_nx (s_set (e_p (es_cons (e_vo rfl) (es_cons (e_vd rfl) (es_cons (e_vd rfl) es_nil))) (ld_put _ _) rfl (c_put h y2.part (h.lt _ m1) (h.lt _ m2) (n + 4) g)) rfl) (evSs_nil _ _)
        · rw [← y4 z, List.mem_cons, List.mem_cons]
          constructor
          · rintro ((z | z) | z)
            · exact .inr (.inl z)
            · exact .inl z
            · exact .inr (.inr z)
          · rintro (z | z | z)
            · exact .inl (.inr z)
            · exact .inl (.inl z)
            · exact .inr z
  have x0' : es' = [] := List.map_eq_nil_iff.mp x0.symm
  subst x0'
  obtain ⟨G, p, q⟩ := a'
  have fin : By lot (edg (ss.filter (inLot lot))) G := by_congr x2 fun e => by rw [← e2 e, ← x4 e]; simp
  refine ⟨G, fin, x3, ?_⟩
  refine runB_rt rfl rfl (ss_nx (s_expr (e_p (es_cons (e_vd rfl) es_nil) (ld_check _ _) rfl (c_check h (n + 2) g))) (ss_nx (s_set (e_lc (i_seq (e_vd rfl) rfl rfl) l1) rfl)
    (ss_nx (s_for (i_seq (e_p (es_cons (e_vd rfl) (es_cons (e_vd rfl) es_nil)) (ld_ties _ _) rfl (c_ties h hs ho n g)) rfl rfl) f1)
      (ss_rt (s_ret (e_blt (es_cons (e_blt (r := .fresh (sortD (G.map tS))) (es_cons (e_vo rfl) es_nil) rfl ?_) es_nil) rfl rfl)))))) rfl
  show (if _ then some (R.fresh _) else none) = _
  rw [tSs_sortOk fin.part.ne (lim6 (part_len h fin.part))]
  rfl
end
end K28
set_option Elab.async false
set_option linter.all false
set_option maxRecDepth 100000
set_option maxHeartbeats 4000000
namespace K28
open PySem Mn
theorem by_perm {lot : List Str} {E : List Ed} {G G' : List (List Str)} (h : By lot E G) (h' : By lot E G') : (G.map sortS).Perm (G'.map sortS) := h.part.sorted_eq h'.part (h.same_eq h' fun _ => Iff.rfl)
theorem by_len {lot : List Str} {E : List Ed} {G G' : List (List Str)} (h : By lot E G) (h' : By lot E G') : G.length = G'.length := by
  have := (by_perm h h').length_eq
  rwa [List.length_map, List.length_map] at this
theorem int_eq (k : Nat) (h : k ≤ 64) (j : Nat) (h2 : j ≤ 64) : cmpD .eq (.int k) (.int j) = some (decide (k = j)) := by
  have a : ((List.range 65).all fun k => (List.range 65).all fun j => cmpD .eq (.int (k : Nat)) (.int (j : Nat)) == some (decide (k = j))) = true := by decide +kernel
  have := List.all_eq_true.mp (List.all_eq_true.mp a k (List.mem_range.mpr (by omega))) j (List.mem_range.mpr (by omega))
  exact eq_of_beq this
theorem int_ne (k : Nat) (h : k ≤ 64) (j : Nat) (h2 : j ≤ 64) : cmpD .ne (.int k) (.int j) = some (!decide (k = j)) := by
  have a : ((List.range 65).all fun k => (List.range 65).all fun j => cmpD .ne (.int (k : Nat)) (.int (j : Nat)) == some (!decide (k = j))) = true := by decide +kernel
  have := List.all_eq_true.mp (List.all_eq_true.mp a k (List.mem_range.mpr (by omega))) j (List.mem_range.mpr (by omega))
  exact eq_of_beq this
theorem sortD_len (l : List D) : (sortD l).length = l.length := by
  unfold sortD
  exact List.length_mergeSort l
section
variable {lot : List Str} {ss : List Sy} {G : List (List Str)}
theorem c_pieces2 (h : LotOk lot) (hs : ss.length < 64) (ho : ∀ s, s ∈ ss → SyOk s) (b : By lot (edg (ss.filter (inLot lot))) G) (n : Nat) (g : Bool) :
    P.call (n + 6) g "pieces" [.d (.tuple (ss.map sD)), .d (tS lot)] = .ret (.d (.tuple (sortD ((G.map sortS).map tS)))) none := by
  obtain ⟨G', b', s', e⟩ := c_pieces h hs ho n g
  rw [e]
  congr 3
  have := tSs_sort (by_perm b' b)
  rw [srt_map s'] at this
  exact this
theorem cq_one (n : Nat) (g : Bool) (ws : List W) : P.call (n + 1) g "is_one_piece" ws = runB (Γn n g) 2 2 b_is_one_piece ws := by kernel_rfl
theorem c_one (h : LotOk lot) (hs : ss.length < 64) (ho : ∀ s, s ∈ ss → SyOk s) (b : By lot (edg (ss.filter (inLot lot))) G) (n : Nat) (g : Bool) :
    P.call (n + 7) g "is_one_piece" [.d (.tuple (ss.map sD)), .d (tS lot)] = .ret (.d (.bool (decide (G.length = 1)))) none := by
  rw [cq_one]
  have gl := part_len h b.part
  refine runB_rt rfl rfl (ss_rt (s_ret (e_ofC (c_cmp (e_blt (es_cons (e_p (es_cons (e_vd rfl) (es_cons (e_vd rfl) es_nil)) (ld_pieces _ _) rfl (c_pieces2 h hs ho b n g)) es_nil) rfl rfl) e_int rfl rfl ?_)))) rfl
  rw [sortD_len, List.length_map, List.length_map]
  exact int_eq G.length (by omega) 1 (by decide)
/-! ### tying -/
open Classical in
noncomputable def fnd : List Ed → List Sy → List Sy
  | _, [] => []
  | E, s :: ss => if Conn E s.1 s.2.1 then fnd ((s.1, s.2.1) :: E) ss else s :: fnd ((s.1, s.2.1) :: E) ss
theorem fnd_yes {E : List Ed} {s : Sy} {ss : List Sy} (h : Conn E s.1 s.2.1) : fnd E (s :: ss) = fnd ((s.1, s.2.1) :: E) ss := by
  rw [fnd]
  exact if_pos h
theorem fnd_no {E : List Ed} {s : Sy} {ss : List Sy} (h : ¬ Conn E s.1 s.2.1) : fnd E (s :: ss) = s :: fnd ((s.1, s.2.1) :: E) ss := by
  rw [fnd]
  exact if_neg h
abbrev TSt := Bool × List (List Str) × List Sy × Option W
def grp (b : Bool) (G : List (List Str)) : W := if b then .own false (G.map tS) else .d (.list (G.map tS))
def tEnv (ss : List Sy) (lot : List Str) (a : TSt) : Mn.Env := [some (.d (.tuple (ss.map sD))), some (.d (tS lot)), some (grp a.1 a.2.1), some (.own false (a.2.2.1.map sD)), a.2.2.2, none]
theorem cq_tying (n : Nat) (g : Bool) (ws : List W) : P.call (n + 1) g "tying" ws = runB (Γn n g) 2 6 b_tying ws := by kernel_rfl
theorem set4 (a : TSt) (h : pIn a.2.2.2) (s : Sy) : Tg.set (tEnv ss lot a) (sD s) (.one 4) = some (tEnv ss lot (a.1, a.2.1, a.2.2.1, some (.d (sD s)))) := by
  obtain ⟨b, G, f, p⟩ := a
  cases b <;> rcases h with h | ⟨x, h⟩ <;> (cases h; rfl)
def bodyT : Ss := .cons (.iff (.tru (.call "is_apart" (.cons (.var 2) (.cons (.idx (.var 4) (.int 0)) (.cons (.idx (.var 4) (.int 1)) .nil))))) (.cons (.set 2 (.call "put_together" (.cons (.var 2) (.cons (.idx (.var 4) (.int 0)) (.cons (.idx (.var 4) (.int 1)) .nil))))) (.cons (.expr (.app 3 (.var 4))) (.nil))) (.nil)) (.nil)
theorem turnT (h : LotOk lot) {E : List Ed} (B : By lot E G) {s : Sy} (m1 : s.1 ∈ lot) (m2 : s.2.1 ∈ lot) (b : Bool) (f : List Sy) (fl : f.length < LIM) (n : Nat) (g : Bool) :
    evSs (Γn (n + 1) g) bodyT (tEnv ss lot (b, G, f, some (.d (sD s)))) = .nx (tEnv ss lot (!sameB G s.1 s.2.1, if sameB G s.1 s.2.1 then G else putG G s.1 s.2.1, if sameB G s.1 s.2.1 then f else f ++ [s], some (.d (sD s)))) := by
  have test : evC (Γn (n + 1) g) (.tru (.call "is_apart" (.cons (.var 2) (.cons (.idx (.var 4) (.int 0)) (.cons (.idx (.var 4) (.int 1)) .nil))))) (tEnv ss lot (b, G, f, some (.d (sD s)))) = .ok (!sameB G s.1 s.2.1, tEnv ss lot (false, G, f, some (.d (sD s)))) := by
    have ca := c_apart h B.part (h.lt _ m1) (h.lt _ m2) n g
    cases b
    · exact c_tru (e_p (es_cons (e_vd rfl) (es_cons (e_idx (e_vd rfl) e_int rfl rfl rfl) (es_cons (e_idx (e_vd rfl) e_int rfl rfl rfl) es_nil))) (ld_apart _ _) rfl ca) rfl rfl
    · exact c_tru (e_p (es_cons (e_vo rfl) (es_cons (e_idx (e_vd rfl) e_int rfl rfl rfl) (es_cons (e_idx (e_vd rfl) e_int rfl rfl rfl) es_nil))) (ld_apart _ _) rfl ca) rfl rfl
  refine ss_nx (s_if test ?_) (evSs_nil _ _)
  cases sameB G s.1 s.2.1
  · show evSs _ (.cons _ (.cons _ .nil)) _ = _
    refine ss_nx (s_set (e_p (es_cons (e_vd rfl) (es_cons (e_idx (e_vd rfl) e_int rfl rfl rfl) (es_cons (e_idx (e_vd rfl) e_int rfl rfl rfl) es_nil))) (ld_put _ _) rfl (c_put h B.part (h.lt _ m1) (h.lt _ m2) n g)) rfl) (ss_nx (s_expr (e_app rfl (e_vd rfl) rfl rfl (by rw [List.length_map]; exact fl))) ?_)
    rw [evSs_nil]
    show Fl.nx [some (.d (.tuple (ss.map sD))), some (.d (tS lot)), some (.own false ((putG G s.1 s.2.1).map tS)), some (.own false (f.map sD ++ [sD s])), some (.d (sD s)), none] = Fl.nx [some (.d (.tuple (ss.map sD))), some (.d (tS lot)), some (.own false ((putG G s.1 s.2.1).map tS)), some (.own false ((f ++ [s]).map sD)), some (.d (sD s)), none]
    rw [List.map_append]
    rfl
  · show evSs (Γn (n + 1) g) .nil _ = _
    exact evSs_nil _ _
theorem inLot_mem {s : Sy} (h : s ∈ ss.filter (inLot lot)) : s.1 ∈ lot ∧ s.2.1 ∈ lot := by
  have := (List.mem_filter.mp h).2
  unfold inLot at this
  simp only [Bool.and_eq_true, List.contains_iff_mem] at this
  exact this.1
theorem c_tying (h : LotOk lot) (hs : ss.length < 64) (ho : ∀ s, s ∈ ss → SyOk s) (b : By lot (edg (ss.filter (inLot lot))) G) (n : Nat) (g : Bool) :
    P.call (n + 8) g "tying" [.d (.tuple (ss.map sD)), .d (tS lot)] = if G.length = 1 then .ret (.d (.tuple ((fnd [] (ss.filter (inLot lot))).map sD))) none else .ex "Nothing" := by
  rw [cq_tying]
  have one := c_one h hs ho b n g
  by_cases q : G.length = 1
  · rw [if_pos q]
    rw [decide_eq_true q] at one
    have l1 : lcLoop (lcTurn (.one 5) (evOc (Γn (n + 7) g) .yes) (evE (Γn (n + 7) g) (.tup (.cons (.var 5) .nil))) [5]) (lot.map .str) [] [some (.d (.tuple (ss.map sD))), some (.d (tS lot)), none, none, none, none] =
        .ok ((lot.map .str).map (fun x => .tuple [x]), [some (.d (.tuple (ss.map sD))), some (.d (tS lot)), none, none, none, none]) := by
      refine lc_map _ (fun x hx => ?_) (by rw [List.length_map]; exact lim6 (lot_len h))
      obtain ⟨a, _, rfl⟩ := List.mem_map.mp hx
      exact turn_yes rfl oc_yes (e_tup (es_cons (e_vd rfl) es_nil) rfl (show 1 ≤ LIM by decide)) rfl
    rw [single_map] at l1
    have il : (ss.filter (inLot lot)).length < 64 := Nat.lt_of_le_of_lt (List.length_filter_le _ _) hs
    obtain ⟨a', f1, ⟨rest, E, x0, x1, x2, x3, x4, x5⟩⟩ := for_inv (f := fun x ρ => match Tg.set ρ x (.one 4) with
        | some ρ => evSs (Γn (n + 7) g) bodyT ρ
        | none => .stuck) (tEnv ss lot)
      (fun xs a => ∃ (rest : List Sy) (E : List Ed), xs = rest.map sD ∧ (∀ s, s ∈ rest → s ∈ ss.filter (inLot lot)) ∧ By lot E a.2.1 ∧ a.2.2.1 ++ fnd E rest = fnd [] (ss.filter (inLot lot)) ∧ a.2.2.1.length + rest.length ≤ (ss.filter (inLot lot)).length ∧ pIn a.2.2.2)
      (xs := (ss.filter (inLot lot)).map sD) (a := (true, (lot.map fun x => [x]), [], none))
      ⟨ss.filter (inLot lot), [], rfl, fun _ z => z, by_singles h.nod, rfl, by simp, .inl rfl⟩
      fun x xs a ⟨rest, E, y0, y1, y2, y3, y4, y5⟩ => by
        obtain ⟨bb, G, f, p⟩ := a
        cases rest with
        | nil => cases y0
        | cons s rest =>
          rw [List.map_cons, List.cons.injEq] at y0
          obtain ⟨rfl, rfl⟩ := y0
          obtain ⟨m1, m2⟩ := inLot_mem (y1 s List.mem_cons_self)
          have y4' : f.length + (rest.length + 1) ≤ (ss.filter (inLot lot)).length := y4
          have fl : f.length < LIM := Nat.lt_of_lt_of_le (show f.length < 64 by omega) (by decide)
          have y2' : By lot E G := y2
          have y3' : f ++ fnd E (s :: rest) = fnd [] (ss.filter (inLot lot)) := y3
          refine ⟨(!sameB G s.1 s.2.1, if sameB G s.1 s.2.1 then G else putG G s.1 s.2.1, if sameB G s.1 s.2.1 then f else f ++ [s], some (.d (sD s))), ?_, rest, (s.1, s.2.1) :: E, rfl, fun z hz => y1 z (List.mem_cons_of_mem _ hz), ?_, ?_, ?_, .inr ⟨_, rfl⟩⟩
          · show (match Tg.set (tEnv ss lot (bb, G, f, p)) (sD s) (.one 4) with
              | some ρ => evSs (Γn (n + 7) g) bodyT ρ
              | none => .stuck) = _
            rw [set4 _ y5]
            exact turnT h y2' m1 m2 bb f fl (n + 6) g
          · show By lot _ (if sameB G s.1 s.2.1 then G else putG G s.1 s.2.1)
            cases q : sameB G s.1 s.2.1 with
            | true => exact by_same y2' ((y2'.rel _ _ m1 m2).mp (sameB_iff.mp q))
            | false => exact y2'.put m1 m2
          · show (if sameB G s.1 s.2.1 then f else f ++ [s]) ++ _ = _
            rw [← y3']
            cases q : sameB G s.1 s.2.1 with
            | true =>
              rw [fnd_yes ((y2'.rel _ _ m1 m2).mp (sameB_iff.mp q))]
              rfl
            | false =>
              rw [fnd_no fun c => by
                have := sameB_iff.mpr ((y2'.rel _ _ m1 m2).mpr c)
                rw [q] at this
                cases this]
              exact List.append_assoc f [s] _
          · show (if sameB G s.1 s.2.1 then f else f ++ [s]).length + _ ≤ _
            split
            · omega
            · rw [List.length_append, List.length_singleton]
              omega
    have x0' : rest = [] := List.map_eq_nil_iff.mp x0.symm
    subst x0'
    obtain ⟨bb, G', f, p⟩ := a'
    have x3' : f ++ [] = fnd [] (ss.filter (inLot lot)) := x3
    rw [List.append_nil] at x3'
    rw [← x3']
    exact runB_rt rfl rfl (ss_nx (s_if (c_not (c_tru (e_p (es_cons (e_vd rfl) (es_cons (e_vd rfl) es_nil)) (ld_one _ _) rfl one) rfl rfl)) (show evSs (Γn (n + 7) g) .nil _ = _ from evSs_nil _ _)) (ss_nx (s_set (e_lc (i_seq (e_vd rfl) rfl rfl) l1) rfl) (ss_nx (s_set (e_lst es_nil rfl (show 0 ≤ LIM by decide)) rfl)
      (ss_nx (s_for (i_seq (e_p (es_cons (e_vd rfl) (es_cons (e_vd rfl) es_nil)) (ld_within _ _) rfl (c_within h (Nat.le_trans (Nat.le_of_lt hs) (by decide)) ho (n + 3) g)) rfl rfl) f1)
        (ss_rt (s_ret (e_blt (es_cons (e_vo rfl) es_nil) rfl rfl))))))) rfl
  · rw [if_neg q]
    rw [decide_eq_false q] at one
    exact runB_ex rfl rfl (ss_ex (s_if (c_not (c_tru (e_p (es_cons (e_vd rfl) (es_cons (e_vd rfl) es_nil)) (ld_one _ _) rfl one) rfl rfl)) rfl))
end
end K28
set_option Elab.async false
set_option linter.all false
set_option maxRecDepth 100000
set_option maxHeartbeats 4000000
namespace K28
open PySem Mn
/-! ### the law's own within, pieces, tying -/
def lS (l : List Str) : D := .list (l.map .str)
theorem sh_lS {l : List Str} (h : ∀ a, a ∈ l → a ∈ Lt) : SeqAt.shaped (lS l) = true := by
  simp [SeqAt.shaped, lS, PyData.canLay0, PyData.depth, depth_strs, lay_strs h]
theorem eqv_strs : ∀ a b : List Str, PyData.eqvAll (a.map .str) (b.map .str) = decide (a = b)
  | [], [] => rfl
  | [], _ :: _ => rfl
  | _ :: _, [] => rfl
  | x :: a, y :: b => by
    rw [List.map_cons, List.map_cons, PySem.W.eqv_all_cons, eqv_strs a b]
    have : PyData.eqv (.str x) (.str y) = decide (x = y) := by simp [PyData.eqv]; rfl
    rw [this]
    by_cases h1 : x = y <;> by_cases h2 : a = b <;> simp [h1, h2]
theorem lS_eqv (a b : List Str) : PyData.eqv (lS a) (lS b) = decide (a = b) := eqv_strs a b
theorem in_lS {a : Str} {l : List Str} (ha : a ∈ Lt) (h : ∀ a, a ∈ l → a ∈ Lt) : cmpD .isin (.str a) (lS l) = some (l.contains a) := by
  show (if SeqAt.shaped (.str a) && SeqAt.shaped (lS l) then some ((l.map PyData.str).any fun x => PyData.eqv x (.str a)) else none) = _
  rw [sh_lS h, lt_ok ha, any_strs]
  rfl
theorem ne_lS {a b : List Str} (ha : ∀ x, x ∈ a → x ∈ Lt) (hb : ∀ x, x ∈ b → x ∈ Lt) : cmpD .ne (lS a) (lS b) = some (!decide (a = b)) := by
  show (if SeqAt.shaped (lS a) && SeqAt.shaped (lS b) then some (!PyData.eqv (lS a) (lS b)) else none) = _
  rw [sh_lS ha, sh_lS hb, lS_eqv]
  rfl
theorem sh_two {a b : List Str} (ha : ∀ x, x ∈ a → x ∈ Lt) (hb : ∀ x, x ∈ b → x ∈ Lt) : SeqAt.shaped (.tuple [lS a, lS b]) = true := by
  simp [SeqAt.shaped, lS, PyData.canLay0, PyData.canLayAll0, PyData.depth, PyData.depthAll, depth_strs, lay_strs ha, lay_strs hb]
theorem notin_two {k a b : List Str} (hk : ∀ x, x ∈ k → x ∈ Lt) (ha : ∀ x, x ∈ a → x ∈ Lt) (hb : ∀ x, x ∈ b → x ∈ Lt) : cmpD .notin (lS k) (.tuple [lS a, lS b]) = some (!decide (k = a) && !decide (k = b)) := by
  show (if SeqAt.shaped (lS k) && SeqAt.shaped (.tuple [lS a, lS b]) then some (![lS a, lS b].any fun x => PyData.eqv x (lS k)) else none) = _
  rw [sh_lS hk, sh_two ha hb, List.any_cons, List.any_cons, List.any_nil, lS_eqv, lS_eqv, Bool.or_false, Bool.not_or]
  simp [eq_comm]
theorem cq_lwithin (n : Nat) (g : Bool) (ws : List W) : P.call (n + 1) g "_law_within" ws = runB (Γn n g) 2 4 b_x_law_within ws := by kernel_rfl
theorem ld_lwithin (n : Nat) (g : Bool) : (Γn n g).lend "_law_within" = false := by kernel_rfl
def ofLS : D → List Str
  | .list xs => xs.map fun | .str s => s | _ => ""
  | _ => []
theorem ofLS_lS (l : List Str) : ofLS (lS l) = l := by simp [ofLS, lS, Function.comp_def]
theorem filt_lS (p : List Str → Bool) (G : List (List Str)) : (G.map lS).filter (fun x => p (ofLS x)) = (G.filter p).map lS := by
  rw [List.filter_map]
  congr 1
  congr 1
  funext g
  simp [ofLS_lS]
def nl (lot : List Str) : D → Bool
  | .str a => !lot.contains a
  | _ => false
section
variable {lot : List Str} {ss : List Sy} {G : List (List Str)}
theorem c_lwithin (h : LotOk lot) (hs : ss.length ≤ LIM) (ho : ∀ s, s ∈ ss → SyOk s) (n : Nat) (g : Bool) :
    P.call (n + 1) g "_law_within" [.d (.tuple (ss.map sD)), .d (tS lot)] = .ret (.fresh ((ss.filter (inLot lot)).map sD)) none := by
  rw [cq_lwithin]
  have loop : lcLoop (lcTurn (.one 2) (evOc (Γn n g) (.some (.cmp .eq (.lc (.var 3) (.one 3) (.seq (.var 2)) (.some (.cmp .notin (.var 3) (.var 1))) [3]) (.lst .nil)))) (evE (Γn n g) (.var 2)) [2]) (ss.map sD) [] [some (.d (.tuple (ss.map sD))), some (.d (tS lot)), none, none] =
      .ok ((ss.map sD).filter (fun x => match x with | .tuple [.str a, .str b, .str c] => inLot lot (a, b, c) | _ => false), [some (.d (.tuple (ss.map sD))), some (.d (tS lot)), none, none]) := by
    refine lc_filter _ (fun x hx => ?_) (by simpa using hs)
    obtain ⟨s, hs, rfl⟩ := List.mem_map.mp hx
    obtain ⟨o1, o2, o3⟩ := ho s hs
    have inner : lcLoop (lcTurn (.one 3) (evOc (Γn n g) (.some (.cmp .notin (.var 3) (.var 1)))) (evE (Γn n g) (.var 3)) [3]) ([s.1, s.2.1, s.2.2].map .str) [] [some (.d (.tuple (ss.map sD))), some (.d (tS lot)), some (.d (sD s)), none] =
        .ok (([s.1, s.2.1, s.2.2].map PyData.str).filter (nl lot), [some (.d (.tuple (ss.map sD))), some (.d (tS lot)), some (.d (sD s)), none]) := by
      refine lc_filter _ (fun x hx => ?_) (show 3 ≤ LIM by decide)
      obtain ⟨a, ha, rfl⟩ := List.mem_map.mp hx
      have al : a ∈ Lt := by
        simp only [List.mem_cons, List.not_mem_nil, or_false] at ha
        rcases ha with rfl | rfl | rfl <;> assumption
      have test : evC (Γn n g) (.cmp .notin (.var 3) (.var 1)) [some (.d (.tuple (ss.map sD))), some (.d (tS lot)), some (.d (sD s)), some (.d (.str a))] = .ok (!lot.contains a, [some (.d (.tuple (ss.map sD))), some (.d (tS lot)), some (.d (sD s)), some (.d (.str a))]) := c_cmp (e_vd rfl) (e_vd rfl) rfl rfl (notin_tS al h.lt)
      show _ = Res.ok (if (!lot.contains a) = true then _ else _, _)
      cases q : (!lot.contains a) with
      | true =>
        rw [q] at test
        exact turn_yes rfl (oc_some test) (e_vd rfl) rfl
      | false =>
        rw [q] at test
        exact turn_no rfl (oc_some test)
    have fe : ([s.1, s.2.1, s.2.2].map PyData.str).filter (nl lot) = ([s.1, s.2.1, s.2.2].filter fun a => !lot.contains a).map .str := by
      rw [List.filter_map]
      rfl
    rw [fe] at inner
    have fl : ∀ a, a ∈ ([s.1, s.2.1, s.2.2].filter fun a => !lot.contains a) → a ∈ Lt := fun a ha => by
      have := (List.mem_filter.mp ha).1
      simp only [List.mem_cons, List.not_mem_nil, or_false] at this
      rcases this with rfl | rfl | rfl <;> assumption
    have dec : decide (([s.1, s.2.1, s.2.2].filter fun a => !lot.contains a) = []) = inLot lot s := by
      unfold inLot
      cases q1 : lot.contains s.1 <;> cases q2 : lot.contains s.2.1 <;> cases q3 : lot.contains s.2.2 <;> rw [List.filter_cons, List.filter_cons, List.filter_cons, List.filter_nil, q1, q2, q3] <;> rfl
    have test : evC (Γn n g) (.cmp .eq (.lc (.var 3) (.one 3) (.seq (.var 2)) (.some (.cmp .notin (.var 3) (.var 1))) [3]) (.lst .nil)) [some (.d (.tuple (ss.map sD))), some (.d (tS lot)), some (.d (sD s)), none] = .ok (inLot lot s, [some (.d (.tuple (ss.map sD))), some (.d (tS lot)), some (.d (sD s)), none]) := by
      refine c_cmp (e_lc (i_seq (e_vd rfl) rfl rfl) inner) (e_lst es_nil rfl (show 0 ≤ LIM by decide)) rfl rfl ?_
      show (if SeqAt.shaped (lS _) && SeqAt.shaped (lS []) then some (PyData.eqv (lS _) (lS [])) else none) = _
      rw [sh_lS fl, sh_lS (fun _ z => by cases z), lS_eqv, dec]
      rfl
    show _ = Res.ok (if inLot lot s = true then _ else _, _)
    cases q : inLot lot s with
    | true =>
      rw [q] at test
      exact turn_yes rfl (oc_some test) (e_vd rfl) rfl
    | false =>
      rw [q] at test
      exact turn_no rfl (oc_some test)
  refine runB_rt rfl rfl (ss_rt (s_ret (e_lc (i_seq (e_vd rfl) rfl rfl) loop))) ?_
  show CRes.ret _ none = _
  congr 2
  rw [List.filter_map]
  rfl
/-- the one group of one -/
theorem part_find (p : Part lot G) {a : Str} (ha : a ∈ lot) : ∃ x, (G.filter fun k => k.contains a) = [x] ∧ x ∈ G ∧ a ∈ x := by
  obtain ⟨x, hx, hax⟩ := p.mem.mp ha
  refine ⟨x, List.perm_singleton.mp ((List.perm_ext_iff_of_nodup (p.gs_nodup.filter _) (by simp)).mpr fun k => ?_), hx, hax⟩
  rw [List.mem_filter, List.contains_iff_mem, List.mem_singleton]
  constructor
  · rintro ⟨hk, hak⟩
    exact p.uniq hk hx hak hax
  · rintro rfl
    exact ⟨hx, hax⟩
def lgrp (b : Bool) (G : List (List Str)) : W := if b then .own false (G.map lS) else .d (.list (G.map lS))
abbrev LSt := Bool × List (List Str) × Option (Sy × List Str × List Str)
def lEnv (ss : List Sy) (lot : List Str) : LSt → Mn.Env
  | (b, G, none) => [some (.d (.tuple (ss.map sD))), some (.d (tS lot)), some (lgrp b G), none, none, none, none, none, none, none]
  | (b, G, some (s, x, y)) => [some (.d (.tuple (ss.map sD))), some (.d (tS lot)), some (lgrp b G), some (.d (.str s.1)), some (.d (.str s.2.1)), some (.d (.str s.2.2)), none, some (.d (lS x)), some (.d (lS y)), none]
def bodyL : Ss := .cons (.unp [7, 8] true (.lc (.idx (.lc (.var 9) (.one 9) (.seq (.var 2)) (.some (.cmp .isin (.var 6) (.var 9))) [9]) (.int 0)) (.one 6) (.seq (.tup (.cons (.var 3) (.cons (.var 4) .nil)))) .yes [6])) (.cons (.iff (.cmp .ne (.var 7) (.var 8)) (.cons (.set 2 (.op .add (.lc (.var 9) (.one 9) (.seq (.var 2)) (.some (.cmp .notin (.var 9) (.tup (.cons (.var 7) (.cons (.var 8) .nil))))) [9]) (.lst (.cons (.op .add (.var 7) (.var 8)) .nil)))) (.nil)) (.nil)) (.nil))
/-- the groups of the two -/
theorem turnL (h : LotOk lot) (p : Part lot G) {s : Sy} (m1 : s.1 ∈ lot) (m2 : s.2.1 ∈ lot) {x y : List Str} (ex : (G.filter fun k => k.contains s.1) = [x]) (ey : (G.filter fun k => k.contains s.2.1) = [y]) (hx : x ∈ G) (hy : y ∈ G) (b : Bool) (o : Option (Sy × List Str × List Str)) (n : Nat) (g : Bool) :
    (match Tg.set (lEnv ss lot (b, G, o)) (sD s) (.row [3, 4, 5]) with | some ρ => evSs (Γn n g) bodyL ρ | none => .stuck) = .nx (lEnv ss lot (!decide (x = y), joinG G x y, some (s, x, y))) := by
  have xl := part_lt h p hx
  have yl := part_lt h p hy
  have gl := part_len h p
  -- the slots from 3 on
  have st : ∀ (w7 w8 : Option W), pIn w7 → pIn w8 →
      evSs (Γn n g) bodyL [some (.d (.tuple (ss.map sD))), some (.d (tS lot)), some (lgrp b G), some (.d (.str s.1)), some (.d (.str s.2.1)), some (.d (.str s.2.2)), none, w7, w8, none] = .nx (lEnv ss lot (!decide (x = y), joinG G x y, some (s, x, y))) := by
    intro w7 w8 p7 p8
    have find : ∀ (a : Str) (z : List Str), a ∈ Lt → (G.filter fun k => k.contains a) = [z] → ∀ bb : Bool,
        lcTurn (.one 6) (evOc (Γn n g) .yes) (evE (Γn n g) (.idx (.lc (.var 9) (.one 9) (.seq (.var 2)) (.some (.cmp .isin (.var 6) (.var 9))) [9]) (.int 0))) [6] (.str a) [some (.d (.tuple (ss.map sD))), some (.d (tS lot)), some (lgrp bb G), some (.d (.str s.1)), some (.d (.str s.2.1)), some (.d (.str s.2.2)), none, w7, w8, none] =
          .ok (some (lS z), [some (.d (.tuple (ss.map sD))), some (.d (tS lot)), some (lgrp false G), some (.d (.str s.1)), some (.d (.str s.2.1)), some (.d (.str s.2.2)), none, w7, w8, none]) := by
      intro a z ha ez bb
      have l1 : lcLoop (lcTurn (.one 9) (evOc (Γn n g) (.some (.cmp .isin (.var 6) (.var 9)))) (evE (Γn n g) (.var 9)) [9]) (G.map lS) [] [some (.d (.tuple (ss.map sD))), some (.d (tS lot)), some (lgrp false G), some (.d (.str s.1)), some (.d (.str s.2.1)), some (.d (.str s.2.2)), some (.d (.str a)), w7, w8, none] =
          .ok ((G.map lS).filter (fun x => (ofLS x).contains a), [some (.d (.tuple (ss.map sD))), some (.d (tS lot)), some (lgrp false G), some (.d (.str s.1)), some (.d (.str s.2.1)), some (.d (.str s.2.2)), some (.d (.str a)), w7, w8, none]) := by
        refine lc_filter _ (fun x hx => ?_) (by rw [List.length_map]; exact lim6 gl)
        obtain ⟨k, hk, rfl⟩ := List.mem_map.mp hx
        have kl := part_lt h p hk
        rw [ofLS_lS]
        have test : evC (Γn n g) (.cmp .isin (.var 6) (.var 9)) [some (.d (.tuple (ss.map sD))), some (.d (tS lot)), some (lgrp false G), some (.d (.str s.1)), some (.d (.str s.2.1)), some (.d (.str s.2.2)), some (.d (.str a)), w7, w8, some (.d (lS k))] = .ok (k.contains a, [some (.d (.tuple (ss.map sD))), some (.d (tS lot)), some (lgrp false G), some (.d (.str s.1)), some (.d (.str s.2.1)), some (.d (.str s.2.2)), some (.d (.str a)), w7, w8, some (.d (lS k))]) := c_cmp (e_vd rfl) (e_vd rfl) rfl rfl (in_lS ha kl)
        cases q : k.contains a with
        | true =>
          rw [q] at test
          exact turn_yes rfl (oc_some test) (e_vd rfl) rfl
        | false =>
          rw [q] at test
          exact turn_no rfl (oc_some test)
      rw [filt_lS fun k => k.contains a, ez] at l1
      have r7 : noOwn w7 = w7 := by rcases p7 with p7 | ⟨x, p7⟩ <;> (subst p7; rfl)
      have r8 : noOwn w8 = w8 := by rcases p8 with p8 | ⟨x, p8⟩ <;> (subst p8; rfl)
      cases bb
      · rcases p7 with p7 | ⟨x, p7⟩ <;> rcases p8 with p8 | ⟨x', p8⟩ <;> (subst p7; subst p8; exact turn_yes rfl oc_yes (e_idx (e_lc (i_seq (e_vd rfl) rfl rfl) l1) e_int rfl rfl rfl) rfl)
      · rcases p7 with p7 | ⟨x, p7⟩ <;> rcases p8 with p8 | ⟨x', p8⟩ <;> (subst p7; subst p8; exact turn_yes rfl oc_yes (e_idx (e_lc (i_seq (e_vo rfl) rfl rfl) l1) e_int rfl rfl rfl) rfl)
    have two := lc_two (find s.1 x (h.lt _ m1) ex b) (find s.2.1 y (h.lt _ m2) ey false)
    have u1 : evS (Γn n g) (.unp [7, 8] true (.lc (.idx (.lc (.var 9) (.one 9) (.seq (.var 2)) (.some (.cmp .isin (.var 6) (.var 9))) [9]) (.int 0)) (.one 6) (.seq (.tup (.cons (.var 3) (.cons (.var 4) .nil)))) .yes [6])) [some (.d (.tuple (ss.map sD))), some (.d (tS lot)), some (lgrp b G), some (.d (.str s.1)), some (.d (.str s.2.1)), some (.d (.str s.2.2)), none, w7, w8, none] =
        .nx [some (.d (.tuple (ss.map sD))), some (.d (tS lot)), some (lgrp false G), some (.d (.str s.1)), some (.d (.str s.2.1)), some (.d (.str s.2.2)), none, some (.d (lS x)), some (.d (lS y)), none] := by
      rcases p7 with p7 | ⟨x, p7⟩ <;> rcases p8 with p8 | ⟨x', p8⟩ <;> cases b <;> (subst p7; subst p8; exact s_unp (e_lc (i_seq (e_tup (es_cons (e_vd rfl) (es_cons (e_vd rfl) es_nil)) rfl (show 2 ≤ LIM by decide)) rfl rfl) two) rfl rfl)
    refine ss_nx u1 (ss_nx (s_if (c_cmp (e_vd rfl) (e_vd rfl) rfl rfl (ne_lS xl yl)) ?_) (evSs_nil _ _))
    by_cases q : x = y
    · rw [decide_eq_true q]
      show evSs (Γn n g) .nil _ = _
      rw [evSs_nil]
      unfold joinG
      rw [if_pos q]
      rfl
    · rw [decide_eq_false q]
      have l2 : lcLoop (lcTurn (.one 9) (evOc (Γn n g) (.some (.cmp .notin (.var 9) (.tup (.cons (.var 7) (.cons (.var 8) .nil)))))) (evE (Γn n g) (.var 9)) [9]) (G.map lS) [] [some (.d (.tuple (ss.map sD))), some (.d (tS lot)), some (lgrp false G), some (.d (.str s.1)), some (.d (.str s.2.1)), some (.d (.str s.2.2)), none, some (.d (lS x)), some (.d (lS y)), none] =
          .ok ((G.map lS).filter (fun k => !decide (ofLS k = x) && !decide (ofLS k = y)), [some (.d (.tuple (ss.map sD))), some (.d (tS lot)), some (lgrp false G), some (.d (.str s.1)), some (.d (.str s.2.1)), some (.d (.str s.2.2)), none, some (.d (lS x)), some (.d (lS y)), none]) := by
        refine lc_filter _ (fun z hz => ?_) (by rw [List.length_map]; exact lim6 gl)
        obtain ⟨k, hk, rfl⟩ := List.mem_map.mp hz
        have kl := part_lt h p hk
        rw [ofLS_lS]
        have test : evC (Γn n g) (.cmp .notin (.var 9) (.tup (.cons (.var 7) (.cons (.var 8) .nil)))) [some (.d (.tuple (ss.map sD))), some (.d (tS lot)), some (lgrp false G), some (.d (.str s.1)), some (.d (.str s.2.1)), some (.d (.str s.2.2)), none, some (.d (lS x)), some (.d (lS y)), some (.d (lS k))] = .ok (!decide (k = x) && !decide (k = y), [some (.d (.tuple (ss.map sD))), some (.d (tS lot)), some (lgrp false G), some (.d (.str s.1)), some (.d (.str s.2.1)), some (.d (.str s.2.2)), none, some (.d (lS x)), some (.d (lS y)), some (.d (lS k))]) :=
          c_cmp (e_vd rfl) (e_tup (es_cons (e_vd rfl) (es_cons (e_vd rfl) es_nil)) rfl (show 2 ≤ LIM by decide)) rfl rfl (notin_two kl xl yl)
        cases q : (!decide (k = x) && !decide (k = y)) with
        | true =>
          rw [q] at test
          exact turn_yes rfl (oc_some test) (e_vd rfl) rfl
        | false =>
          rw [q] at test
          exact turn_no rfl (oc_some test)
      rw [filt_lS fun k => !decide (k = x) && !decide (k = y)] at l2
      have xlen : x.length ≤ 6 := Nat.le_trans (List.Sublist.length_le (List.sublist_flatten_of_mem hx)) (part_flen h p)
      have ylen : y.length ≤ 6 := Nat.le_trans (List.Sublist.length_le (List.sublist_flatten_of_mem hy)) (part_flen h p)
      have olen : (G.filter fun k => !decide (k = x) && !decide (k = y)).length ≤ 6 := Nat.le_trans (List.length_filter_le _ _) gl
      have cat : opD .add (lS x) (lS y) = some (.fresh ((x ++ y).map .str)) := by
        show (if (x.map PyData.str).length + (y.map PyData.str).length ≤ LIM then some (R.fresh _) else none) = _
        rw [if_pos (by simp only [List.length_map]; exact Nat.le_trans (Nat.add_le_add xlen ylen) (by decide)), List.map_append]
      show evSs (Γn n g) (.cons _ .nil) _ = _
      refine ss_nx (s_set (e_op (r := .fresh ((joinG G x y).map lS)) (e_lc (i_seq (e_vd rfl) rfl rfl) l2) (e_lst (es_cons (e_op (e_vd rfl) (e_vd rfl) rfl rfl cat) es_nil) rfl (show 1 ≤ LIM by decide)) rfl rfl ?_) rfl) (evSs_nil _ _)
      show (if _ then some (R.fresh _) else none) = _
      unfold joinG
      rw [if_neg q, if_pos (show _ ≤ LIM by simp only [List.length_map]; exact Nat.le_trans (Nat.add_le_add_right olen 1) (by decide)), List.map_append (f := lS)]
      simp only [List.map_cons, List.map_nil, lS, List.map_append]
  cases o with
  | none => cases b <;> exact st none none (.inl rfl) (.inl rfl)
  | some z =>
    obtain ⟨s', x', y'⟩ := z
    cases b <;> exact st _ _ (.inr ⟨_, rfl⟩) (.inr ⟨_, rfl⟩)
end
end K28
set_option Elab.async false
set_option linter.all false
set_option maxRecDepth 100000
set_option maxHeartbeats 4000000
namespace K28
open PySem Mn
theorem ld_lpieces (n : Nat) (g : Bool) : (Γn n g).lend "_law_pieces" = false := by kernel_rfl
theorem cq_lpieces (n : Nat) (g : Bool) (ws : List W) : P.call (n + 1) g "_law_pieces" ws = runB (Γn n g) 2 10 b_x_law_pieces ws := by kernel_rfl
theorem single_lmap (lot : List Str) : (lot.map PyData.str).map (fun x => PyData.list [x]) = (lot.map fun x => [x]).map lS := by
  rw [List.map_map, List.map_map]
  rfl
section
variable {lot : List Str} {ss : List Sy} {G : List (List Str)}
theorem srt_sort (k : List Str) (hk : k.length ≤ LIM) (g : Bool) : bltD g .sorted [lS k] = some (.fresh ((sortS k).map .str)) := by
  show (if sortOk _ then some (R.fresh (sortD _)) else none) = _
  rw [sortOk_strs hk, sortD_strs]
  rfl
theorem mem_len (h : LotOk lot) (p : Part lot G) {x : List Str} (hx : x ∈ G) : x.length ≤ 6 := Nat.le_trans (List.Sublist.length_le (List.sublist_flatten_of_mem hx)) (part_flen h p)
theorem sort_ne {G : List (List Str)} (h : ∀ g, g ∈ G → g ≠ []) : ∀ g, g ∈ G.map sortS → g ≠ [] := fun g hg => by
  obtain ⟨k, hk, rfl⟩ := List.mem_map.mp hg
  intro e
  have := (sortS_perm k).length_eq
  rw [e] at this
  exact h k hk (List.length_eq_zero_iff.mp this.symm)
theorem c_lpieces (h : LotOk lot) (hs : ss.length < 64) (ho : ∀ s, s ∈ ss → SyOk s) (n : Nat) (g : Bool) :
    ∃ G, By lot (edg (ss.filter (inLot lot))) G ∧ P.call (n + 2) g "_law_pieces" [.d (.tuple (ss.map sD)), .d (tS lot)] = .ret (.fresh (sortD ((G.map sortS).map tS))) none := by
  rw [cq_lpieces]
  have l1 : lcLoop (lcTurn (.one 6) (evOc (Γn (n + 1) g) .yes) (evE (Γn (n + 1) g) (.lst (.cons (.var 6) .nil))) [6]) (lot.map .str) [] [some (.d (.tuple (ss.map sD))), some (.d (tS lot)), none, none, none, none, none, none, none, none] =
      .ok ((lot.map .str).map (fun x => .list [x]), [some (.d (.tuple (ss.map sD))), some (.d (tS lot)), none, none, none, none, none, none, none, none]) := by
    refine lc_map _ (fun x hx => ?_) (by rw [List.length_map]; exact lim6 (lot_len h))
    obtain ⟨a, _, rfl⟩ := List.mem_map.mp hx
    exact turn_yes rfl oc_yes (e_lst (es_cons (e_vd rfl) es_nil) rfl (show 1 ≤ LIM by decide)) rfl
  rw [single_lmap] at l1
  obtain ⟨a', f1, ⟨rest, E, x0, x1, x2, x3⟩⟩ := for_inv (f := fun x ρ => match Tg.set ρ x (.row [3, 4, 5]) with
      | some ρ => evSs (Γn (n + 1) g) bodyL ρ
      | none => .stuck) (lEnv ss lot)
    (fun xs a => ∃ (rest : List Sy) (E : List Ed), xs = rest.map sD ∧ (∀ s, s ∈ rest → s ∈ ss.filter (inLot lot)) ∧ By lot E a.2.1 ∧ ∀ e, (e ∈ E ∨ e ∈ edg rest) ↔ e ∈ edg (ss.filter (inLot lot)))
    (xs := (ss.filter (inLot lot)).map sD) (a := (true, (lot.map fun x => [x]), none))
    ⟨ss.filter (inLot lot), [], rfl, fun _ z => z, by_singles h.nod, fun e => by simp⟩
    fun x xs a ⟨rest, E, y0, y1, y2, y3⟩ => by
      obtain ⟨b, G, o⟩ := a
      cases rest with
      | nil => cases y0
      | cons s rest =>
        rw [List.map_cons, List.cons.injEq] at y0
        obtain ⟨rfl, rfl⟩ := y0
        obtain ⟨m1, m2⟩ := inLot_mem (y1 s List.mem_cons_self)
        have y2' : By lot E G := y2
        obtain ⟨u, eu, hu, au⟩ := part_find y2'.part m1
        obtain ⟨v, ev, hv, bv⟩ := part_find y2'.part m2
        refine ⟨(!decide (u = v), joinG G u v, some (s, u, v)), turnL h y2'.part m1 m2 eu ev hu hv b o (n + 1) g, rest, (s.1, s.2.1) :: E, rfl, fun z hz => y1 z (List.mem_cons_of_mem _ hz), y2'.join hu hv au bv, fun z => ?_⟩
        rw [← y3 z]
        show _ ↔ (z ∈ E ∨ z ∈ (s.1, s.2.1) :: edg rest)
        rw [List.mem_cons, List.mem_cons]
        constructor
        · rintro ((z | z) | z)
          · exact .inr (.inl z)
          · exact .inl z
          · exact .inr (.inr z)
        · rintro (z | z | z)
          · exact .inl (.inr z)
          · exact .inl (.inl z)
          · exact .inr z
  have x0' : rest = [] := List.map_eq_nil_iff.mp x0.symm
  subst x0'
  obtain ⟨b, G, o⟩ := a'
  have fin : By lot (edg (ss.filter (inLot lot))) G := by_congr x2 fun e => by rw [← x3 e]; simp [edg]
  refine ⟨G, fin, ?_⟩
  have gl := part_len h fin.part
  have l2 : ∀ ρ : Mn.Env, ρ[9]? = some none → ρ.length = 10 →
      lcLoop (lcTurn (.one 9) (evOc (Γn (n + 1) g) .yes) (evE (Γn (n + 1) g) (.blt .tuple (.cons (.blt .sorted (.cons (.var 9) .nil)) .nil))) [9]) (G.map lS) [] ρ = .ok ((G.map lS).map (fun x => tS (sortS (ofLS x))), ρ) := fun ρ r1 r2 => by
    refine lc_map _ (fun x hx => ?_) (by rw [List.length_map]; exact lim6 gl)
    obtain ⟨k, hk, rfl⟩ := List.mem_map.mp hx
    rw [ofLS_lS]
    match ρ, r1, r2 with
    | [a0, a1, a2, a3, a4, a5, a6, a7, a8, none], _, _ =>
      exact turn_yes rfl oc_yes (e_blt (es_cons (e_blt (es_cons (e_vd rfl) es_nil) rfl (srt_sort k (lim6 (mem_len h fin.part hk)) g)) es_nil) rfl rfl) rfl
  have e : (G.map lS).map (fun x => tS (sortS (ofLS x))) = (G.map sortS).map tS := by
    rw [List.map_map, List.map_map]
    refine List.map_congr_left fun k _ => ?_
    simp only [Function.comp, ofLS_lS]
  simp only [e] at l2
  have so : bltD g .sorted [.list ((G.map sortS).map tS)] = some (.fresh (sortD ((G.map sortS).map tS))) := by
    show (if _ then some (R.fresh _) else none) = _
    rw [tSs_sortOk (sort_ne fin.part.ne) (by rw [List.length_map]; exact lim6 gl)]
    rfl
  have last : ∃ ρ, evS (Γn (n + 1) g) (.ret (.blt .sorted (.cons (.lc (.blt .tuple (.cons (.blt .sorted (.cons (.var 9) .nil)) .nil)) (.one 9) (.seq (.var 2)) .yes [9]) .nil))) (lEnv ss lot (b, G, o)) = .rt (.fresh (sortD ((G.map sortS).map tS))) ρ ∧ endD [.d (.tuple (ss.map sD)), .d (tS lot)] ρ (.fresh (sortD ((G.map sortS).map tS))) = .ret (.fresh (sortD ((G.map sortS).map tS))) none := by
    cases o with
    | none => cases b with
      | false => exact ⟨_, s_ret (e_blt (es_cons (e_lc (i_seq (e_vd rfl) rfl rfl) (l2 _ rfl rfl)) es_nil) rfl so), rfl⟩
      | true => exact ⟨_, s_ret (e_blt (es_cons (e_lc (i_seq (e_vo rfl) rfl rfl) (l2 _ rfl rfl)) es_nil) rfl so), rfl⟩
    | some z =>
      obtain ⟨s, x, y⟩ := z
      cases b with
      | false => exact ⟨_, s_ret (e_blt (es_cons (e_lc (i_seq (e_vd rfl) rfl rfl) (l2 _ rfl rfl)) es_nil) rfl so), rfl⟩
      | true => exact ⟨_, s_ret (e_blt (es_cons (e_lc (i_seq (e_vo rfl) rfl rfl) (l2 _ rfl rfl)) es_nil) rfl so), rfl⟩
  obtain ⟨ρ, r1, r2⟩ := last
  exact runB_rt rfl rfl (ss_nx (s_set (e_lc (i_seq (e_vd rfl) rfl rfl) l1) rfl)
    (ss_nx (s_for (i_seq (e_p (es_cons (e_vd rfl) (es_cons (e_vd rfl) es_nil)) (ld_lwithin _ _) rfl (c_lwithin h (Nat.le_trans (Nat.le_of_lt hs) (by decide)) ho n g)) rfl rfl) f1) (ss_rt r1))) r2
end
end K28
set_option Elab.async false
set_option linter.all false
set_option maxRecDepth 100000
set_option maxHeartbeats 4000000
namespace K28
open PySem Mn
section
variable {lot : List Str} {ss : List Sy} {G : List (List Str)}
abbrev YSt := Bool × List (List Str) × List Sy × Option (Sy × List Str × List Str)
def yEnv (ss : List Sy) (lot : List Str) : YSt → Mn.Env
  | (b, G, f, none) => [some (.d (.tuple (ss.map sD))), some (.d (tS lot)), some (lgrp b G), some (.own false (f.map sD)), none, none, none, none, none, none, none]
  | (b, G, f, some (s, x, y)) => [some (.d (.tuple (ss.map sD))), some (.d (tS lot)), some (lgrp b G), some (.own false (f.map sD)), some (.d (.str s.1)), some (.d (.str s.2.1)), some (.d (.str s.2.2)), some (.d (lS x)), some (.d (lS y)), none, none]
def bodyY : Ss := .cons (.unp [7, 8] true (.lc (.idx (.lc (.var 10) (.one 10) (.seq (.var 2)) (.some (.cmp .isin (.var 9) (.var 10))) [10]) (.int 0)) (.one 9) (.seq (.tup (.cons (.var 4) (.cons (.var 5) .nil)))) .yes [9])) (.cons (.iff (.cmp .ne (.var 7) (.var 8)) (.cons (.set 2 (.op .add (.lc (.var 10) (.one 10) (.seq (.var 2)) (.some (.cmp .notin (.var 10) (.tup (.cons (.var 7) (.cons (.var 8) .nil))))) [10]) (.lst (.cons (.op .add (.var 7) (.var 8)) .nil)))) (.cons (.expr (.app 3 (.tup (.cons (.var 4) (.cons (.var 5) (.cons (.var 6) .nil)))))) (.nil))) (.nil)) (.nil))
/-- the groups of the two -/
theorem turnY (h : LotOk lot) (p : Part lot G) {s : Sy} (m1 : s.1 ∈ lot) (m2 : s.2.1 ∈ lot) {x y : List Str} (ex : (G.filter fun k => k.contains s.1) = [x]) (ey : (G.filter fun k => k.contains s.2.1) = [y]) (hx : x ∈ G) (hy : y ∈ G) (b : Bool) (f : List Sy) (fl : f.length < LIM) (o : Option (Sy × List Str × List Str)) (n : Nat) (g : Bool) :
    (match Tg.set (yEnv ss lot (b, G, f, o)) (sD s) (.row [4, 5, 6]) with | some ρ => evSs (Γn n g) bodyY ρ | none => .stuck) = .nx (yEnv ss lot (!decide (x = y), joinG G x y, if x = y then f else f ++ [s], some (s, x, y))) := by
  have xl := part_lt h p hx
  have yl := part_lt h p hy
  have gl := part_len h p
  -- the slots from 3 on
  have st : ∀ (w7 w8 : Option W), pIn w7 → pIn w8 →
      evSs (Γn n g) bodyY [some (.d (.tuple (ss.map sD))), some (.d (tS lot)), some (lgrp b G), some (.own false (f.map sD)), some (.d (.str s.1)), some (.d (.str s.2.1)), some (.d (.str s.2.2)), w7, w8, none, none] = .nx (yEnv ss lot (!decide (x = y), joinG G x y, if x = y then f else f ++ [s], some (s, x, y))) := by
    intro w7 w8 p7 p8
    have find : ∀ (a : Str) (z : List Str), a ∈ Lt → (G.filter fun k => k.contains a) = [z] → ∀ bb : Bool,
        lcTurn (.one 9) (evOc (Γn n g) .yes) (evE (Γn n g) (.idx (.lc (.var 10) (.one 10) (.seq (.var 2)) (.some (.cmp .isin (.var 9) (.var 10))) [10]) (.int 0))) [9] (.str a) [some (.d (.tuple (ss.map sD))), some (.d (tS lot)), some (lgrp bb G), some (.own false (f.map sD)), some (.d (.str s.1)), some (.d (.str s.2.1)), some (.d (.str s.2.2)), w7, w8, none, none] =
          .ok (some (lS z), [some (.d (.tuple (ss.map sD))), some (.d (tS lot)), some (lgrp false G), some (.own false (f.map sD)), some (.d (.str s.1)), some (.d (.str s.2.1)), some (.d (.str s.2.2)), w7, w8, none, none]) := by
      intro a z ha ez bb
      have l1 : lcLoop (lcTurn (.one 10) (evOc (Γn n g) (.some (.cmp .isin (.var 9) (.var 10)))) (evE (Γn n g) (.var 10)) [10]) (G.map lS) [] [some (.d (.tuple (ss.map sD))), some (.d (tS lot)), some (lgrp false G), some (.own false (f.map sD)), some (.d (.str s.1)), some (.d (.str s.2.1)), some (.d (.str s.2.2)), w7, w8, some (.d (.str a)), none] =
          .ok ((G.map lS).filter (fun x => (ofLS x).contains a), [some (.d (.tuple (ss.map sD))), some (.d (tS lot)), some (lgrp false G), some (.own false (f.map sD)), some (.d (.str s.1)), some (.d (.str s.2.1)), some (.d (.str s.2.2)), w7, w8, some (.d (.str a)), none]) := by
        refine lc_filter _ (fun x hx => ?_) (by rw [List.length_map]; exact lim6 gl)
        obtain ⟨k, hk, rfl⟩ := List.mem_map.mp hx
        have kl := part_lt h p hk
        rw [ofLS_lS]
        have test : evC (Γn n g) (.cmp .isin (.var 9) (.var 10)) [some (.d (.tuple (ss.map sD))), some (.d (tS lot)), some (lgrp false G), some (.own false (f.map sD)), some (.d (.str s.1)), some (.d (.str s.2.1)), some (.d (.str s.2.2)), w7, w8, some (.d (.str a)), some (.d (lS k))] = .ok (k.contains a, [some (.d (.tuple (ss.map sD))), some (.d (tS lot)), some (lgrp false G), some (.own false (f.map sD)), some (.d (.str s.1)), some (.d (.str s.2.1)), some (.d (.str s.2.2)), w7, w8, some (.d (.str a)), some (.d (lS k))]) := c_cmp (e_vd rfl) (e_vd rfl) rfl rfl (in_lS ha kl)
        cases q : k.contains a with
        | true =>
          rw [q] at test
          exact turn_yes rfl (oc_some test) (e_vd rfl) rfl
        | false =>
          rw [q] at test
          exact turn_no rfl (oc_some test)
      rw [filt_lS fun k => k.contains a, ez] at l1
      have r7 : noOwn w7 = w7 := by rcases p7 with p7 | ⟨x, p7⟩ <;> (subst p7; rfl)
      have r8 : noOwn w8 = w8 := by rcases p8 with p8 | ⟨x, p8⟩ <;> (subst p8; rfl)
      cases bb
      · rcases p7 with p7 | ⟨x, p7⟩ <;> rcases p8 with p8 | ⟨x', p8⟩ <;> (subst p7; subst p8; exact turn_yes rfl oc_yes (e_idx (e_lc (i_seq (e_vd rfl) rfl rfl) l1) e_int rfl rfl rfl) rfl)
      · rcases p7 with p7 | ⟨x, p7⟩ <;> rcases p8 with p8 | ⟨x', p8⟩ <;> (subst p7; subst p8; exact turn_yes rfl oc_yes (e_idx (e_lc (i_seq (e_vo rfl) rfl rfl) l1) e_int rfl rfl rfl) rfl)
    have two := lc_two (find s.1 x (h.lt _ m1) ex b) (find s.2.1 y (h.lt _ m2) ey false)
    have u1 : evS (Γn n g) (.unp [7, 8] true (.lc (.idx (.lc (.var 10) (.one 10) (.seq (.var 2)) (.some (.cmp .isin (.var 9) (.var 10))) [10]) (.int 0)) (.one 9) (.seq (.tup (.cons (.var 4) (.cons (.var 5) .nil)))) .yes [9])) [some (.d (.tuple (ss.map sD))), some (.d (tS lot)), some (lgrp b G), some (.own false (f.map sD)), some (.d (.str s.1)), some (.d (.str s.2.1)), some (.d (.str s.2.2)), w7, w8, none, none] =
        .nx [some (.d (.tuple (ss.map sD))), some (.d (tS lot)), some (lgrp false G), some (.own false (f.map sD)), some (.d (.str s.1)), some (.d (.str s.2.1)), some (.d (.str s.2.2)), some (.d (lS x)), some (.d (lS y)), none, none] := by
      rcases p7 with p7 | ⟨x, p7⟩ <;> rcases p8 with p8 | ⟨x', p8⟩ <;> cases b <;> (subst p7; subst p8; exact s_unp (e_lc (i_seq (e_tup (es_cons (e_vd rfl) (es_cons (e_vd rfl) es_nil)) rfl (show 2 ≤ LIM by decide)) rfl rfl) two) rfl rfl)
    refine ss_nx u1 (ss_nx (s_if (c_cmp (e_vd rfl) (e_vd rfl) rfl rfl (ne_lS xl yl)) ?_) (evSs_nil _ _))
    by_cases q : x = y
    · rw [decide_eq_true q]
      show evSs (Γn n g) .nil _ = _
      rw [evSs_nil]
      unfold joinG
      rw [if_pos q, if_pos q]
      rfl
    · rw [decide_eq_false q]
      have l2 : lcLoop (lcTurn (.one 10) (evOc (Γn n g) (.some (.cmp .notin (.var 10) (.tup (.cons (.var 7) (.cons (.var 8) .nil)))))) (evE (Γn n g) (.var 10)) [10]) (G.map lS) [] [some (.d (.tuple (ss.map sD))), some (.d (tS lot)), some (lgrp false G), some (.own false (f.map sD)), some (.d (.str s.1)), some (.d (.str s.2.1)), some (.d (.str s.2.2)), some (.d (lS x)), some (.d (lS y)), none, none] =
          .ok ((G.map lS).filter (fun k => !decide (ofLS k = x) && !decide (ofLS k = y)), [some (.d (.tuple (ss.map sD))), some (.d (tS lot)), some (lgrp false G), some (.own false (f.map sD)), some (.d (.str s.1)), some (.d (.str s.2.1)), some (.d (.str s.2.2)), some (.d (lS x)), some (.d (lS y)), none, none]) := by
        refine lc_filter _ (fun z hz => ?_) (by rw [List.length_map]; exact lim6 gl)
        obtain ⟨k, hk, rfl⟩ := List.mem_map.mp hz
        have kl := part_lt h p hk
        rw [ofLS_lS]
        have test : evC (Γn n g) (.cmp .notin (.var 10) (.tup (.cons (.var 7) (.cons (.var 8) .nil)))) [some (.d (.tuple (ss.map sD))), some (.d (tS lot)), some (lgrp false G), some (.own false (f.map sD)), some (.d (.str s.1)), some (.d (.str s.2.1)), some (.d (.str s.2.2)), some (.d (lS x)), some (.d (lS y)), none, some (.d (lS k))] = .ok (!decide (k = x) && !decide (k = y), [some (.d (.tuple (ss.map sD))), some (.d (tS lot)), some (lgrp false G), some (.own false (f.map sD)), some (.d (.str s.1)), some (.d (.str s.2.1)), some (.d (.str s.2.2)), some (.d (lS x)), some (.d (lS y)), none, some (.d (lS k))]) :=
          c_cmp (e_vd rfl) (e_tup (es_cons (e_vd rfl) (es_cons (e_vd rfl) es_nil)) rfl (show 2 ≤ LIM by decide)) rfl rfl (notin_two kl xl yl)
        cases q : (!decide (k = x) && !decide (k = y)) with
        | true =>
          rw [q] at test
          exact turn_yes rfl (oc_some test) (e_vd rfl) rfl
        | false =>
          rw [q] at test
          exact turn_no rfl (oc_some test)
      rw [filt_lS fun k => !decide (k = x) && !decide (k = y)] at l2
      have xlen : x.length ≤ 6 := Nat.le_trans (List.Sublist.length_le (List.sublist_flatten_of_mem hx)) (part_flen h p)
      have ylen : y.length ≤ 6 := Nat.le_trans (List.Sublist.length_le (List.sublist_flatten_of_mem hy)) (part_flen h p)
      have olen : (G.filter fun k => !decide (k = x) && !decide (k = y)).length ≤ 6 := Nat.le_trans (List.length_filter_le _ _) gl
      have cat : opD .add (lS x) (lS y) = some (.fresh ((x ++ y).map .str)) := by
        show (if (x.map PyData.str).length + (y.map PyData.str).length ≤ LIM then some (R.fresh _) else none) = _
        rw [if_pos (by simp only [List.length_map]; exact Nat.le_trans (Nat.add_le_add xlen ylen) (by decide)), List.map_append]
      have cat2 : opD .add (.list ((G.filter fun k => !decide (k = x) && !decide (k = y)).map lS)) (.list [lS (x ++ y)]) = some (.fresh ((joinG G x y).map lS)) := by
        show (if _ then some (R.fresh _) else none) = _
        unfold joinG
        rw [if_neg q, if_pos (show _ ≤ LIM by simp only [List.length_map]; exact Nat.le_trans (Nat.add_le_add_right olen 1) (by decide)), List.map_append (f := lS)]
        simp only [List.map_cons, List.map_nil]
      show evSs (Γn n g) (.cons _ (.cons _ .nil)) _ = _
      refine ss_nx (s_set (e_op (r := .fresh ((joinG G x y).map lS)) (e_lc (i_seq (e_vd rfl) rfl rfl) l2) (e_lst (es_cons (e_op (e_vd rfl) (e_vd rfl) rfl rfl cat) es_nil) rfl (show 1 ≤ LIM by decide)) rfl rfl cat2) rfl) (ss_nx (s_expr (e_app rfl (e_tup (es_cons (e_vd rfl) (es_cons (e_vd rfl) (es_cons (e_vd rfl) es_nil))) rfl (show 3 ≤ LIM by decide)) rfl rfl (by rw [List.length_map]; exact fl))) ?_)
      rw [evSs_nil, if_neg q]
      show Fl.nx [some (.d (.tuple (ss.map sD))), some (.d (tS lot)), some (.own false ((joinG G x y).map lS)), some (.own false (f.map sD ++ [sD s])), some (.d (.str s.1)), some (.d (.str s.2.1)), some (.d (.str s.2.2)), some (.d (lS x)), some (.d (lS y)), none, none] = Fl.nx [some (.d (.tuple (ss.map sD))), some (.d (tS lot)), some (.own false ((joinG G x y).map lS)), some (.own false ((f ++ [s]).map sD)), some (.d (.str s.1)), some (.d (.str s.2.1)), some (.d (.str s.2.2)), some (.d (lS x)), some (.d (lS y)), none, none]
      rw [List.map_append (f := sD)]
      rfl
  cases o with
  | none => cases b <;> exact st none none (.inl rfl) (.inl rfl)
  | some z =>
    obtain ⟨s', x', y'⟩ := z
    cases b <;> exact st _ _ (.inr ⟨_, rfl⟩) (.inr ⟨_, rfl⟩)
end
end K28
set_option Elab.async false
set_option linter.all false
set_option maxRecDepth 100000
set_option maxHeartbeats 4000000
namespace K28
open PySem Mn
theorem ld_ltying (n : Nat) (g : Bool) : (Γn n g).lend "_law_tying" = false := by kernel_rfl
theorem cq_ltying (n : Nat) (g : Bool) (ws : List W) : P.call (n + 1) g "_law_tying" ws = runB (Γn n g) 2 11 b_x_law_tying ws := by kernel_rfl
section
variable {lot : List Str} {ss : List Sy} {G : List (List Str)}
theorem same_two {E : List Ed} (B : By lot E G) {a b : Str} {u v : List Str} (hu : u ∈ G) (hv : v ∈ G) (au : a ∈ u) (bv : b ∈ v) (ha : a ∈ lot) (hb : b ∈ lot) : u = v ↔ Conn E a b := by
  rw [← B.rel a b ha hb, ← B.part.mem_iff hv bv a]
  constructor
  · rintro rfl
    exact au
  · exact fun z => B.part.uniq hu hv au z
theorem c_ltying (h : LotOk lot) (hs : ss.length < 64) (ho : ∀ s, s ∈ ss → SyOk s) (n : Nat) (g : Bool) :
    P.call (n + 2) g "_law_tying" [.d (.tuple (ss.map sD)), .d (tS lot)] = .ret (.d (.tuple ((fnd [] (ss.filter (inLot lot))).map sD))) none ∧
      ∃ G, By lot (edg (ss.filter (inLot lot))) G ∧ (fnd [] (ss.filter (inLot lot))).length + G.length = lot.length := by
  rw [cq_ltying]
  have l1 : lcLoop (lcTurn (.one 9) (evOc (Γn (n + 1) g) .yes) (evE (Γn (n + 1) g) (.lst (.cons (.var 9) .nil))) [9]) (lot.map .str) [] [some (.d (.tuple (ss.map sD))), some (.d (tS lot)), none, none, none, none, none, none, none, none, none] =
      .ok ((lot.map .str).map (fun x => .list [x]), [some (.d (.tuple (ss.map sD))), some (.d (tS lot)), none, none, none, none, none, none, none, none, none]) := by
    refine lc_map _ (fun x hx => ?_) (by rw [List.length_map]; exact lim6 (lot_len h))
    obtain ⟨a, _, rfl⟩ := List.mem_map.mp hx
    exact turn_yes rfl oc_yes (e_lst (es_cons (e_vd rfl) es_nil) rfl (show 1 ≤ LIM by decide)) rfl
  rw [single_lmap] at l1
  have il : (ss.filter (inLot lot)).length < 64 := Nat.lt_of_le_of_lt (List.length_filter_le _ _) hs
  obtain ⟨a', f1, ⟨rest, E, x0, x1, x2, x3, x4, x5, x6⟩⟩ := for_inv (f := fun x ρ => match Tg.set ρ x (.row [4, 5, 6]) with
      | some ρ => evSs (Γn (n + 1) g) bodyY ρ
      | none => .stuck) (yEnv ss lot)
    (fun xs a => ∃ (rest : List Sy) (E : List Ed), xs = rest.map sD ∧ (∀ s, s ∈ rest → s ∈ ss.filter (inLot lot)) ∧ By lot E a.2.1 ∧ (∀ e, (e ∈ E ∨ e ∈ edg rest) ↔ e ∈ edg (ss.filter (inLot lot))) ∧
      a.2.2.1 ++ fnd E rest = fnd [] (ss.filter (inLot lot)) ∧ a.2.2.1.length + rest.length ≤ (ss.filter (inLot lot)).length ∧ a.2.2.1.length + a.2.1.length = lot.length)
    (xs := (ss.filter (inLot lot)).map sD) (a := (true, (lot.map fun x => [x]), [], none))
    ⟨ss.filter (inLot lot), [], rfl, fun _ z => z, by_singles h.nod, fun e => by simp, rfl, by simp, by simp⟩
    fun x xs a ⟨rest, E, y0, y1, y2, y3, y4, y5, y6⟩ => by
      obtain ⟨b, G, f, o⟩ := a
      cases rest with
      | nil => cases y0
      | cons s rest =>
        rw [List.map_cons, List.cons.injEq] at y0
        obtain ⟨rfl, rfl⟩ := y0
        obtain ⟨m1, m2⟩ := inLot_mem (y1 s List.mem_cons_self)
        have y2' : By lot E G := y2
        have y4' : f ++ fnd E (s :: rest) = fnd [] (ss.filter (inLot lot)) := y4
        have y5' : f.length + (rest.length + 1) ≤ (ss.filter (inLot lot)).length := y5
        have y6' : f.length + G.length = lot.length := y6
        have fl : f.length < LIM := Nat.lt_of_lt_of_le (show f.length < 64 by omega) (by decide)
        obtain ⟨u, eu, hu, au⟩ := part_find y2'.part m1
        obtain ⟨v, ev, hv, bv⟩ := part_find y2'.part m2
        have st := same_two y2' hu hv au bv m1 m2
        refine ⟨(!decide (u = v), joinG G u v, if u = v then f else f ++ [s], some (s, u, v)), turnY h y2'.part m1 m2 eu ev hu hv b f fl o (n + 1) g, rest, (s.1, s.2.1) :: E, rfl, fun z hz => y1 z (List.mem_cons_of_mem _ hz), y2'.join hu hv au bv, fun z => ?_, ?_, ?_, ?_⟩
        · rw [← y3 z]
          show _ ↔ (z ∈ E ∨ z ∈ (s.1, s.2.1) :: edg rest)
          rw [List.mem_cons, List.mem_cons]
          constructor
          · rintro ((z | z) | z)
            · exact .inr (.inl z)
            · exact .inl z
            · exact .inr (.inr z)
          · rintro (z | z | z)
            · exact .inl (.inr z)
            · exact .inl (.inl z)
            · exact .inr z
        · show (if u = v then f else f ++ [s]) ++ _ = _
          rw [← y4']
          by_cases q : u = v
          · rw [if_pos q, fnd_yes (st.mp q)]
          · rw [if_neg q, fnd_no fun c => q (st.mpr c)]
            exact List.append_assoc f [s] _
        · show (if u = v then f else f ++ [s]).length + _ ≤ _
          split
          · omega
          · rw [List.length_append, List.length_singleton]
            omega
        · show (if u = v then f else f ++ [s]).length + (joinG G u v).length = _
          by_cases q : u = v
          · rw [if_pos q]
            unfold joinG
            rw [if_pos q]
            exact y6'
          · have := join_len y2' hu hv q
            rw [if_neg q, List.length_append, List.length_singleton]
            omega
  have x0' : rest = [] := List.map_eq_nil_iff.mp x0.symm
  subst x0'
  obtain ⟨b, G, f, o⟩ := a'
  have x4' : f ++ [] = fnd [] (ss.filter (inLot lot)) := x4
  rw [List.append_nil] at x4'
  have fin : By lot (edg (ss.filter (inLot lot))) G := by_congr x2 fun e => by rw [← x3 e]; simp [edg]
  refine ⟨?_, G, fin, by rw [← x4']; exact x6⟩
  rw [← x4']
  have last : ∃ ρ, evS (Γn (n + 1) g) (.ret (.blt .tuple (.cons (.var 3) .nil))) (yEnv ss lot (b, G, f, o)) = .rt (.d (.tuple (f.map sD))) ρ ∧ endD [.d (.tuple (ss.map sD)), .d (tS lot)] ρ (.d (.tuple (f.map sD))) = .ret (.d (.tuple (f.map sD))) none := by
    cases o with
    | none => exact ⟨_, s_ret (e_blt (es_cons (e_vo rfl) es_nil) rfl rfl), rfl⟩
    | some z =>
      obtain ⟨s, x, y⟩ := z
      exact ⟨_, s_ret (e_blt (es_cons (e_vo rfl) es_nil) rfl rfl), rfl⟩
  obtain ⟨ρ, r1, r2⟩ := last
  exact runB_rt rfl rfl (ss_nx (s_par (e_lc (i_seq (e_vd rfl) rfl rfl) l1) (e_lst es_nil rfl (show 0 ≤ LIM by decide)) (by decide) rfl rfl rfl rfl rfl)
    (ss_nx (s_for (i_seq (e_p (es_cons (e_vd rfl) (es_cons (e_vd rfl) es_nil)) (ld_lwithin _ _) rfl (c_lwithin h (Nat.le_trans (Nat.le_of_lt hs) (by decide)) ho n g)) rfl rfl) f1) (ss_rt r1))) r2
end
end K28
set_option Elab.async false
set_option linter.all false
set_option maxRecDepth 100000
set_option maxHeartbeats 4000000
namespace K28
open PySem Mn
/-! ### draws -/
theorem ld_take (n : Nat) (g : Bool) : (Γn n g).lend "_law_take" = true := by kernel_rfl
theorem cq_take (n : Nat) (g : Bool) (ws : List W) : P.call (n + 1) g "_law_take" ws = runB (Γn n g) 2 7 b_x_law_take ws := by kernel_rfl
def BagOk (bag : List D) : Prop := ∃ (a b c : Int) (cs : List Int), bag = [.int a, .int b, .int c, .list (cs.map .int)] ∧ cs.length ≤ 63
def tkEnv (bag : List D) (m : Int) (w4 w5 : Option W) : Mn.Env := [some (.own true bag), some (.d (.int m)), none, none, w4, w5, none]
def firstS : S := .iff (.cmp .eq (.idx (.var 0) (.int 0)) (.int 0)) (.cons (.set 4 (.idx (.op .add (.slc (.idx (.var 0) (.int 3)) (.some (.idx (.var 0) (.int 2))) .none) (.lst (.cons (.int 0) .nil))) (.int 0))) (.cons (.augX 0 (.int 2) .add (.int 1)) (.cons (.iff (.cmp .ge (.var 4) (.op .pow (.int 10) (.int 18))) (.cons (.setX 0 (.int 0) (.var 4)) (.nil)) (.nil)) (.cons (.set 5 (.op .add (.op .add (.op .mul (.idx (.var 0) (.int 1)) (.int 48271)) (.op .mod (.blt .int (.cons (.var 4) .nil)) (.int 2147483647))) (.op .mul (.int 7919) (.idx (.var 0) (.int 2))))) (.cons (.setX 0 (.int 1) (.op .mod (.blt .int (.cons (.var 5) .nil)) (.int 2147483647))) (.nil)))))) (.nil)
theorem mul_ok {i j : Int} (h : bigOk i j = true) : opD .mul (.int i) (.int j) = some (.d (.int (i * j))) := if_pos h
theorem mod_ok {i j : Int} (h : j ≠ 0) : opD .mod (.int i) (.int j) = some (.d (.int (i.fmod j))) := if_pos h
theorem fdiv_ok {i j : Int} (h : j ≠ 0 ∧ j.natAbs < 1073741824) : opD .fdiv (.int i) (.int j) = some (.d (.int (i.fdiv j))) := if_pos h
theorem pow_ok {i j : Int} (h : 0 ≤ j ∧ j ≤ 1000000 ∧ i.natAbs < 2 ^ 64) : opD .pow (.int i) (.int j) = some (.d (.int (i ^ j.toNat))) := if_pos h
theorem big_r (i : Int) {j : Int} (h : -(2 ^ 64) < j ∧ j < 2 ^ 64) : bigOk i j = true := by
  unfold bigOk
  rw [decide_eq_true h, Bool.or_true]
theorem big_l {i : Int} (j : Int) (h : -(2 ^ 64) < i ∧ i < 2 ^ 64) : bigOk i j = true := by
  unfold bigOk
  rw [decide_eq_true h, Bool.true_or]
theorem c_if {t : Bool} {Γ : Mn.Ctx} {a b : Ss} {ρ : Mn.Env} {p : Mn.Env → Prop} (ha : t = true → ∃ ρ1, evSs Γ a ρ = .nx ρ1 ∧ p ρ1) (hb : t = false → ∃ ρ1, evSs Γ b ρ = .nx ρ1 ∧ p ρ1) : ∃ ρ1, (if t then evSs Γ a ρ else evSs Γ b ρ) = .nx ρ1 ∧ p ρ1 := by
  cases t
  · exact hb rfl
  · exact ha rfl
theorem first_ok {bag : List D} (hb : BagOk bag) (m : Int) (Γ : Mn.Ctx) : ∃ bag' w4 w5, evS Γ firstS (tkEnv bag m none none) = .nx (tkEnv bag' m w4 w5) ∧ BagOk bag' := by
  obtain ⟨a, b, c, cs, rfl, hc⟩ := hb
  by_cases q : a = 0
  · -- the cell
    have cut : ∃ z : Int, idxD (.list (cutL (cs.map PyData.int) (some c) none ++ [.int 0])) (.int 0) = some (.int z) ∧ (cutL (cs.map PyData.int) (some c) none).length ≤ 63 := by
      unfold cutL
      have e : ∃ l : List Int, ((cs.map PyData.int).drop (HT.sIx (cs.map PyData.int).length 0 (some c))).take (HT.sIx (cs.map PyData.int).length (cs.map PyData.int).length none - HT.sIx (cs.map PyData.int).length 0 (some c)) = l.map .int ∧ l.length ≤ 63 := by
        refine ⟨(cs.drop (HT.sIx (cs.map PyData.int).length 0 (some c))).take (HT.sIx (cs.map PyData.int).length (cs.map PyData.int).length none - HT.sIx (cs.map PyData.int).length 0 (some c)), ?_, ?_⟩
        · rw [List.map_take, List.map_drop]
        · rw [List.length_take, List.length_drop]
          omega
      obtain ⟨l, e1, e2⟩ := e
      rw [e1]
      cases l with
      | nil => exact ⟨0, rfl, Nat.zero_le _⟩
      | cons z l => exact ⟨z, by simp [idxD, L2.atI, L2.ixN]; rw [if_pos (by omega)]; rfl, by rw [List.length_map]; exact e2⟩
    obtain ⟨z, cut1, cut2⟩ := cut
    have s1 : evS Γ (.set 4 (.idx (.op .add (.slc (.idx (.var 0) (.int 3)) (.some (.idx (.var 0) (.int 2))) .none) (.lst (.cons (.int 0) .nil))) (.int 0))) (tkEnv [.int a, .int b, .int c, .list (cs.map .int)] m none none) = .nx (tkEnv [.int a, .int b, .int c, .list (cs.map .int)] m (some (.d (.int z))) none) := by
      refine s_set (e_idx (e_op (r := .fresh (cutL (cs.map PyData.int) (some c) none ++ [.int 0])) (e_slc (e_idx (e_vo rfl) e_int rfl rfl rfl) (o_some (e_idx (e_vo rfl) e_int rfl rfl rfl)) o_none rfl rfl) (e_lst (es_cons e_int es_nil) rfl (show 1 ≤ LIM by decide)) rfl rfl ?_) e_int rfl rfl cut1) rfl
      show (if _ then some (R.fresh _) else none) = _
      rw [if_pos (show _ + [PyData.int 0].length ≤ LIM from Nat.le_trans (Nat.add_le_add_right cut2 1) (by decide))]
    have s2 : evS Γ (.augX 0 (.int 2) .add (.int 1)) (tkEnv [.int a, .int b, .int c, .list (cs.map .int)] m (some (.d (.int z))) none) = .nx (tkEnv [.int a, .int b, .int (c + 1), .list (cs.map .int)] m (some (.d (.int z))) none) :=
      s_augX rfl e_int rfl rfl e_int rfl rfl rfl (.inl rfl)
    have s3 : ∃ a', evS Γ (.iff (.cmp .ge (.var 4) (.op .pow (.int 10) (.int 18))) (.cons (.setX 0 (.int 0) (.var 4)) (.nil)) (.nil)) (tkEnv [.int a, .int b, .int (c + 1), .list (cs.map .int)] m (some (.d (.int z))) none) = .nx (tkEnv [.int a', .int b, .int (c + 1), .list (cs.map .int)] m (some (.d (.int z))) none) := by
      have t : evC Γ (.cmp .ge (.var 4) (.op .pow (.int 10) (.int 18))) (tkEnv [.int a, .int b, .int (c + 1), .list (cs.map .int)] m (some (.d (.int z))) none) = .ok (decide ((10 : Int) ^ (18 : Int).toNat ≤ z), tkEnv [.int a, .int b, .int (c + 1), .list (cs.map .int)] m (some (.d (.int z))) none) :=
        c_cmp (e_vd rfl) (e_op e_int e_int rfl rfl (pow_ok (by decide))) rfl rfl rfl
      by_cases w : (10 : Int) ^ (18 : Int).toNat ≤ z
      · rw [decide_eq_true w] at t
        exact ⟨z, s_if t (by rw [if_pos rfl]; exact ss_nx (s_setX (e_vd rfl) rfl rfl e_int rfl rfl) (evSs_nil _ _))⟩
      · rw [decide_eq_false w] at t
        exact ⟨a, s_if t (show evSs Γ .nil _ = _ from evSs_nil _ _)⟩
    obtain ⟨a', s3⟩ := s3
    have s4 : ∃ y, evS Γ (.set 5 (.op .add (.op .add (.op .mul (.idx (.var 0) (.int 1)) (.int 48271)) (.op .mod (.blt .int (.cons (.var 4) .nil)) (.int 2147483647))) (.op .mul (.int 7919) (.idx (.var 0) (.int 2))))) (tkEnv [.int a', .int b, .int (c + 1), .list (cs.map .int)] m (some (.d (.int z))) none) = .nx (tkEnv [.int a', .int b, .int (c + 1), .list (cs.map .int)] m (some (.d (.int z))) (some (.d (.int y)))) :=
      ⟨_, s_set (e_op (e_op (e_op (e_idx (e_vo rfl) e_int rfl rfl rfl) e_int rfl rfl (mul_ok (big_r b (by decide)))) (e_op (e_blt (es_cons (e_vd rfl) es_nil) rfl rfl) e_int rfl rfl (mod_ok (by decide))) rfl rfl rfl) (e_op e_int (e_idx (e_vo rfl) e_int rfl rfl rfl) rfl rfl (mul_ok (big_l _ (by decide)))) rfl rfl rfl) rfl⟩
    obtain ⟨y, s4⟩ := s4
    have s5 : evS Γ (.setX 0 (.int 1) (.op .mod (.blt .int (.cons (.var 5) .nil)) (.int 2147483647))) (tkEnv [.int a', .int b, .int (c + 1), .list (cs.map .int)] m (some (.d (.int z))) (some (.d (.int y)))) = .nx (tkEnv [.int a', .int (y.fmod 2147483647), .int (c + 1), .list (cs.map .int)] m (some (.d (.int z))) (some (.d (.int y)))) :=
      s_setX (e_op (e_blt (es_cons (e_vd rfl) es_nil) rfl rfl) e_int rfl rfl (mod_ok (by decide))) rfl rfl e_int rfl rfl
    have t := c_cmp (Γ := Γ) (o := .eq) (a := .idx (.var 0) (.int 0)) (b := .int 0) (ρ := tkEnv [.int a, .int b, .int c, .list (cs.map .int)] m none none) (e_idx (e_vo rfl) e_int rfl rfl rfl) e_int rfl rfl (int_eqb a 0)
    rw [decide_eq_true q] at t
    exact ⟨_, _, _, s_if t (show evSs Γ (.cons _ (.cons _ (.cons _ (.cons _ (.cons _ .nil))))) _ = _ from ss_nx s1 (ss_nx s2 (ss_nx s3 (ss_nx s4 (ss_nx s5 (evSs_nil _ _)))))), a', _, c + 1, cs, rfl, hc⟩
  · have t := c_cmp (Γ := Γ) (o := .eq) (a := .idx (.var 0) (.int 0)) (b := .int 0) (ρ := tkEnv [.int a, .int b, .int c, .list (cs.map .int)] m none none) (e_idx (e_vo rfl) e_int rfl rfl rfl) e_int rfl rfl (int_eqb a 0)
    rw [decide_eq_false q] at t
    exact ⟨_, none, none, s_if t (show evSs Γ .nil _ = _ from evSs_nil _ _), a, b, c, cs, rfl, hc⟩
theorem fmod_in (i : Int) {m : Int} (h : 0 < m) : 0 ≤ i.fmod m ∧ i.fmod m < m := ⟨Int.fmod_nonneg_of_pos _ h, Int.fmod_lt_of_pos _ h⟩
theorem c_take {bag : List D} (hb : BagOk bag) {m : Int} (h1 : 0 < m) (h2 : m < 1000000) (n : Nat) (g : Bool) :
    ∃ v bag', P.call (n + 1) g "_law_take" [.own true bag, .d (.int m)] = .ret (.d (.int v)) (some bag') ∧ BagOk bag' ∧ 0 ≤ v ∧ v < m := by
  rw [cq_take]
  obtain ⟨bag1, w4, w5, f1, hb1⟩ := first_ok hb m (Γn n g)
  obtain ⟨a, b, c, cs, rfl, hc⟩ := hb1
  have m0 : m ≠ 0 := by omega
  have mb : m.natAbs < 1073741824 := by omega
  have t := c_cmp (Γ := Γn n g) (o := .gt) (a := .idx (.var 0) (.int 0)) (b := .int 0) (ρ := tkEnv [.int a, .int b, .int c, .list (cs.map .int)] m w4 w5) (e_idx (e_vo rfl) e_int rfl rfl rfl) e_int rfl rfl (t := decide (0 < a)) rfl
  by_cases q : 0 < a
  · rw [decide_eq_true q] at t
    refine ⟨a.fmod m, [.int (a.fdiv m), .int b, .int c, .list (cs.map .int)], runB_rt rfl rfl (ss_nx f1 (ss_rt (s_if t (show evSs (Γn n g) (.cons _ (.cons _ (.cons _ .nil))) _ = _ from
      ss_nx (s_set (e_op (e_blt (es_cons (e_idx (e_vo rfl) e_int rfl rfl rfl) es_nil) rfl rfl) (e_vd rfl) rfl rfl (mod_ok m0)) rfl)
      (ss_nx (s_setX (e_op (e_blt (es_cons (e_idx (e_vo rfl) e_int rfl rfl rfl) es_nil) rfl rfl) (e_vd rfl) rfl rfl (fdiv_ok ⟨m0, mb⟩)) rfl rfl e_int rfl rfl) (ss_rt (s_ret (e_vd rfl)))))))) rfl, ⟨_, b, c, cs, rfl, hc⟩, fmod_in a h1⟩
  · rw [decide_eq_false q] at t
    have r1 := fmod_in ((b + 1) * 39373) (show (0 : Int) < 1000000007 by decide)
    have r2 := fmod_in ((((b + 1) * 39373).fmod 1000000007) * (((b + 1) * 39373).fmod 1000000007)) (show (0 : Int) < 998244353 by decide)
    refine ⟨_, [.int a, .int b, .int c, .list (cs.map .int)], runB_rt rfl rfl (ss_nx f1 (ss_nx (s_if t (show evSs (Γn n g) .nil _ = _ from evSs_nil _ _))
      (ss_nx (s_set (e_op (e_blt (es_cons (e_op (e_op (e_idx (e_vo rfl) e_int rfl rfl rfl) e_int rfl rfl rfl) e_int rfl rfl (mul_ok (big_r _ (by decide)))) es_nil) rfl rfl) e_int rfl rfl (mod_ok (by decide))) rfl)
      (ss_nx (s_set (e_op (e_blt (es_cons (e_op (e_op (e_blt (es_cons (e_op (e_vd rfl) (e_vd rfl) rfl rfl (mul_ok (big_r _ (by omega)))) es_nil) rfl rfl) e_int rfl rfl (mod_ok (by decide))) e_int rfl rfl (mul_ok (big_r _ (by decide)))) es_nil) rfl rfl) e_int rfl rfl (mod_ok (by decide))) rfl)
      (ss_rt (s_ret (e_op (e_blt (es_cons (e_op (e_vd rfl) e_int rfl rfl (fdiv_ok (by decide))) es_nil) rfl rfl) (e_vd rfl) rfl rfl (mod_ok m0)))))))) rfl, ⟨a, b, c, cs, rfl, hc⟩, fmod_in _ h1⟩
end K28
set_option Elab.async false
set_option linter.all false
set_option maxRecDepth 100000
set_option maxHeartbeats 4000000
namespace K28
open PySem Mn
theorem ld_bag (n : Nat) (g : Bool) : (Γn n g).lend "_law_bag" = false := by kernel_rfl
theorem ld_some (n : Nat) (g : Bool) : (Γn n g).lend "_law_some" = true := by kernel_rfl
theorem ld_things (n : Nat) (g : Bool) : (Γn n g).lend "_law_things" = true := by kernel_rfl
theorem ld_mixed (n : Nat) (g : Bool) : (Γn n g).lend "_law_mixed" = true := by kernel_rfl
theorem ld_all (n : Nat) (g : Bool) : (Γn n g).lend "_law_all_sayings" = false := by kernel_rfl
theorem ld_alike (n : Nat) (g : Bool) : (Γn n g).lend "_law_alike" = false := by kernel_rfl
theorem cq_bag (n : Nat) (g : Bool) (ws : List W) : P.call (n + 1) g "_law_bag" ws = runB (Γn n g) 1 2 b_x_law_bag ws := by kernel_rfl
theorem cq_some (n : Nat) (g : Bool) (ws : List W) : P.call (n + 1) g "_law_some" ws = runB (Γn n g) 2 2 b_x_law_some ws := by kernel_rfl
theorem cq_things (n : Nat) (g : Bool) (ws : List W) : P.call (n + 1) g "_law_things" ws = runB (Γn n g) 2 2 b_x_law_things ws := by kernel_rfl
theorem cq_mixed (n : Nat) (g : Bool) (ws : List W) : P.call (n + 1) g "_law_mixed" ws = runB (Γn n g) 2 4 b_x_law_mixed ws := by kernel_rfl
theorem cq_alike (n : Nat) (g : Bool) (ws : List W) : P.call (n + 1) g "_law_alike" ws = runB (Γn n g) 2 2 b_x_law_alike ws := by kernel_rfl
def absD : D → D
  | .int i => .int (if i < 0 then -i else i)
  | _ => .none
theorem c_bag (ns : List Int) (n : Nat) (g : Bool) : ∃ bag, P.call (n + 1) g "_law_bag" [.d (.list (ns.map .int))] = .ret (.fresh bag) none ∧ BagOk bag := by
  rw [cq_bag]
  have e : cutL (ns.map PyData.int) none (some 63) = (ns.take 63).map .int := by
    unfold cutL
    have h1 : HT.sIx (ns.map PyData.int).length 0 none = 0 := rfl
    have h2 : HT.sIx (ns.map PyData.int).length (ns.map PyData.int).length (some 63) = min 63 ns.length := by
      rw [List.length_map]
      exact HT.sIx_nat _ _ 63
    rw [h1, h2, List.drop_zero, Nat.sub_zero, List.map_take]
    rw [List.take_eq_take_iff, List.length_map]
    omega
  have tl : (ns.take 63).length ≤ 63 := by rw [List.length_take]; omega
  have l1 : lcLoop (lcTurn (.one 1) (evOc (Γn n g) .yes) (evE (Γn n g) (.blt .abs (.cons (.var 1) .nil))) [1]) ((ns.take 63).map .int) [] [some (.d (.list (ns.map .int))), none] = .ok (((ns.take 63).map .int).map absD, [some (.d (.list (ns.map .int))), none]) := by
    refine lc_map _ (fun x hx => ?_) (by rw [List.length_map]; exact Nat.le_trans tl (by decide))
    obtain ⟨i, _, rfl⟩ := List.mem_map.mp hx
    exact turn_yes rfl oc_yes (e_blt (es_cons (e_vd rfl) es_nil) rfl rfl) rfl
  have e2 : ((ns.take 63).map PyData.int).map absD = ((ns.take 63).map fun i => if i < 0 then -i else i).map .int := by
    rw [List.map_map, List.map_map]
    rfl
  rw [e2, ← e] at l1
  exact ⟨_, runB_rt rfl rfl (ss_rt (s_ret (e_lst (es_cons e_int (es_cons e_int (es_cons e_int (es_cons (e_lc (i_seq (e_slc (e_vd rfl) o_none (o_some e_int) rfl rfl) rfl rfl) l1) es_nil)))) rfl (show 4 ≤ LIM by decide)))) rfl, _, _, _, _, rfl, by rw [List.length_map]; exact tl⟩
theorem at_mem {xs : List D} {v : Int} (h0 : 0 ≤ v) (h1 : v < xs.length) : ∃ x, x ∈ xs ∧ L2.atI xs v = some x := by
  obtain ⟨k, rfl⟩ := Int.eq_ofNat_of_zero_le h0
  have h2 : k < xs.length := by omega
  refine ⟨xs[k], List.getElem_mem h2, ?_⟩
  unfold L2.atI L2.ixN
  simp [h2]
theorem c_some {bag : List D} (hb : BagOk bag) {xs : List D} (h0 : 0 < xs.length) (hl : xs.length < 1000) (n : Nat) (g : Bool) :
    ∃ x bag', P.call (n + 2) g "_law_some" [.own true bag, .d (.list xs)] = .ret (.d x) (some bag') ∧ BagOk bag' ∧ x ∈ xs := by
  rw [cq_some]
  obtain ⟨v, bag', e, hb', v0, v1⟩ := c_take hb (m := xs.length) (by omega) (by omega) n g
  obtain ⟨x, hx, ex⟩ := at_mem v0 v1
  exact ⟨x, bag', runB_rt rfl rfl (ss_rt (s_ret (e_idx (u := .list xs) (v := .int v) (d := x) (e_vd rfl) (e_pl (es_cons (e_vo rfl) (es_cons (e_blt (es_cons (e_vd rfl) es_nil) rfl rfl) es_nil)) (ld_take _ _) rfl rfl rfl e) rfl rfl ex))) rfl, hb', hx⟩
theorem cut_lt : ∀ k : Nat, k ≤ 6 → cutL (Lt.map PyData.str) none (some (k : Int)) = (Lt.take k).map .str := fun k h => by
  have : k = 0 ∨ k = 1 ∨ k = 2 ∨ k = 3 ∨ k = 4 ∨ k = 5 ∨ k = 6 := by omega
  rcases this with rfl | rfl | rfl | rfl | rfl | rfl | rfl <;> rfl
theorem c_things {bag : List D} (hb : BagOk bag) (n : Nat) (g : Bool) :
    ∃ k bag', P.call (n + 2) g "_law_things" [.own true bag, .d (.int 6)] = .ret (.d (tS (Lt.take k))) (some bag') ∧ BagOk bag' ∧ 3 ≤ k ∧ k ≤ 6 := by
  rw [cq_things]
  obtain ⟨v, bag', e, hb', v0, v1⟩ := c_take hb (m := 6 - 2) (by decide) (by decide) n g
  have ek : (3 : Int) + v = ((3 + v.toNat : Nat) : Int) := by omega
  have kl : 3 + v.toNat ≤ 6 := by omega
  refine ⟨3 + v.toNat, bag', runB_rt rfl rfl (ss_rt (s_ret (e_slc (u := .tuple (Lt.map .str)) (r := .d (tS (Lt.take (3 + v.toNat)))) (e_tup (es_cons e_str (es_cons e_str (es_cons e_str (es_cons e_str (es_cons e_str (es_cons e_str es_nil)))))) rfl (show 6 ≤ LIM by decide)) o_none (o_some (e_op e_int (e_pl (es_cons (e_vo rfl) (es_cons (e_op (e_vd rfl) e_int rfl rfl rfl) es_nil)) (ld_take _ _) rfl rfl rfl e) rfl rfl rfl)) rfl ?_))) rfl, hb', by omega, kl⟩
  show some (R.d (.tuple (cutL (Lt.map PyData.str) none (some ((3 : Int) + v))))) = _
  rw [ek, cut_lt _ kl]
  rfl
theorem c_alike {d : D} (h : plainD d = true) (hd : d.depth ≤ 60) (hw : d.weight ≤ 2 ^ 18) (hs : isSeqD d = true) (n : Nat) : P.call (n + 1) true "_law_alike" [.d d, .d d] = .ret (.d (.bool true)) none := by
  rw [cq_alike]
  obtain ⟨r1, r2, r3⟩ := repr_ok h hd hw hs
  exact runB_rt rfl rfl (ss_rt (s_ret (e_andV (e_ofC (c_cmp (e_blt (es_cons (e_vd rfl) es_nil) rfl r1) (e_blt (es_cons (e_vd rfl) es_nil) rfl r1) rfl rfl r2)) (e_ofC (c_cmp (e_vd rfl) (e_vd rfl) rfl rfl r3))))) rfl
/-! ### mixed -/
abbrev MSt := List D × List D × Option W
def mEnv (xs : List D) (a : MSt) : Mn.Env := [some (.own true a.1), some (.d (.list xs)), some (.own false a.2.1), a.2.2]
def bodyM : Ss := .cons (.expr (.ins 2 (.call "_law_take" (.cons (.var 0) (.cons (.op .add (.blt .len (.cons (.var 2) .nil)) (.int 1)) .nil))) (.var 3))) (.nil)
theorem setM (xs : List D) (a : MSt) (h : pIn a.2.2) (x : D) : Tg.set (mEnv xs a) x (.one 3) = some (mEnv xs (a.1, a.2.1, some (.d x))) := by
  obtain ⟨b, f, p⟩ := a
  rcases h with h | ⟨x, h⟩ <;> (cases h; rfl)
theorem turnM {xs : List D} {bag f : List D} (hb : BagOk bag) (hl : f.length < 1000) (x : D) (n : Nat) (g : Bool) : ∃ bag' f', evSs (Γn (n + 1) g) bodyM (mEnv xs (bag, f, some (.d x))) = .nx (mEnv xs (bag', f', some (.d x))) ∧ BagOk bag' ∧ f'.Perm (x :: f) := by
  obtain ⟨v, bag', e, hb', v0, v1⟩ := c_take hb (m := f.length + 1) (by omega) (by omega) n g
  refine ⟨bag', f.take v.toNat ++ [x] ++ f.drop v.toNat, ss_nx (s_expr (e_ins rfl (e_pl (es_cons (e_vo rfl) (es_cons (e_op (e_blt (es_cons (e_vo rfl) es_nil) rfl rfl) e_int rfl rfl rfl) es_nil)) (ld_take _ _) rfl rfl rfl e) (e_vd rfl) rfl rfl ⟨v0, ?_, ?_⟩)) (evSs_nil _ _), hb', ?_⟩
  · have : LIM = 1000000 := rfl
    omega
  · show f.length < LIM
    have : LIM = 1000000 := rfl
    omega
  · have := List.perm_middle (a := x) (l₁ := f.take v.toNat) (l₂ := f.drop v.toNat)
    rw [List.take_append_drop] at this
    rw [List.append_assoc]
    exact this
theorem c_mixed {bag : List D} (hb : BagOk bag) {xs : List D} (hl : xs.length < 1000) (n : Nat) (g : Bool) :
    ∃ ys bag', P.call (n + 2) g "_law_mixed" [.own true bag, .d (.list xs)] = .ret (.fresh ys) (some bag') ∧ BagOk bag' ∧ ys.Perm xs := by
  rw [cq_mixed]
  obtain ⟨a', f1, ⟨x1, x2, x3, x4⟩⟩ := for_inv (f := fun x ρ => match Tg.set ρ x (.one 3) with
      | some ρ => evSs (Γn (n + 1) g) bodyM ρ
      | none => .stuck) (mEnv xs)
    (fun rest a => BagOk a.1 ∧ (rest ++ a.2.1).Perm xs ∧ pIn a.2.2 ∧ a.2.1.length + rest.length = xs.length)
    (xs := xs) (a := (bag, [], none))
    ⟨hb, by rw [List.append_nil], .inl rfl, by simp⟩
    fun x rest a ⟨y1, y2, y3, y4⟩ => by
      obtain ⟨bag, f, p⟩ := a
      have y2' : (x :: rest ++ f).Perm xs := y2
      have y4' : f.length + (rest.length + 1) = xs.length := y4
      obtain ⟨bag', f', e, hb', pm⟩ := turnM (xs := xs) y1 (show f.length < 1000 by omega) x n g
      refine ⟨(bag', f', some (.d x)), ?_, hb', ?_, .inr ⟨_, rfl⟩, ?_⟩
      · show (match Tg.set (mEnv xs (bag, f, p)) x (.one 3) with
          | some ρ => evSs (Γn (n + 1) g) bodyM ρ
          | none => .stuck) = _
        rw [setM xs _ y3]
        exact e
      · exact ((pm.append_left rest).trans List.perm_middle).trans y2'
      · have := pm.length_eq
        show f'.length + _ = _
        rw [this, List.length_cons]
        omega
  obtain ⟨bag', f, p⟩ := a'
  exact ⟨f, bag', runB_rt rfl rfl (ss_nx (s_set (e_lst es_nil rfl (show 0 ≤ LIM by decide)) rfl) (ss_nx (s_for (i_seq (e_vd rfl) rfl rfl) f1) (ss_rt (s_ret (e_vo rfl))))) rfl, x1, x2⟩
end K28
set_option Elab.async false
set_option linter.all false
set_option maxRecDepth 100000
set_option maxHeartbeats 4000000
namespace K28
open PySem Mn
/-! ### all sayings -/
theorem cq_all (n : Nat) (g : Bool) (ws : List W) : P.call (n + 1) g "_law_all_sayings" ws = runB (Γn n g) 1 5 b_x_law_all_sayings ws := by kernel_rfl
abbrev ASt := List Sy × Option W × Option W
def aEnv (th : List Str) (a : ASt) : Mn.Env := [some (.d (tS th)), some (.own false (a.1.map sD)), a.2.1, a.2.2, none]
def extS : S := .expr (.ext 1 (.lc (.tup (.cons (.var 2) (.cons (.var 3) (.cons (.var 4) .nil)))) (.one 4) (.seq (.var 0)) (.some (.and (.cmp .lt (.var 2) (.var 3)) (.cmp .notin (.var 4) (.tup (.cons (.var 2) (.cons (.var 3) .nil)))))) [4]))
def inS : S := .for_ (.one 3) (.seq (.var 0)) (.cons extS (.nil))
theorem lt_strs (a b : Str) : cmpD .lt (.str a) (.str b) = some (PySem.W.dataLt (.str a) (.str b)) := by
  show (if PySem.W.alike (.str a) (.str b) && !isNoneD (.str a) && decide ((PyData.str a).depth ≤ 60) then some (PySem.W.dataLt (.str a) (.str b)) else none) = _
  simp [PySem.W.alike, isNoneD, PyData.depth]
theorem setA3 (th : List Str) (a : ASt) (h : pIn a.2.2) (x : D) : Tg.set (aEnv th a) x (.one 3) = some (aEnv th (a.1, a.2.1, some (.d x))) := by
  obtain ⟨f, p, q⟩ := a
  rcases h with h | ⟨x, h⟩ <;> (cases h; rfl)
theorem setA2 (th : List Str) (a : ASt) (h : pIn a.2.1) (x : D) : Tg.set (aEnv th a) x (.one 2) = some (aEnv th (a.1, some (.d x), a.2.2)) := by
  obtain ⟨f, p, q⟩ := a
  rcases h with h | ⟨x, h⟩ <;> (cases h; rfl)
section
variable {th : List Str}
theorem ext_ok (ht : ∀ a, a ∈ th → a ∈ Lt) (hl : th.length ≤ 6) {fs : List Sy} (ho : ∀ s, s ∈ fs → SyOk s) (fl : fs.length ≤ 1000) {a b : Str} (ha : a ∈ Lt) (hb : b ∈ Lt) (Γ : Mn.Ctx) :
    ∃ fs', evSs Γ (.cons extS .nil) (aEnv th (fs, some (.d (.str a)), some (.d (.str b)))) = .nx (aEnv th (fs', some (.d (.str a)), some (.d (.str b)))) ∧ (∀ s, s ∈ fs' → SyOk s) ∧ fs'.length ≤ fs.length + 6 := by
  have l1 : lcLoop (lcTurn (.one 4) (evOc Γ (.some (.and (.cmp .lt (.var 2) (.var 3)) (.cmp .notin (.var 4) (.tup (.cons (.var 2) (.cons (.var 3) .nil))))))) (evE Γ (.tup (.cons (.var 2) (.cons (.var 3) (.cons (.var 4) .nil))))) [4]) (th.map .str) [] (aEnv th (fs, some (.d (.str a)), some (.d (.str b)))) =
      .ok ([] ++ (th.map PyData.str).filterMap (fun x => if PySem.W.dataLt (.str a) (.str b) && !(match x with | .str c => [a, b].contains c | _ => false) then some (.tuple [.str a, .str b, x]) else none), aEnv th (fs, some (.d (.str a)), some (.d (.str b)))) := by
    refine lc_pure _ (fun x hx => ?_) (by rw [List.length_map]; exact Nat.le_trans (Nat.add_le_add_left hl 0) (by decide))
    obtain ⟨c, hc, rfl⟩ := List.mem_map.mp hx
    have test : evC Γ (.and (.cmp .lt (.var 2) (.var 3)) (.cmp .notin (.var 4) (.tup (.cons (.var 2) (.cons (.var 3) .nil))))) [some (.d (tS th)), some (.own false (fs.map sD)), some (.d (.str a)), some (.d (.str b)), some (.d (.str c))] = .ok (PySem.W.dataLt (.str a) (.str b) && ![a, b].contains c, [some (.d (tS th)), some (.own false (fs.map sD)), some (.d (.str a)), some (.d (.str b)), some (.d (.str c))]) := by
      refine c_and (c_cmp (e_vd rfl) (e_vd rfl) rfl rfl (lt_strs a b)) ?_
      cases PySem.W.dataLt (.str a) (.str b)
      · rfl
      · exact c_cmp (e_vd rfl) (e_tup (es_cons (e_vd rfl) (es_cons (e_vd rfl) es_nil)) rfl (show 2 ≤ LIM by decide)) rfl rfl (notin_tS (l := [a, b]) (ht c hc) fun z hz => by
          simp only [List.mem_cons, List.not_mem_nil, or_false] at hz
          rcases hz with rfl | rfl <;> assumption)
    show _ = Res.ok (if (PySem.W.dataLt (.str a) (.str b) && ![a, b].contains c) = true then _ else _, _)
    cases q : (PySem.W.dataLt (.str a) (.str b) && ![a, b].contains c) with
    | true =>
      rw [q] at test
      exact turn_yes rfl (oc_some test) (e_tup (es_cons (e_vd rfl) (es_cons (e_vd rfl) (es_cons (e_vd rfl) es_nil))) rfl (show 3 ≤ LIM by decide)) rfl
    | false =>
      rw [q] at test
      exact turn_no rfl (oc_some test)
  have e : ∃ ns : List Sy, [] ++ (th.map PyData.str).filterMap (fun x => if PySem.W.dataLt (.str a) (.str b) && !(match x with | .str c => [a, b].contains c | _ => false) then some (.tuple [.str a, .str b, x]) else none) = ns.map sD ∧ (∀ s, s ∈ ns → SyOk s) ∧ ns.length ≤ 6 := by
    refine ⟨th.filterMap fun c => if PySem.W.dataLt (.str a) (.str b) && ![a, b].contains c then some (a, b, c) else none, ?_, fun s hs => ?_, Nat.le_trans (List.length_filterMap_le _ _) hl⟩
    · rw [List.nil_append, List.filterMap_map, List.map_filterMap]
      congr 1
      funext c
      simp only [Function.comp]
      cases (PySem.W.dataLt (.str a) (.str b) && ![a, b].contains c) <;> rfl
    · obtain ⟨c, hc, e⟩ := List.mem_filterMap.mp hs
      split at e
      · cases e
        exact ⟨ha, hb, ht c hc⟩
      · cases e
  obtain ⟨ns, e1, e2, e3⟩ := e
  rw [e1] at l1
  refine ⟨fs ++ ns, ss_nx (s_expr (e_ext (ys := ns.map sD) rfl (e_lc (i_seq (e_vd rfl) rfl rfl) l1) rfl rfl rfl ?_)) ?_, fun s hs => (List.mem_append.mp hs).elim (ho s) (e2 s), ?_⟩
  · rw [List.length_map, List.length_map]
    show fs.length + ns.length ≤ LIM
    have : LIM = 1000000 := rfl
    omega
  · rw [evSs_nil]
    show Fl.nx [some (.d (tS th)), some (.own false (fs.map sD ++ ns.map sD)), some (.d (.str a)), some (.d (.str b)), none] = Fl.nx [some (.d (tS th)), some (.own false ((fs ++ ns).map sD)), some (.d (.str a)), some (.d (.str b)), none]
    rw [List.map_append]
  · rw [List.length_append]
    omega
theorem in_ok (ht : ∀ a, a ∈ th → a ∈ Lt) (hl : th.length ≤ 6) {fs : List Sy} (ho : ∀ s, s ∈ fs → SyOk s) (fl : fs.length ≤ 500) {a : Str} (ha : a ∈ Lt) {q : Option W} (hq : pIn q) (Γ : Mn.Ctx) :
    ∃ fs' q', evSs Γ (.cons inS .nil) (aEnv th (fs, some (.d (.str a)), q)) = .nx (aEnv th (fs', some (.d (.str a)), q')) ∧ (∀ s, s ∈ fs' → SyOk s) ∧ fs'.length ≤ fs.length + 36 ∧ pIn q' := by
  obtain ⟨a', f1, ⟨x1, x2, x3, x4, x5⟩⟩ := for_inv (f := fun x ρ => match Tg.set ρ x (.one 3) with
      | some ρ => evSs Γ (.cons extS .nil) ρ
      | none => .stuck) (aEnv th)
    (fun rest z => (∀ s, s ∈ z.1 → SyOk s) ∧ z.1.length + 6 * rest.length ≤ fs.length + 36 ∧ z.2.1 = some (.d (.str a)) ∧ pIn z.2.2 ∧ ∀ x, x ∈ rest → ∃ b, b ∈ Lt ∧ x = .str b)
    (xs := th.map .str) (a := (fs, some (.d (.str a)), q))
    ⟨ho, by rw [List.length_map]; show fs.length + _ ≤ _; omega, rfl, hq, fun x hx => by
      obtain ⟨b, hb, rfl⟩ := List.mem_map.mp hx
      exact ⟨b, ht b hb, rfl⟩⟩
    fun x rest z ⟨y1, y2, y3, y4, y5⟩ => by
      obtain ⟨f, p, q⟩ := z
      obtain ⟨b, hb, rfl⟩ := y5 x List.mem_cons_self
      cases (show p = some (.d (.str a)) from y3)
      have y2' : f.length + 6 * (rest.length + 1) ≤ fs.length + 36 := y2
      obtain ⟨f', e1, e2, e3⟩ := ext_ok ht hl y1 (show f.length ≤ 1000 by omega) ha hb Γ
      refine ⟨(f', some (.d (.str a)), some (.d (.str b))), ?_, e2, by have e3' : f'.length ≤ f.length + 6 := e3; show f'.length + _ ≤ _; omega, rfl, .inr ⟨_, rfl⟩, fun x hx => y5 x (List.mem_cons_of_mem _ hx)⟩
      show (match Tg.set (aEnv th (f, some (.d (.str a)), q)) (.str b) (.one 3) with
        | some ρ => evSs Γ (.cons extS .nil) ρ
        | none => .stuck) = _
      rw [setA3 th _ y4]
      exact e1
  obtain ⟨f, p, q'⟩ := a'
  cases (show p = some (.d (.str a)) from x3)
  exact ⟨f, q', ss_nx (s_for (i_seq (e_vd rfl) rfl rfl) f1) (evSs_nil _ _), x1, x2, x4⟩
theorem sD_tS (s : Sy) : sD s = tS [s.1, s.2.1, s.2.2] := rfl
theorem sDs_sort {fs : List Sy} (hl : fs.length ≤ LIM) (g : Bool) : ∃ ss : List Sy, bltD g .sorted [.list (fs.map sD)] = some (.fresh (ss.map sD)) ∧ ss.Perm fs := by
  have e : fs.map sD = (fs.map fun s => [s.1, s.2.1, s.2.2]).map tS := by rw [List.map_map]; rfl
  have h1 : sortOk (fs.map sD) = true := by
    rw [e]
    refine tSs_sortOk (fun g hg => ?_) (by rw [List.length_map]; exact hl)
    obtain ⟨s, _, rfl⟩ := List.mem_map.mp hg
    exact List.cons_ne_nil _ _
  obtain ⟨ss, pm, e2⟩ := perm_map_inv (List.mergeSort_perm (fs.map sD) (PySem.W.dataLe false fun d => d)) rfl
  refine ⟨ss, ?_, pm⟩
  show (if _ then some (R.fresh (sortD _)) else none) = _
  rw [h1]
  unfold sortD
  rw [e2]
  rfl
theorem c_all (ht : ∀ a, a ∈ th → a ∈ Lt) (hl : th.length ≤ 6) (n : Nat) (g : Bool) : ∃ ss : List Sy, P.call (n + 1) g "_law_all_sayings" [.d (tS th)] = .ret (.fresh (ss.map sD)) none ∧ (∀ s, s ∈ ss → SyOk s) ∧ ss.length ≤ 216 := by
  rw [cq_all]
  obtain ⟨a', f1, ⟨x1, x2, x3, x4, x5⟩⟩ := for_inv (f := fun x ρ => match Tg.set ρ x (.one 2) with
      | some ρ => evSs (Γn n g) (.cons inS .nil) ρ
      | none => .stuck) (aEnv th)
    (fun rest z => (∀ s, s ∈ z.1 → SyOk s) ∧ z.1.length + 36 * rest.length ≤ 216 ∧ pIn z.2.1 ∧ pIn z.2.2 ∧ ∀ x, x ∈ rest → ∃ b, b ∈ Lt ∧ x = .str b)
    (xs := th.map .str) (a := ([], none, none))
    ⟨(fun _ h => by cases h), by rw [List.length_map]; show 0 + _ ≤ _; omega, .inl rfl, .inl rfl, fun x hx => by
      obtain ⟨b, hb, rfl⟩ := List.mem_map.mp hx
      exact ⟨b, ht b hb, rfl⟩⟩
    fun x rest z ⟨y1, y2, y3, y4, y5⟩ => by
      obtain ⟨f, p, q⟩ := z
      obtain ⟨b, hb, rfl⟩ := y5 x List.mem_cons_self
      have y2' : f.length + 36 * (rest.length + 1) ≤ 216 := y2
      obtain ⟨f', q', e1, e2, e3, e4⟩ := in_ok ht hl y1 (show f.length ≤ 500 by omega) hb y4 (Γn n g)
      refine ⟨(f', some (.d (.str b)), q'), ?_, e2, by have e3' : f'.length ≤ f.length + 36 := e3; show f'.length + _ ≤ _; omega, .inr ⟨_, rfl⟩, e4, fun x hx => y5 x (List.mem_cons_of_mem _ hx)⟩
      show (match Tg.set (aEnv th (f, p, q)) (.str b) (.one 2) with
        | some ρ => evSs (Γn n g) (.cons inS .nil) ρ
        | none => .stuck) = _
      rw [setA2 th _ y3]
      exact e1
  obtain ⟨f, p, q⟩ := a'
  have x2' : f.length ≤ 216 := x2
  obtain ⟨ss, e1, pm⟩ := sDs_sort (fs := f) (Nat.le_trans x2' (by decide)) g
  exact ⟨ss, runB_rt rfl rfl (ss_nx (s_set (e_lst es_nil rfl (show 0 ≤ LIM by decide)) rfl) (ss_nx (s_for (i_seq (e_vd rfl) rfl rfl) f1) (ss_rt (s_ret (e_blt (es_cons (e_vo rfl) es_nil) rfl e1))))) rfl, fun s hs => x1 s (pm.mem_iff.mp hs), by rw [pm.length_eq]; exact x2'⟩
end
end K28
set_option Elab.async false
set_option linter.all false
set_option maxRecDepth 100000
set_option maxHeartbeats 4000000
namespace Mn
open PySem
theorem depthAll_le {c : Nat} : ∀ {xs : List D}, (∀ x, x ∈ xs → x.depth ≤ c) → PyData.depthAll xs ≤ c
  | [], _ => by simp [PyData.depthAll]
  | x :: xs, h => by
    have h1 := h x List.mem_cons_self
    have h2 := depthAll_le fun y hy => h y (List.mem_cons_of_mem _ hy)
    simp only [PyData.depthAll]
    omega
theorem weightAll_le {c : Nat} : ∀ {xs : List D}, (∀ x, x ∈ xs → x.weight ≤ c) → PyData.weightAll xs ≤ xs.length * (c + 1)
  | [], _ => by simp [PyData.weightAll]
  | x :: xs, h => by
    have h1 := h x List.mem_cons_self
    have h2 := weightAll_le fun y hy => h y (List.mem_cons_of_mem _ hy)
    simp only [PyData.weightAll, List.length_cons, Nat.add_mul]
    omega
theorem cut_take {xs : List D} {v : Int} (h : 0 ≤ v) : cutL xs none (some v) = xs.take v.toNat := by
  obtain ⟨k, rfl⟩ := Int.eq_ofNat_of_zero_le h
  unfold cutL
  have h1 : HT.sIx xs.length 0 none = 0 := rfl
  have h2 : HT.sIx xs.length xs.length (some (k : Int)) = min k xs.length := HT.sIx_nat _ _ k
  rw [h1, h2, List.drop_zero, Nat.sub_zero, List.take_eq_take_iff]
  simp
end Mn
namespace K28
open PySem Mn
def LE (ns : D) (bag : List D) (w2 w3 w4 w5 w6 w7 w8 w9 w10 w11 : Option W) : Mn.Env := [some (.d ns), some (.own false bag), w2, w3, w4, w5, w6, w7, w8, w9, w10, w11, none, none]
abbrev Γ8 : Mn.Ctx := Γn 8 true
section
variable {ns : D} {bag : List D} {w2 w3 w4 w5 w6 w7 w8 w9 w10 w11 : Option W}
theorem L1 (hb : BagOk bag) (o : okW w3 = true) : ∃ k bag', evS Γ8 (.set 3 (.call "_law_things" (.cons (.var 1) (.cons (.int 6) .nil)))) (LE ns bag w2 w3 w4 w5 w6 w7 w8 w9 w10 w11) = .nx (LE ns bag' w2 (some (.d (tS (Lt.take k)))) w4 w5 w6 w7 w8 w9 w10 w11) ∧ BagOk bag' ∧ 3 ≤ k ∧ k ≤ 6 := by
  obtain ⟨k, bag', e, hb', k0, k1⟩ := c_things hb 6 true
  exact ⟨k, bag', s_set (e_pl (es_cons (e_vo rfl) (es_cons e_int es_nil)) (ld_things _ _) rfl rfl rfl e) (intoW_d rfl o), hb', k0, k1⟩
theorem L2' (hb : BagOk bag) {th : List Str} (ht : ∀ a, a ∈ th → a ∈ Lt) (hl : th.length ≤ 6) (o : okW w4 = true) : ∃ (ss : List Sy) (bag' : List D), evS Γ8 (.set 4 (.blt .tuple (.cons (.blt .sorted (.cons (.slc (.call "_law_mixed" (.cons (.var 1) (.cons (.call "_law_all_sayings" (.cons (.var 3) .nil)) .nil))) .none (.some (.call "_law_take" (.cons (.var 1) (.cons (.int 9) .nil))))) .nil)) .nil)))
      (LE ns bag w2 (some (.d (tS th))) w4 w5 w6 w7 w8 w9 w10 w11) = .nx (LE ns bag' w2 (some (.d (tS th))) (some (.d (.tuple (ss.map sD)))) w5 w6 w7 w8 w9 w10 w11) ∧ BagOk bag' ∧ (∀ s, s ∈ ss → SyOk s) ∧ ss.length ≤ 8 := by
  obtain ⟨s0, e0, o0, l0⟩ := c_all ht hl 7 true
  obtain ⟨ys, bag1, e1, hb1, pm⟩ := c_mixed hb (xs := s0.map sD) (by rw [List.length_map]; omega) 6 true
  obtain ⟨v, bag2, e2, hb2, v0, v1⟩ := c_take hb1 (m := 9) (by decide) (by decide) 7 true
  obtain ⟨s1, pm1, rfl⟩ := perm_map_inv pm rfl
  have o1 : ∀ s, s ∈ s1.take v.toNat → SyOk s := fun s hs => o0 s (pm1.mem_iff.mp ((List.take_sublist _ _).subset hs))
  have l1 : (s1.take v.toNat).length ≤ 8 := by rw [List.length_take]; omega
  obtain ⟨s2, e3, pm2⟩ := sDs_sort (fs := s1.take v.toNat) (Nat.le_trans l1 (by decide)) true
  refine ⟨s2, bag2, s_set (e_blt (es_cons (e_blt (r := .fresh (s2.map sD)) (es_cons (e_slc (r := .fresh ((s1.map sD).take v.toNat)) (e_pl (es_cons (e_vo rfl) (es_cons (e_p (es_cons (e_vd rfl) es_nil) (ld_all _ _) rfl e0) es_nil)) (ld_mixed _ _) rfl rfl rfl e1) o_none (o_some (e_pl (es_cons (e_vo rfl) (es_cons e_int es_nil)) (ld_take _ _) rfl rfl rfl e2)) rfl ?_) es_nil) rfl ?_) es_nil) rfl rfl) (intoW_d rfl o), hb2, fun s hs => o1 s (pm2.mem_iff.mp hs), by rw [pm2.length_eq]; exact l1⟩
  · show some (R.fresh (cutL (s1.map sD) none (some v))) = _
    rw [cut_take v0]
  · rw [← List.map_take]
    exact e3
theorem back12 {bag' : List D} {x3 : Option W} : backE [12] 0 (LE ns bag w2 x3 w4 w5 w6 w7 w8 w9 w10 w11) (LE ns bag' w2 x3 w4 w5 w6 w7 w8 w9 w10 w11) = LE ns bag' w2 x3 w4 w5 w6 w7 w8 w9 w10 w11 := by
  simp only [LE, backE, back1_self]
  rfl
theorem L3 (hb : BagOk bag) {th : List Str} (hl : th.length ≤ 6) (o : okW w5 = true) : ∃ (l5 : List Str) (bag' : List D), evS Γ8 (.set 5 (.blt .tuple (.cons (.lc (.var 12) (.one 12) (.seq (.var 3)) (.some (.cmp .gt (.call "_law_take" (.cons (.var 1) (.cons (.int 4) .nil))) (.int 0))) [12]) .nil)))
      (LE ns bag w2 (some (.d (tS th))) w4 w5 w6 w7 w8 w9 w10 w11) = .nx (LE ns bag' w2 (some (.d (tS th))) w4 (some (.d (tS l5))) w6 w7 w8 w9 w10 w11) ∧ BagOk bag' ∧ l5.Sublist th := by
  obtain ⟨ys, bag', e, hb', sb⟩ := lc_draw (f := lcTurn (.one 12) (evOc Γ8 (.some (.cmp .gt (.call "_law_take" (.cons (.var 1) (.cons (.int 4) .nil))) (.int 0)))) (evE Γ8 (.var 12)) [12]) (Bg := BagOk) (fun bag => LE ns bag w2 (some (.d (tS th))) w4 w5 w6 w7 w8 w9 w10 w11) (xs := th.map .str) (acc := []) hb (fun x hx bag hb => by
      obtain ⟨v, bag1, e1, hb1, v0, v1⟩ := c_take hb (m := 4) (by decide) (by decide) 7 true
      have test : evC Γ8 (.cmp .gt (.call "_law_take" (.cons (.var 1) (.cons (.int 4) .nil))) (.int 0)) [some (.d ns), some (.own false bag), w2, some (.d (tS th)), w4, w5, w6, w7, w8, w9, w10, w11, some (.d x), none] = .ok (decide (0 < v), [some (.d ns), some (.own false bag1), w2, some (.d (tS th)), w4, w5, w6, w7, w8, w9, w10, w11, some (.d x), none]) :=
        c_cmp (e_pl (es_cons (e_vo rfl) (es_cons e_int es_nil)) (ld_take _ _) rfl rfl rfl e1) e_int rfl rfl rfl
      refine ⟨decide (0 < v), bag1, ?_, hb1⟩
      cases q : decide (0 < v) with
      | true =>
        rw [q] at test
        exact turn_yes rfl (oc_some test) (e_vd rfl) rfl
      | false =>
        rw [q] at test
        exact turn_no rfl (oc_some test)) (by rw [List.length_map]; exact Nat.le_trans (Nat.add_le_add_left hl 0) (by decide))
  obtain ⟨l5, sb5, rfl⟩ := List.sublist_map_iff.mp sb
  exact ⟨l5, bag', s_set (e_blt (es_cons (e_lc (i_seq (e_vd rfl) rfl rfl) e (hb := back12)) es_nil) rfl rfl) (intoW_d rfl o), hb', sb5⟩
theorem L4 (hb : BagOk bag) {th l5 : List Str} (ht : th.Sublist Lt) (h5 : l5.Sublist th) (hn : th ≠ []) (hl : th.length ≤ 6) : ∃ (lot : List Str) (bag' : List D), evS Γ8 (.set 5 (.call "_law_some" (.cons (.var 1) (.cons (.lst (.cons (.var 3) (.cons (.ite (.cmp .ne (.var 5) (.tup .nil)) (.var 5) (.slc (.var 3) .none (.some (.int 1)))) .nil))) .nil))))
      (LE ns bag w2 (some (.d (tS th))) w4 (some (.d (tS l5))) w6 w7 w8 w9 w10 w11) = .nx (LE ns bag' w2 (some (.d (tS th))) w4 (some (.d (tS lot))) w6 w7 w8 w9 w10 w11) ∧ BagOk bag' ∧ LotOk lot := by
  have sub5 : ∀ a, a ∈ l5 → a ∈ Lt := fun a ha => ht.subset (h5.subset ha)
  have test : evC Γ8 (.cmp .ne (.var 5) (.tup .nil)) (LE ns bag w2 (some (.d (tS th))) w4 (some (.d (tS l5))) w6 w7 w8 w9 w10 w11) = .ok (!decide (l5 = []), LE ns bag w2 (some (.d (tS th))) w4 (some (.d (tS l5))) w6 w7 w8 w9 w10 w11) := by
    refine c_cmp (e_vd rfl) (e_tup es_nil rfl (show 0 ≤ LIM by decide)) rfl rfl ?_
    show (if SeqAt.shaped (tS l5) && SeqAt.shaped (tS []) then some (!PyData.eqv (tS l5) (tS [])) else none) = _
    rw [sh_tS sub5, sh_tS (fun _ z => by cases z), tS_eqv]
    rfl
  have two : ∃ l : List Str, LotOk l ∧ evE Γ8 (.ite (.cmp .ne (.var 5) (.tup .nil)) (.var 5) (.slc (.var 3) .none (.some (.int 1)))) (LE ns bag w2 (some (.d (tS th))) w4 (some (.d (tS l5))) w6 w7 w8 w9 w10 w11) = .ok (.d (tS l), LE ns bag w2 (some (.d (tS th))) w4 (some (.d (tS l5))) w6 w7 w8 w9 w10 w11) := by
    by_cases q : l5 = []
    · rw [decide_eq_true q] at test
      refine ⟨th.take 1, ⟨(List.take_sublist _ _).trans ht, ?_⟩, e_ite test ?_⟩
      · cases th with
        | nil => exact absurd rfl hn
        | cons a t => exact List.cons_ne_nil _ _
      · refine e_slc (e_vd rfl) o_none (o_some e_int) rfl ?_
        show some (R.d (.tuple (cutL (th.map PyData.str) none (some 1)))) = _
        rw [cut_take (by decide)]
        unfold tS
        rw [List.map_take]
        rfl
    · rw [decide_eq_false q] at test
      exact ⟨l5, ⟨h5.trans ht, q⟩, e_ite test (by rw [if_pos (by rfl)]; exact e_vd rfl)⟩
  obtain ⟨l, hlo, e2⟩ := two
  obtain ⟨x, bag', e, hb', hx⟩ := c_some hb (xs := [tS th, tS l]) (show 0 < 2 by decide) (show 2 < 1000 by decide) 6 true
  have : ∃ lot, LotOk lot ∧ x = tS lot := by
    simp only [List.mem_cons, List.not_mem_nil, or_false] at hx
    rcases hx with rfl | rfl
    · exact ⟨th, ⟨ht, hn⟩, rfl⟩
    · exact ⟨l, hlo, rfl⟩
  obtain ⟨lot, ok, rfl⟩ := this
  exact ⟨lot, bag', s_set (e_pl (es_cons (e_vo rfl) (es_cons (e_lst (es_cons (e_vd rfl) (es_cons e2 es_nil)) rfl (show 2 ≤ LIM by decide)) es_nil)) (ld_some _ _) rfl rfl rfl e) (intoW_d rfl rfl), hb', ok⟩
end
end K28
set_option Elab.async false
set_option linter.all false
set_option maxRecDepth 100000
set_option maxHeartbeats 4000000
namespace K28
open PySem Mn
def pieD (G : List (List Str)) : List D := sortD ((G.map sortS).map tS)
def XD (inner : List Sy) (G : List (List Str)) : List D := [.tuple (inner.map sD), .tuple (sortD (dedup (inner.map pD))), .tuple (pieD G), .bool (decide (G.length = 1))]
theorem pieD_len (G : List (List Str)) : (pieD G).length = G.length := by
  unfold pieD
  rw [sortD_len, List.length_map, List.length_map]
/-! the data are plain -/
theorem plain_lt {a : Str} (h : a ∈ Lt) : plainD (.str a) = true := by
  have : (Lt.all fun a => plainD (.str a)) = true := by decide +kernel
  exact List.all_eq_true.mp this a h
theorem plain_tS {l : List Str} (h : ∀ a, a ∈ l → a ∈ Lt) : plainD (tS l) = true := by
  unfold tS
  rw [plainD, plainDs_all, List.all_eq_true]
  intro x hx
  obtain ⟨a, ha, rfl⟩ := List.mem_map.mp hx
  exact plain_lt (h a ha)
theorem weight_lt {a : Str} (h : a ∈ Lt) : (PyData.str a).weight ≤ 1 := by
  have : (Lt.all fun a => decide ((PyData.str a).weight ≤ 1)) = true := by decide +kernel
  exact of_decide_eq_true (List.all_eq_true.mp this a h)
theorem weight_tS {l : List Str} (h : ∀ a, a ∈ l → a ∈ Lt) (hl : l.length ≤ 6) : (tS l).weight ≤ 12 := by
  have : PyData.weightAll (l.map .str) ≤ (l.map PyData.str).length * (1 + 1) := weightAll_le fun x hx => by
    obtain ⟨a, ha, rfl⟩ := List.mem_map.mp hx
    exact weight_lt (h a ha)
  rw [List.length_map] at this
  show PyData.weightAll (l.map .str) ≤ 12
  omega
structure Tame (x : D) : Prop where
  pl : plainD x = true
  dep : x.depth ≤ 1
  wt : x.weight ≤ 12
theorem tame_tS {l : List Str} (h : ∀ a, a ∈ l → a ∈ Lt) (hl : l.length ≤ 6) : Tame (tS l) := ⟨plain_tS h, by rw [tS_depth]; exact Nat.le_refl _, weight_tS h hl⟩
theorem tame_sD {s : Sy} (h : SyOk s) : Tame (sD s) := tame_tS (l := [s.1, s.2.1, s.2.2]) (fun a ha => by
  simp only [List.mem_cons, List.not_mem_nil, or_false] at ha
  rcases ha with rfl | rfl | rfl
  · exact h.1
  · exact h.2.1
  · exact h.2.2) (show 3 ≤ 6 by decide)
theorem tame_pD {s : Sy} (h : SyOk s) : Tame (pD s) := tame_tS (l := [s.1, s.2.1]) (fun a ha => by
  simp only [List.mem_cons, List.not_mem_nil, or_false] at ha
  rcases ha with rfl | rfl
  · exact h.1
  · exact h.2.1) (show 2 ≤ 6 by decide)
theorem tame_tup {xs : List D} (h : ∀ x, x ∈ xs → Tame x) (hl : xs.length ≤ 64) : plainD (.tuple xs) = true ∧ (PyData.tuple xs).depth ≤ 2 ∧ (PyData.tuple xs).weight ≤ 832 := by
  refine ⟨?_, ?_, ?_⟩
  · rw [plainD, plainDs_all, List.all_eq_true]
    exact fun x hx => (h x hx).pl
  · have := depthAll_le (xs := xs) fun x hx => (h x hx).dep
    simp only [PyData.depth]
    omega
  · have := weightAll_le (xs := xs) fun x hx => (h x hx).wt
    show PyData.weightAll xs ≤ 832
    omega
theorem dedup_len : ∀ l : List D, (dedup l).length ≤ l.length
  | [] => Nat.le_refl _
  | x :: l => by
    have := dedup_len l
    unfold dedup
    split
    · rw [List.length_cons]; omega
    · rw [List.length_cons, List.length_cons]; omega
theorem XD_ok {lot : List Str} {E : List Ed} {G : List (List Str)} (h : LotOk lot) (b : By lot E G) {inner : List Sy} (ho : ∀ s, s ∈ inner → SyOk s) (hl : inner.length ≤ 8) :
    plainD (.list (XD inner G)) = true ∧ (PyData.list (XD inner G)).depth ≤ 60 ∧ (PyData.list (XD inner G)).weight ≤ 2 ^ 18 := by
  obtain ⟨a1, a2, a3⟩ := tame_tup (xs := inner.map sD) (fun x hx => by
    obtain ⟨s, hs, rfl⟩ := List.mem_map.mp hx
    exact tame_sD (ho s hs)) (by rw [List.length_map]; omega)
  obtain ⟨b1, b2, b3⟩ := tame_tup (xs := sortD (dedup (inner.map pD))) (fun x hx => by
    obtain ⟨s, hs, rfl⟩ := List.mem_map.mp ((ties_mem inner x).mp hx)
    exact tame_pD (ho s hs)) (by
      have := dedup_len (inner.map pD)
      rw [List.length_map] at this
      rw [sortD_len]
      omega)
  obtain ⟨c1, c2, c3⟩ := tame_tup (xs := pieD G) (fun x hx => by
    unfold pieD sortD at hx
    rw [List.mem_mergeSort] at hx
    obtain ⟨k, hk, rfl⟩ := List.mem_map.mp hx
    obtain ⟨k', hk', rfl⟩ := List.mem_map.mp hk
    refine tame_tS (fun a ha => part_lt h b.part hk' a (sortS_mem.mp ha)) ?_
    rw [(sortS_perm k').length_eq]
    exact mem_len h b.part hk') (by rw [pieD_len]; exact Nat.le_trans (part_len h b.part) (by decide))
  refine ⟨?_, ?_, ?_⟩
  · unfold XD
    rw [plainD, plainDs, plainDs, plainDs, plainDs, plainDs, a1, b1, c1]
    rfl
  · unfold XD
    simp only [PyData.depth, PyData.depthAll] at a2 b2 c2 ⊢
    omega
  · unfold XD
    show PyData.weight _ + 1 + (PyData.weight _ + 1 + (PyData.weight _ + 1 + (0 + 1 + 0))) ≤ _
    omega
/-! odd things -/
def Fs : List Str := ["ties", "pieces", "within", "is_one_piece", "tying"]
def odds (ys : List D) : List D := [.none, .tuple [], .list ys, .tuple [.str "b", .str "a"], .tuple [.str "a", .str "a"], .tuple [.str "A"], .tuple [.int 1]]
theorem odd_ties (xs ys : List D) : ∀ x, x ∈ odds ys → P.call 8 false "ties" [.d (.tuple xs), .d x] = .ex "Nothing" := by
  intro x hx
  simp only [odds, List.mem_cons, List.not_mem_nil, or_false] at hx
  rcases hx with rfl | rfl | rfl | rfl | rfl | rfl | rfl <;> kernel_rfl
theorem odd_pieces (xs ys : List D) : ∀ x, x ∈ odds ys → P.call 8 false "pieces" [.d (.tuple xs), .d x] = .ex "Nothing" := by
  intro x hx
  simp only [odds, List.mem_cons, List.not_mem_nil, or_false] at hx
  rcases hx with rfl | rfl | rfl | rfl | rfl | rfl | rfl <;> kernel_rfl
theorem odd_within (xs ys : List D) : ∀ x, x ∈ odds ys → P.call 8 false "within" [.d (.tuple xs), .d x] = .ex "Nothing" := by
  intro x hx
  simp only [odds, List.mem_cons, List.not_mem_nil, or_false] at hx
  rcases hx with rfl | rfl | rfl | rfl | rfl | rfl | rfl <;> kernel_rfl
theorem odd_one (xs ys : List D) : ∀ x, x ∈ odds ys → P.call 8 false "is_one_piece" [.d (.tuple xs), .d x] = .ex "Nothing" := by
  intro x hx
  simp only [odds, List.mem_cons, List.not_mem_nil, or_false] at hx
  rcases hx with rfl | rfl | rfl | rfl | rfl | rfl | rfl <;> kernel_rfl
theorem odd_tying (xs ys : List D) : ∀ x, x ∈ odds ys → P.call 8 false "tying" [.d (.tuple xs), .d x] = .ex "Nothing" := by
  intro x hx
  simp only [odds, List.mem_cons, List.not_mem_nil, or_false] at hx
  rcases hx with rfl | rfl | rfl | rfl | rfl | rfl | rfl <;> kernel_rfl
end K28
set_option Elab.async false
set_option linter.all false
set_option maxRecDepth 100000
set_option maxHeartbeats 4000000
namespace K28
open PySem Mn
theorem told_eq : Γ8.told "_law_heard" = some [(("Nothing" : Str), PyData.tuple [.str "nothing"])] := by kernel_rfl
theorem ld_tying (n : Nat) (g : Bool) : (Γn n g).lend "tying" = false := by kernel_rfl
abbrev inn (ss : List Sy) (lot : List Str) : List Sy := ss.filter (inLot lot)
theorem ne_self {xs : List D} (h : plainD (.tuple xs) = true) (hd : (PyData.tuple xs).depth ≤ 60) : cmpD .ne (.tuple xs) (.tuple xs) = some false := by
  have p := plain_p _ h
  have s : SeqAt.shaped (.tuple xs) = true := by
    simp only [SeqAt.shaped, p.lay, Bool.true_and, decide_eq_true_eq]
    omega
  show (if SeqAt.shaped (.tuple xs) && SeqAt.shaped (.tuple xs) then some (!PyData.eqv (.tuple xs) (.tuple xs)) else none) = _
  rw [s, SeqAt.eqv_refl _ p.lay]
  rfl
section
variable {ns : D} {bag : List D} {w2 w3 w4 w5 w6 w7 w8 w9 w10 w11 : Option W} {lot : List Str} {ss : List Sy} {G : List (List Str)}
theorem L5 (h : LotOk lot) (hs : ss.length < 64) (ho : ∀ s, s ∈ ss → SyOk s) (o : okW w6 = true) : evS Γ8 (.set 6 (.call "_law_within" (.cons (.var 4) (.cons (.var 5) .nil)))) (LE ns bag w2 w3 (some (W.d (PyData.tuple (List.map sD ss)))) (some (W.d (tS lot))) w6 w7 w8 w9 w10 w11) =
    .nx (LE ns bag w2 w3 (some (W.d (PyData.tuple (List.map sD ss)))) (some (W.d (tS lot))) (some (W.own false ((inn ss lot).map sD))) w7 w8 w9 w10 w11) :=
  s_set (e_p (es_cons (e_vd rfl) (es_cons (e_vd rfl) es_nil)) (ld_lwithin _ _) rfl (c_lwithin h (Nat.le_trans (Nat.le_of_lt hs) (by decide)) ho 7 true)) (intoW_f rfl o)
theorem L6 (h : LotOk lot) (hs : ss.length < 64) (ho : ∀ s, s ∈ ss → SyOk s) (o : okW w7 = true) : ∃ G, By lot (edg (inn ss lot)) G ∧ evS Γ8 (.set 7 (.call "_law_pieces" (.cons (.var 4) (.cons (.var 5) .nil)))) (LE ns bag w2 w3 (some (W.d (PyData.tuple (List.map sD ss)))) (some (W.d (tS lot))) (some (W.own false ((inn ss lot).map sD))) w7 w8 w9 w10 w11) =
    .nx (LE ns bag w2 w3 (some (W.d (PyData.tuple (List.map sD ss)))) (some (W.d (tS lot))) (some (W.own false ((inn ss lot).map sD))) (some (W.own false (pieD G))) w8 w9 w10 w11) := by
  obtain ⟨G, b, e⟩ := c_lpieces h hs ho 6 true
  exact ⟨G, b, s_set (e_p (es_cons (e_vd rfl) (es_cons (e_vd rfl) es_nil)) (ld_lpieces _ _) rfl e) (intoW_f rfl o)⟩
theorem L7 (h : LotOk lot) (hs : ss.length < 64) (ho : ∀ s, s ∈ ss → SyOk s) (b : By lot (edg (inn ss lot)) G) (o : okW w8 = true) : evS Γ8 (.set 8 (.lst (.cons (.call "within" (.cons (.var 4) (.cons (.var 5) .nil))) (.cons (.call "ties" (.cons (.var 4) (.cons (.var 5) .nil))) (.cons (.call "pieces" (.cons (.var 4) (.cons (.var 5) .nil))) (.cons (.call "is_one_piece" (.cons (.var 4) (.cons (.var 5) .nil))) .nil)))))) (LE ns bag w2 w3 (some (W.d (PyData.tuple (List.map sD ss)))) (some (W.d (tS lot))) (some (W.own false ((inn ss lot).map sD))) (some (W.own false (pieD G))) w8 w9 w10 w11) =
    .nx (LE ns bag w2 w3 (some (W.d (PyData.tuple (List.map sD ss)))) (some (W.d (tS lot))) (some (W.own false ((inn ss lot).map sD))) (some (W.own false (pieD G))) (some (W.own false (XD (inn ss lot) G))) w9 w10 w11) :=
  s_set (e_lst (xs := XD (inn ss lot) G) (es_cons (e_p (es_cons (e_vd rfl) (es_cons (e_vd rfl) es_nil)) (ld_within _ _) rfl (c_within h (Nat.le_trans (Nat.le_of_lt hs) (by decide)) ho 4 true))
    (es_cons (e_p (es_cons (e_vd rfl) (es_cons (e_vd rfl) es_nil)) (ld_ties _ _) rfl (c_ties h hs ho 3 true))
    (es_cons (e_p (es_cons (e_vd rfl) (es_cons (e_vd rfl) es_nil)) (ld_pieces _ _) rfl (c_pieces2 h hs ho b 2 true))
    (es_cons (e_p (es_cons (e_vd rfl) (es_cons (e_vd rfl) es_nil)) (ld_one _ _) rfl (c_one h hs ho b 1 true)) es_nil)))) rfl (show 4 ≤ LIM by decide)) (intoW_f rfl o)
theorem back13 {x4 x5 x6 x7 x8 : Option W} : backE [13] 0 (LE ns bag w2 w3 x4 x5 x6 x7 x8 w9 w10 w11) (LE ns bag w2 w3 x4 x5 x6 x7 x8 w9 w10 w11) = LE ns bag w2 w3 x4 x5 x6 x7 x8 w9 w10 w11 := by
  simp only [LE, backE, back1_self]
  rfl
theorem lenP (G : List (List Str)) : cmpD .eq (.int ((pieD G).length : Nat)) (.int 1) = some (decide (G.length = 1)) := by
  rw [int_eqb, pieD_len]
  congr 1
  exact decide_eq_decide.mpr ⟨fun z => by omega, fun z => by omega⟩
theorem L8 (h : LotOk lot) (hs : ss.length < 64) (ho : ∀ s, s ∈ ss → SyOk s) (hl : ss.length ≤ 8) (b : By lot (edg (inn ss lot)) G) : evS Γ8 (.iff (.not (.tru (.call "_law_alike" (.cons (.var 8) (.cons (.lst (.cons (.blt .tuple (.cons (.var 6) .nil)) (.cons (.blt .tuple (.cons (.blt .sset (.cons (.lc (.slc (.var 13) .none (.some (.int 2))) (.one 13) (.seq (.var 6)) .yes [13]) .nil)) .nil)) (.cons (.blt .tuple (.cons (.var 7) .nil)) (.cons (.ofC (.cmp .eq (.blt .len (.cons (.var 7) .nil)) (.int 1))) .nil))))) .nil))))) (.cons (.ret (.bl false)) (.nil)) (.nil)) (LE ns bag w2 w3 (some (W.d (PyData.tuple (List.map sD ss)))) (some (W.d (tS lot))) (some (W.own false ((inn ss lot).map sD))) (some (W.own false (pieD G))) (some (W.own false (XD (inn ss lot) G))) w9 w10 w11) =
    .nx (LE ns bag w2 w3 (some (W.d (PyData.tuple (List.map sD ss)))) (some (W.d (tS lot))) (some (W.d (.list ((inn ss lot).map sD)))) (some (W.own false (pieD G))) (some (W.d (.list (XD (inn ss lot) G)))) w9 w10 w11) := by
  have il : (inn ss lot).length ≤ 8 := Nat.le_trans (List.length_filter_le _ _) hl
  have io : ∀ s, s ∈ inn ss lot → SyOk s := fun s z => ho s (List.mem_filter.mp z).1
  obtain ⟨x1, x2, x3⟩ := XD_ok h b io il
  have al := c_alike x1 x2 x3 rfl 7
  have l1 : lcLoop (lcTurn (.one 13) (evOc Γ8 .yes) (evE Γ8 (.slc (.var 13) .none (.some (.int 2)))) [13]) ((inn ss lot).map sD) [] (LE ns bag w2 w3 (some (W.d (PyData.tuple (List.map sD ss)))) (some (W.d (tS lot))) (some (W.d (.list ((inn ss lot).map sD)))) (some (W.own false (pieD G))) (some (W.own false (XD (inn ss lot) G))) w9 w10 w11) =
      .ok (((inn ss lot).map sD).map (fun x => match x with | .tuple (a :: b :: _) => .tuple [a, b] | _ => .none), (LE ns bag w2 w3 (some (W.d (PyData.tuple (List.map sD ss)))) (some (W.d (tS lot))) (some (W.d (.list ((inn ss lot).map sD)))) (some (W.own false (pieD G))) (some (W.own false (XD (inn ss lot) G))) w9 w10 w11)) := by
    refine lc_map _ (fun x hx => ?_) (by rw [List.length_map]; exact Nat.le_trans il (by decide))
    obtain ⟨s, hs, rfl⟩ := List.mem_map.mp hx
    exact turn_yes rfl oc_yes (e_slc (e_vd rfl) o_none (o_some e_int) rfl rfl) rfl
  have e : ((inn ss lot).map sD).map (fun x => match x with | .tuple (a :: b :: _) => .tuple [a, b] | _ => .none) = (inn ss lot).map pD := by
    rw [List.map_map]
    rfl
  rw [e] at l1
  exact s_if (c_not (c_tru (e_p (ds := [.list (XD (inn ss lot) G), .list (XD (inn ss lot) G)]) (es_cons (e_vo rfl) (es_cons (e_lst (xs := XD (inn ss lot) G) (es_cons (e_blt (es_cons (e_vo rfl) es_nil) rfl rfl) (es_cons (e_blt (es_cons (e_blt (es_cons (e_lc (i_seq (e_vo rfl) rfl rfl) l1 (hb := back13)) es_nil) rfl (ds_sset (Nat.lt_of_le_of_lt il (by decide)) true)) es_nil) rfl rfl)
    (es_cons (e_blt (es_cons (e_vo rfl) es_nil) rfl rfl) (es_cons (e_ofC (c_cmp (e_blt (es_cons (e_vo rfl) es_nil) rfl rfl) e_int rfl rfl (lenP G))) es_nil)))) rfl (show 4 ≤ LIM by decide)) es_nil)) (ld_alike _ _) rfl al) rfl rfl)) (show evSs Γ8 .nil _ = _ from evSs_nil _ _)
theorem L9 (h : LotOk lot) (hs : ss.length < 64) (ho : ∀ s, s ∈ ss → SyOk s) (o : okW w9 = true) : evS Γ8 (.set 9 (.call "_law_tying" (.cons (.var 4) (.cons (.var 5) .nil)))) (LE ns bag w2 w3 (some (W.d (PyData.tuple (List.map sD ss)))) (some (W.d (tS lot))) (some (W.d (.list ((inn ss lot).map sD)))) (some (W.own false (pieD G))) (some (W.d (.list (XD (inn ss lot) G)))) w9 w10 w11) =
    .nx (LE ns bag w2 w3 (some (W.d (PyData.tuple (List.map sD ss)))) (some (W.d (tS lot))) (some (W.d (.list ((inn ss lot).map sD)))) (some (W.own false (pieD G))) (some (W.d (.list (XD (inn ss lot) G)))) (some (W.d (.tuple ((fnd [] (inn ss lot)).map sD)))) w10 w11) :=
  s_set (e_p (es_cons (e_vd rfl) (es_cons (e_vd rfl) es_nil)) (ld_ltying _ _) rfl (c_ltying h hs ho 6 true).1) (intoW_d rfl o)
theorem fnd_len : ∀ (E : List Ed) (l : List Sy), (fnd E l).length ≤ l.length ∧ ∀ s, s ∈ fnd E l → s ∈ l
  | _, [] => ⟨Nat.le_refl _, fun _ z => z⟩
  | E, s :: l => by
    obtain ⟨i1, i2⟩ := fnd_len ((s.1, s.2.1) :: E) l
    unfold fnd
    split
    · exact ⟨by rw [List.length_cons]; omega, fun z hz => List.mem_cons_of_mem _ (i2 z hz)⟩
    · refine ⟨by rw [List.length_cons, List.length_cons]; omega, fun z hz => ?_⟩
      rcases List.mem_cons.mp hz with rfl | m
      · exact List.mem_cons_self
      · exact List.mem_cons_of_mem _ (i2 z m)
theorem L10 (h : LotOk lot) (hs : ss.length < 64) (ho : ∀ s, s ∈ ss → SyOk s) (hl : ss.length ≤ 8) (b : By lot (edg (inn ss lot)) G) : evS Γ8 (.iff (.or (.cmp .ne (.heard "_law_heard" (.call "tying" (.cons (.var 4) (.cons (.var 5) .nil)))) (.ite (.cmp .eq (.blt .len (.cons (.var 7) .nil)) (.int 1)) (.tup (.cons (.str "told") (.cons (.var 9) .nil))) (.tup (.cons (.str "nothing") .nil)))) (.and (.cmp .eq (.blt .len (.cons (.var 7) .nil)) (.int 1)) (.cmp .ne (.blt .len (.cons (.var 9) .nil)) (.op .sub (.blt .len (.cons (.var 5) .nil)) (.int 1))))) (.cons (.ret (.bl false)) (.nil)) (.nil)) (LE ns bag w2 w3 (some (W.d (PyData.tuple (List.map sD ss)))) (some (W.d (tS lot))) (some (W.d (.list ((inn ss lot).map sD)))) (some (W.own false (pieD G))) (some (W.d (.list (XD (inn ss lot) G)))) (some (W.d (.tuple ((fnd [] (inn ss lot)).map sD)))) w10 w11) =
    .nx (LE ns bag w2 w3 (some (W.d (PyData.tuple (List.map sD ss)))) (some (W.d (tS lot))) (some (W.d (.list ((inn ss lot).map sD)))) (some (W.own false (pieD G))) (some (W.d (.list (XD (inn ss lot) G)))) (some (W.d (.tuple ((fnd [] (inn ss lot)).map sD)))) w10 w11) := by
  have il : (inn ss lot).length ≤ 8 := Nat.le_trans (List.length_filter_le _ _) hl
  have io : ∀ s, s ∈ inn ss lot → SyOk s := fun s z => ho s (List.mem_filter.mp z).1
  have ct := c_tying h hs ho b 0 false
  obtain ⟨G', b', cnt⟩ := (c_ltying h hs ho 6 true).2
  have gl : G'.length = G.length := by_len b' b
  have cnt' : (fnd [] (inn ss lot)).length + G'.length = lot.length := cnt
  have one : evC Γ8 (.cmp .eq (.blt .len (.cons (.var 7) .nil)) (.int 1)) (LE ns bag w2 w3 (some (W.d (PyData.tuple (List.map sD ss)))) (some (W.d (tS lot))) (some (W.d (.list ((inn ss lot).map sD)))) (some (W.own false (pieD G))) (some (W.d (.list (XD (inn ss lot) G)))) (some (W.d (.tuple ((fnd [] (inn ss lot)).map sD)))) w10 w11) = .ok (decide (G.length = 1), (LE ns bag w2 w3 (some (W.d (PyData.tuple (List.map sD ss)))) (some (W.d (tS lot))) (some (W.d (.list ((inn ss lot).map sD)))) (some (W.own false (pieD G))) (some (W.d (.list (XD (inn ss lot) G)))) (some (W.d (.tuple ((fnd [] (inn ss lot)).map sD)))) w10 w11)) := c_cmp (e_blt (es_cons (e_vo rfl) es_nil) rfl rfl) e_int rfl rfl (lenP G)
  by_cases q : G.length = 1
  · rw [if_pos q] at ct
    rw [decide_eq_true q] at one
    have ht := tame_tup (xs := (fnd [] (inn ss lot)).map sD) (fun x hx => by
      obtain ⟨s, hs, rfl⟩ := List.mem_map.mp hx
      exact tame_sD (io s ((fnd_len _ _).2 s hs))) (by
        have := (fnd_len [] (inn ss lot)).1
        rw [List.length_map]
        omega)
    have pt : plainD (.tuple [.str "told", .tuple ((fnd [] (inn ss lot)).map sD)]) = true := by
      rw [plainD, plainDs, plainDs, plainDs, ht.1]
      decide +kernel
    have dt : (PyData.tuple [.str "told", .tuple ((fnd [] (inn ss lot)).map sD)]).depth ≤ 60 := by
      have := ht.2.1
      simp only [PyData.depth, PyData.depthAll] at this ⊢
      omega
    have hv := e_heard (Γ := Γ8) (g := "_law_heard") told_eq (e_ph (g := true) (f := "tying") (es := (.cons (.var 4) (.cons (.var 5) .nil))) (ρ := (LE ns bag w2 w3 (some (W.d (PyData.tuple (List.map sD ss)))) (some (W.d (tS lot))) (some (W.d (.list ((inn ss lot).map sD)))) (some (W.own false (pieD G))) (some (W.d (.list (XD (inn ss lot) G)))) (some (W.d (.tuple ((fnd [] (inn ss lot)).map sD)))) w10 w11)) (es_cons (e_vd rfl) (es_cons (e_vd rfl) es_nil)) (ld_tying 8 true) rfl ct) rfl (backE_self _ _)
    have cn : cmpD .ne (.int (((fnd [] (inn ss lot)).map sD).length : Nat)) (.int ((lot.map PyData.str).length - 1)) = some false := by
      rw [int_neb, List.length_map, List.length_map, decide_eq_true (show (((fnd [] (inn ss lot)).length : Nat) : Int) = (lot.length : Int) - 1 by omega)]
      rfl
    refine s_if (c_or (c_cmp hv (e_ite one (show evE Γ8 (.tup _) _ = _ from e_tup (es_cons e_str (es_cons (e_vd rfl) es_nil)) rfl (show 2 ≤ LIM by decide))) rfl rfl (ne_self pt dt)) (c_and one (show evC Γ8 (.cmp .ne _ _) _ = _ from c_cmp (e_blt (es_cons (e_vd rfl) es_nil) rfl rfl) (e_op (e_blt (es_cons (e_vd rfl) es_nil) rfl rfl) e_int rfl rfl rfl) rfl rfl cn))) (show evSs Γ8 .nil _ = _ from evSs_nil _ _)
  · rw [if_neg q] at ct
    rw [decide_eq_false q] at one
    have hv := e_heardx (Γ := Γ8) (g := "_law_heard") told_eq (e_phx (g := true) (f := "tying") (es := (.cons (.var 4) (.cons (.var 5) .nil))) (ρ := (LE ns bag w2 w3 (some (W.d (PyData.tuple (List.map sD ss)))) (some (W.d (tS lot))) (some (W.d (.list ((inn ss lot).map sD)))) (some (W.own false (pieD G))) (some (W.d (.list (XD (inn ss lot) G)))) (some (W.d (.tuple ((fnd [] (inn ss lot)).map sD)))) w10 w11)) (es_cons (e_vd rfl) (es_cons (e_vd rfl) es_nil)) (ld_tying 8 true) rfl ct) rfl (backE_self _ _)
    have nn : cmpD .ne (PyData.tuple [.str "nothing"]) (PyData.tuple [.str "nothing"]) = some false := by decide +kernel
    exact s_if (c_or (c_cmp hv (e_ite one (show evE Γ8 (.tup _) _ = _ from e_tup (es_cons e_str es_nil) rfl (show 1 ≤ LIM by decide))) rfl rfl nn) (c_and one rfl)) (show evSs Γ8 .nil _ = _ from evSs_nil _ _)
theorem L11 (hb : BagOk bag) (o : okW w10 = true) {y6 y7 y8 y9 : Option W} : ∃ (x : D) (bag' : List D), evS Γ8 (.set 10 (.call "_law_some" (.cons (.var 1) (.cons (.lst (.cons .non (.cons (.tup .nil) (.cons (.blt .list (.cons (.var 5) .nil)) (.cons (.tup (.cons (.str "b") (.cons (.str "a") .nil))) (.cons (.tup (.cons (.str "a") (.cons (.str "a") .nil))) (.cons (.tup (.cons (.str "A") .nil)) (.cons (.tup (.cons (.int 1) .nil)) .nil)))))))) .nil)))) (LE ns bag w2 w3 (some (W.d (PyData.tuple (List.map sD ss)))) (some (W.d (tS lot))) y6 y7 y8 y9 w10 w11) =
    .nx (LE ns bag' w2 w3 (some (W.d (PyData.tuple (List.map sD ss)))) (some (W.d (tS lot))) y6 y7 y8 y9 (some (W.d x)) w11) ∧ BagOk bag' ∧ x ∈ odds (lot.map .str) := by
  obtain ⟨x, bag', e, hb', hx⟩ := c_some hb (xs := odds (lot.map .str)) (show 0 < 7 by decide) (show 7 < 1000 by decide) 6 true
  exact ⟨x, bag', s_set (e_pl (es_cons (e_vo rfl) (es_cons (e_lst (xs := odds (lot.map .str)) (es_cons e_non (es_cons (e_tup es_nil rfl (show 0 ≤ LIM by decide)) (es_cons (e_blt (es_cons (e_vd rfl) es_nil) rfl rfl) (es_cons (e_tup (es_cons e_str (es_cons e_str es_nil)) rfl (show 2 ≤ LIM by decide)) (es_cons (e_tup (es_cons e_str (es_cons e_str es_nil)) rfl (show 2 ≤ LIM by decide))
    (es_cons (e_tup (es_cons e_str es_nil) rfl (show 1 ≤ LIM by decide)) (es_cons (e_tup (es_cons e_int es_nil) rfl (show 1 ≤ LIM by decide)) es_nil))))))) rfl (show 7 ≤ LIM by decide)) es_nil)) (ld_some _ _) rfl rfl rfl e) (intoW_d rfl o), hb', hx⟩
theorem hx_ok {f : Str} {x : D} (hl : (Γn 8 true).lend f = false) (hc : P.call 8 false f [.d (.tuple (ss.map sD)), .d x] = .ex "Nothing") {y6 y7 y8 y9 y11 : Option W} : evE Γ8 (.heard "_law_heard" (.call f (.cons (.var 4) (.cons (.var 10) .nil)))) (LE ns bag w2 w3 (some (W.d (PyData.tuple (List.map sD ss)))) (some (W.d (tS lot))) y6 y7 y8 y9 (some (W.d x)) y11) = .ok (.d (PyData.tuple [.str "nothing"]), (LE ns bag w2 w3 (some (W.d (PyData.tuple (List.map sD ss)))) (some (W.d (tS lot))) y6 y7 y8 y9 (some (W.d x)) y11)) :=
  e_heardx (Γ := Γ8) (g := "_law_heard") told_eq (e_phx (g := true) (es_cons (e_vd rfl) (es_cons (e_vd rfl) es_nil)) hl rfl hc) rfl (backE_self _ _)
def tailSs : Ss := .cons (.set 11 (.lst (.cons (.heard "_law_heard" (.call "ties" (.cons (.var 4) (.cons (.var 10) .nil)))) .nil))) (.cons (.expr (.app 11 (.heard "_law_heard" (.call "pieces" (.cons (.var 4) (.cons (.var 10) .nil)))))) (.cons (.expr (.app 11 (.heard "_law_heard" (.call "within" (.cons (.var 4) (.cons (.var 10) .nil)))))) (.cons (.expr (.app 11 (.heard "_law_heard" (.call "is_one_piece" (.cons (.var 4) (.cons (.var 10) .nil)))))) (.cons (.expr (.app 11 (.heard "_law_heard" (.call "tying" (.cons (.var 4) (.cons (.var 10) .nil)))))) (.cons (.iff (.cmp .ne (.var 11) (.rep (.lst (.cons (.tup (.cons (.str "nothing") .nil)) .nil)) (.int 5))) (.cons (.ret (.bl false)) (.nil)) (.nil)) (.nil))))))
theorem L12 {x : D} (hx : x ∈ odds (lot.map .str)) (o : okW w11 = true) {y6 y7 y8 y9 : Option W} : evSs Γ8 tailSs (LE ns bag w2 w3 (some (W.d (PyData.tuple (List.map sD ss)))) (some (W.d (tS lot))) y6 y7 y8 y9 (some (W.d x)) w11) = .nx (LE ns bag w2 w3 (some (W.d (PyData.tuple (List.map sD ss)))) (some (W.d (tS lot))) y6 y7 y8 y9 (some (W.d x)) (some (W.own false [(PyData.tuple [.str "nothing"]), (PyData.tuple [.str "nothing"]), (PyData.tuple [.str "nothing"]), (PyData.tuple [.str "nothing"]), (PyData.tuple [.str "nothing"])]))) := by
  have nn : cmpD .ne (.list [(PyData.tuple [.str "nothing"]), (PyData.tuple [.str "nothing"]), (PyData.tuple [.str "nothing"]), (PyData.tuple [.str "nothing"]), (PyData.tuple [.str "nothing"])]) (.list [(PyData.tuple [.str "nothing"]), (PyData.tuple [.str "nothing"]), (PyData.tuple [.str "nothing"]), (PyData.tuple [.str "nothing"]), (PyData.tuple [.str "nothing"])]) = some false := by decide +kernel
  refine ss_nx (s_set (e_lst (xs := [(PyData.tuple [.str "nothing"])]) (es_cons (hx_ok (ld_ties _ _) (odd_ties _ _ x hx)) es_nil) rfl (show 1 ≤ LIM by decide)) (intoW_f rfl o))
    (ss_nx (s_expr (e_app rfl (hx_ok (ld_pieces _ _) (odd_pieces _ _ x hx)) rfl rfl (by show 1 < LIM; decide)))
    (ss_nx (s_expr (e_app rfl (hx_ok (ld_within _ _) (odd_within _ _ x hx)) rfl rfl (by show 2 < LIM; decide)))
    (ss_nx (s_expr (e_app rfl (hx_ok (ld_one _ _) (odd_one _ _ x hx)) rfl rfl (by show 3 < LIM; decide)))
    (ss_nx (s_expr (e_app rfl (hx_ok (ld_tying _ _) (odd_tying _ _ x hx)) rfl rfl (by show 4 < LIM; decide)))
    (ss_nx (s_if (c_cmp (e_vo rfl) (e_rep (e_lst (es_cons (e_tup (es_cons e_str es_nil) rfl (show 1 ≤ LIM by decide)) es_nil) rfl (show 1 ≤ LIM by decide)) e_int (by decide)) rfl rfl nn) (show evSs Γ8 .nil _ = _ from evSs_nil _ _)) (evSs_nil _ _))))))
end
end K28
set_option Elab.async false
set_option linter.all false
set_option maxRecDepth 100000
set_option maxHeartbeats 4000000
namespace Mn
open PySem
theorem i_rng1 {Γ : Ctx} {e : E} {ρ ρ1 : Env} {j : Int} (h : evE Γ e ρ = .ok (.d (.int j), ρ1)) (hj : j < 2 ^ 62 ∧ -(2 ^ 62) ≤ j) : evI Γ (.rng1 e) ρ = .ok ((List.range j.toNat).map fun (k : Nat) => .int k, ρ1) := by
  rw [evI, h]
  exact if_pos hj
end Mn
namespace K28
open PySem Mn
theorem cq_law (n : Nat) (g : Bool) (ws : List W) : P.call (n + 1) g "law" ws = runB (Γn n g) 1 14 b_law ws := by kernel_rfl
def lapOf : Ss → Ss
  | .cons _ (.cons (.for_ _ _ b) _) => b
  | _ => .nil
def lapSs : Ss := lapOf b_law
structure LW where
  bag : List D
  w2 : Option W
  w3 : Option W
  w4 : Option W
  w5 : Option W
  w6 : Option W
  w7 : Option W
  w8 : Option W
  w9 : Option W
  w10 : Option W
  w11 : Option W
def LW.env (ns : D) (a : LW) : Mn.Env := LE ns a.bag a.w2 a.w3 a.w4 a.w5 a.w6 a.w7 a.w8 a.w9 a.w10 a.w11
structure LW.Ok (a : LW) : Prop where
  bag : BagOk a.bag
  o2 : okW a.w2 = true
  o3 : okW a.w3 = true
  o4 : okW a.w4 = true
  o5 : okW a.w5 = true
  o6 : okW a.w6 = true
  o7 : okW a.w7 = true
  o8 : okW a.w8 = true
  o9 : okW a.w9 = true
  o10 : okW a.w10 = true
  o11 : okW a.w11 = true
theorem lap (ns : D) (a : LW) (h : a.Ok) (x : D) : ∃ a' : LW, (match Tg.set (a.env ns) x (.one 2) with | some ρ => evSs Γ8 lapSs ρ | none => .stuck) = .nx (a'.env ns) ∧ a'.Ok := by
  obtain ⟨bag, w2, w3, w4, w5, w6, w7, w8, w9, w10, w11⟩ := a
  obtain ⟨hb, o2, o3, o4, o5, o6, o7, o8, o9, o10, o11⟩ := h
  have s0 : Tg.set (LE ns bag w2 w3 w4 w5 w6 w7 w8 w9 w10 w11) x (.one 2) = some (LE ns bag (some (.d x)) w3 w4 w5 w6 w7 w8 w9 w10 w11) := intoW_d rfl o2
  obtain ⟨k, bag1, s1, hb1, k0, k1⟩ := L1 (ns := ns) (w2 := some (.d x)) (w4 := w4) (w5 := w5) (w6 := w6) (w7 := w7) (w8 := w8) (w9 := w9) (w10 := w10) (w11 := w11) hb o3
  have ts : (Lt.take k).Sublist Lt := List.take_sublist _ _
  have tl : (Lt.take k).length ≤ 6 := ts.length_le
  have tn : Lt.take k ≠ [] := by
    intro e
    have := congrArg List.length e
    rw [List.length_take] at this
    have e2 : Lt.length = 6 := rfl
    rw [e2] at this
    simp at this
    omega
  obtain ⟨ss, bag2, s2, hb2, ho, hl⟩ := L2' (ns := ns) (w2 := some (.d x)) (w5 := w5) (w6 := w6) (w7 := w7) (w8 := w8) (w9 := w9) (w10 := w10) (w11 := w11) hb1 (fun a ha => ts.subset ha) tl o4
  obtain ⟨l5, bag3, s3, hb3, h5⟩ := L3 (ns := ns) (w2 := some (.d x)) (w4 := some (.d (.tuple (ss.map sD)))) (w6 := w6) (w7 := w7) (w8 := w8) (w9 := w9) (w10 := w10) (w11 := w11) hb2 tl o5
  obtain ⟨lot, bag4, s4, hb4, hlo⟩ := L4 (ns := ns) (w2 := some (.d x)) (w4 := some (.d (.tuple (ss.map sD)))) (w6 := w6) (w7 := w7) (w8 := w8) (w9 := w9) (w10 := w10) (w11 := w11) hb3 ts h5 tn tl
  have hs : ss.length < 64 := by omega
  have s5 := L5 (ns := ns) (bag := bag4) (w2 := some (.d x)) (w3 := some (.d (tS (Lt.take k)))) (w7 := w7) (w8 := w8) (w9 := w9) (w10 := w10) (w11 := w11) hlo hs ho o6
  obtain ⟨G, b, s6⟩ := L6 (ns := ns) (bag := bag4) (w2 := some (.d x)) (w3 := some (.d (tS (Lt.take k)))) (w8 := w8) (w9 := w9) (w10 := w10) (w11 := w11) hlo hs ho o7
  have s7 := L7 (ns := ns) (bag := bag4) (w2 := some (.d x)) (w3 := some (.d (tS (Lt.take k)))) (w9 := w9) (w10 := w10) (w11 := w11) hlo hs ho b o8
  have s8 := L8 (ns := ns) (bag := bag4) (w2 := some (.d x)) (w3 := some (.d (tS (Lt.take k)))) (w9 := w9) (w10 := w10) (w11 := w11) hlo hs ho hl b
  have s9 := L9 (ns := ns) (bag := bag4) (w2 := some (.d x)) (w3 := some (.d (tS (Lt.take k)))) (w10 := w10) (w11 := w11) (G := G) hlo hs ho o9
  have s10 := L10 (ns := ns) (bag := bag4) (w2 := some (.d x)) (w3 := some (.d (tS (Lt.take k)))) (w10 := w10) (w11 := w11) hlo hs ho hl b
  obtain ⟨od, bag5, s11, hb5, hx⟩ := L11 (ns := ns) (w2 := some (.d x)) (w3 := some (.d (tS (Lt.take k)))) (w11 := w11) (lot := lot) (ss := ss) (y6 := some (.d (.list ((inn ss lot).map sD)))) (y7 := some (.own false (pieD G))) (y8 := some (.d (.list (XD (inn ss lot) G)))) (y9 := some (.d (.tuple ((fnd [] (inn ss lot)).map sD)))) hb4 o10
  have s12 := L12 (ns := ns) (bag := bag5) (w2 := some (.d x)) (w3 := some (.d (tS (Lt.take k)))) (w11 := w11) (lot := lot) (ss := ss) (y6 := some (.d (.list ((inn ss lot).map sD)))) (y7 := some (.own false (pieD G))) (y8 := some (.d (.list (XD (inn ss lot) G)))) (y9 := some (.d (.tuple ((fnd [] (inn ss lot)).map sD)))) hx o11
  have go : evSs Γ8 lapSs (LE ns bag (some (.d x)) w3 w4 w5 w6 w7 w8 w9 w10 w11) = _ := ss_nx s1 (ss_nx s2 (ss_nx s3 (ss_nx s4 (ss_nx s5 (ss_nx s6 (ss_nx s7 (ss_nx s8 (ss_nx s9 (ss_nx s10 (ss_nx s11 s12))))))))))
  exact ⟨⟨bag5, some (.d x), some (.d (tS (Lt.take k))), some (.d (.tuple (ss.map sD))), some (.d (tS lot)), some (.d (.list ((inn ss lot).map sD))), some (.own false (pieD G)), some (.d (.list (XD (inn ss lot) G))), some (.d (.tuple ((fnd [] (inn ss lot)).map sD))), some (.d od), some (.own false [(PyData.tuple [.str "nothing"]), (PyData.tuple [.str "nothing"]), (PyData.tuple [.str "nothing"]), (PyData.tuple [.str "nothing"]), (PyData.tuple [.str "nothing"])])⟩,
    (show (match Tg.set (LE ns bag w2 w3 w4 w5 w6 w7 w8 w9 w10 w11) x (.one 2) with | some ρ => evSs Γ8 lapSs ρ | none => .stuck) = _ by rw [s0]; exact go), hb5, rfl, rfl, rfl, rfl, rfl, rfl, rfl, rfl, rfl, rfl⟩
theorem pure9 (ns : List Int) : P.call 9 true "law" [.d (.list (ns.map PyData.int))] = .ret (.d (.bool true)) none := by
  rw [cq_law 8]
  obtain ⟨bag, e, hb⟩ := c_bag ns 7 true
  obtain ⟨a', f1, h'⟩ := for_inv (f := fun x ρ => match Tg.set ρ x (.one 2) with
      | some ρ => evSs Γ8 lapSs ρ
      | none => .stuck) (LW.env (.list (ns.map .int))) (fun _ a => a.Ok) (xs := (List.range 6).map fun (k : Nat) => PyData.int k) (a := ⟨bag, none, none, none, none, none, none, none, none, none, none⟩)
    ⟨hb, rfl, rfl, rfl, rfl, rfl, rfl, rfl, rfl, rfl, rfl⟩ fun x _ a h => lap _ a h x
  exact runB_rt rfl rfl (ss_nx (s_set (e_p (es_cons (e_vd rfl) es_nil) (ld_bag _ _) rfl e) rfl) (ss_nx (s_for (i_rng1 e_int (by decide)) f1) (ss_rt (s_ret e_bl)))) rfl
end K28
set_option Elab.async false
set_option linter.all false
set_option maxRecDepth 100000
set_option maxHeartbeats 0
namespace K28
open PySem PySem.Spec PyProof.Rows L2 LamX He Mn
theorem tx : P.txtB st = true := by decide +kernel
def lawD : Fd := (P.fn "law").getD ⟨"", [], [], false, false, .nil⟩
theorem lawD_eq : P.fn "law" = some lawD := by kernel_rfl
theorem lawD_ps : lawD.ps = [("script" : Str)] := by kernel_rfl
end K28
open PySem PySem.W PySem.Calls PyProof.Rows
theorem PySem.Challenge.cw_lastparted_k28_pieces_and_ties_holds : PySem.Challenge.rw_lastparted_k28_pieces_and_ties.Holds := by
  w_on; o_law
  refine HandSHeadRun.head_any (r := OpenLaw.row PySem.Challenge.rw_lastparted_k28_pieces_and_ties) (q := view (OpenLaw.row PySem.Challenge.rw_lastparted_k28_pieces_and_ties).prog [31]) (H := K28.hk) (ob := K28.ob) (M := 1500) (loose := K28.loose) (d := HandSHeadRun.topDef (OpenLaw.row PySem.Challenge.rw_lastparted_k28_pieces_and_ties).prog 31) (kwd := []) K28.ob_eq
    (by kernel_rfl) (fun s => by kernel_rfl) K28.run (by kernel_rfl) (by kernel_rfl) (by kernel_rfl) (by rfl) (by first | assumption | decide +kernel) (by decide +kernel) ⟨rfl, rfl, rfl, rfl, rfl, by decide +kernel⟩ ?hw ?hc
  case hw => w_witness2
  case hc => exact Mn.law_walk (n := 9) (d := K28.lawD) rfl rfl (by kernel_rfl) ⟨rfl, by decide, by decide⟩ K28.tx K28.to K28.bn K28.bt K28.one K28.lawD_eq K28.lawD_ps fun ns _ _ => K28.pure9 ns
