import PyProof.Rows.All
import Wide.All
import OpenK.AllK
import Wide.FinOn
import HandS.ForMost
import HandS.Lambda
import KE.KNest
import HandS.TupAny
import HandS.Deep
import HandS.Rev
import HandS.Zip
import HandS.Sort
import HandS.SortInts
import HandS.SortRule
import HandS.Style
import PyProof.WalksMore
import KE.GoesEnum
import HandS.Exc
import PyProof.ReprLen
import HandS.Dict
import HandS.DictComp
import HandS.SetKeys
import HandS.More
import KE.KDictLaws
import HandS.Conv
import HandS.SetFor
import HandS.Strs
import KE.KIndexOf
import KE.SortKeyHeap
import KE.KDictSum
import HandS.Nested
import KE.KRevSl
import PyProof.TupleOfSeq
import HandS.EndTab
import HandS.EndOwn
import PySem.Challenge.RW_portgrants_k99_promises_that_need_one
set_option Elab.async false
set_option linter.all false
set_option maxRecDepth 100000
set_option maxHeartbeats 1000000
/-! Pw: data, frames of data, and what refines the readings of the hand layer. -/
namespace Pw
open PySem L2

/-! ### data -/
inductive D where
  | non
  | bl (b : Bool)
  | int (i : Int)
  | str (s : Str)
  | tup (xs : List D)
  | ftup (xs : List D)
  | lst (xs : List D)
  | dK (ks : List Key) (vs : List D)
  | dT (ks : List (List Key)) (vs : List D)
  | rng (lo hi : Int)
  | fro (ns : List Int)
  | lls (xss : List (List D))

abbrev Ex (H H' : Hp) : Prop := ∀ a o, H a = some o → H' a = some o
theorem Ex.refl (H : Hp) : Ex H H := fun _ _ h => h
theorem Ex.trans {H H1 H2 : Hp} (a : Ex H H1) (b : Ex H1 H2) : Ex H H2 := fun x o h => b x o (a x o h)
theorem Ex.new {H : Hp} {p : Addr} {o : HO} (h : H p = none) : Ex H (upd H p o) := fun a u e => by
  rw [upd_ne (ne_of_none e h)]
  exact e
theorem Ex.free {H H' : Hp} {p : Addr} (e : Ex H H') (h : H' p = none) : H p = none := by
  cases h1 : H p with
  | none => rfl
  | some o => rw [e p o h1] at h; cases h
theorem Ex.both {H H' : Hp} {p : Addr} {o : HO} (e : Ex H H') : Ex (upd H p o) (upd H' p o) := fun a u h => by
  by_cases q : a = p
  · subst q; rw [upd_same] at h ⊢; exact h
  · rw [upd_ne q] at h ⊢; exact e a u h
theorem Ex.mut {H H' : Hp} {p : Addr} {o : HO} (e : Ex H H') (h : H p = none) : Ex H (upd H' p o) := fun a u ha => by
  rw [upd_ne (ne_of_none ha h)]
  exact e a u ha
theorem Ex.put {H H' : Hp} {p : Addr} {o : HO} (e : Ex H H') (h : H' p = some o) : Ex (upd H p o) H' := fun a u ha => by
  by_cases q : a = p
  · subst q; rw [upd_same] at ha; cases ha; exact h
  · rw [upd_ne q] at ha; exact e a u ha
theorem ex_rd {H H' : Hp} {a : Addr} {u : HO} (e : Ex H H') (h : Rd H a u) : Rd H' a u := by
  rcases h with h | ⟨o, h⟩
  · exact Or.inl (e a _ h)
  · exact Or.inr ⟨o, e a _ h⟩
theorem ex_l {K : PySem.W.Frag} {H H' : Hp} {a : Addr} {xs : List V} (e : Ex H H') (h : SqL K H a xs) : SqL K H' a xs := by
  rcases h with h | h
  · exact Or.inl (ex_rd e h)
  · exact Or.inr h
theorem ex_t {K : PySem.W.Frag} {H H' : Hp} {a : Addr} {xs : List V} (e : Ex H H') (h : SqT K H a xs) : SqT K H' a xs := by
  rcases h with h | h
  · exact Or.inl (ex_rd e h)
  · exact Or.inr h

mutual
/-- the value v, in the heap H, is the datum d -/
def Rep (K : PySem.W.Frag) (H : Hp) : D → V → Prop
  | .non, v => v = .non
  | .bl b, v => v = .bl b
  | .int i, v => v = .int i
  | .str s, v => v = .str s
  | .tup ds, v => ∃ a xs, v = .ref a ∧ H a = some (.tup xs) ∧ RepL K H ds xs
  | .ftup ds, v => ∃ a xs o, v = .ref a ∧ H a = some (.frz o (.tup xs)) ∧ o.dict = none ∧ RepL K H ds xs
  | .lst ds, v => ∃ a xs, v = .ref a ∧ H a = some (.lst xs) ∧ RepL K H ds xs
  | .dK ks ds, v => ∃ a xs, v = .ref a ∧ H a = some (.dK (ks.zip xs)) ∧ RepL K H ds xs ∧ ks.length = xs.length
  | .dT ks ds, v => ∃ a xs, v = .ref a ∧ H a = some (.dT (ks.zip xs)) ∧ RepL K H ds xs ∧ ks.length = xs.length
  | .rng lo hi, v => ∃ a, v = .ref a ∧ H a = some (.rng lo hi)
  | .fro ns, v => ∃ a, v = .ref a ∧ SqL K H a (ns.map V.int)
  | .lls _, _ => False
def RepL (K : PySem.W.Frag) (H : Hp) : List D → List V → Prop
  | [], xs => xs = []
  | d :: ds, xs => ∃ x ys, xs = x :: ys ∧ Rep K H d x ∧ RepL K H ds ys
end
mutual
theorem Rep.mono {K : PySem.W.Frag} {H H' : Hp} (e : Ex H H') : ∀ (d : D) (v : V), Rep K H d v → Rep K H' d v
  | .non, _, h => h
  | .bl _, _, h => h
  | .int _, _, h => h
  | .str _, _, h => h
  | .tup ds, v, h => by
    obtain ⟨a, xs, r, s, t⟩ := (show ∃ a xs, v = .ref a ∧ H a = some (.tup xs) ∧ RepL K H ds xs from h)
    exact ⟨a, xs, r, e _ _ s, RepL.mono e ds xs t⟩
  | .ftup ds, v, h => by
    obtain ⟨a, xs, o, r, s, d, t⟩ := (show ∃ a xs o, v = .ref a ∧ H a = some (.frz o (.tup xs)) ∧ o.dict = none ∧ RepL K H ds xs from h)
    exact ⟨a, xs, o, r, e _ _ s, d, RepL.mono e ds xs t⟩
  | .lst ds, v, h => by
    obtain ⟨a, xs, r, s, t⟩ := (show ∃ a xs, v = .ref a ∧ H a = some (.lst xs) ∧ RepL K H ds xs from h)
    exact ⟨a, xs, r, e _ _ s, RepL.mono e ds xs t⟩
  | .dK ks ds, v, h => by
    obtain ⟨a, xs, r, s, t, u⟩ := (show ∃ a xs, v = .ref a ∧ H a = some (.dK (ks.zip xs)) ∧ RepL K H ds xs ∧ ks.length = xs.length from h)
    exact ⟨a, xs, r, e _ _ s, RepL.mono e ds xs t, u⟩
  | .dT ks ds, v, h => by
    obtain ⟨a, xs, r, s, t, u⟩ := (show ∃ a xs, v = .ref a ∧ H a = some (.dT (ks.zip xs)) ∧ RepL K H ds xs ∧ ks.length = xs.length from h)
    exact ⟨a, xs, r, e _ _ s, RepL.mono e ds xs t, u⟩
  | .rng lo hi, v, h => by
    obtain ⟨a, r, s⟩ := (show ∃ a, v = .ref a ∧ H a = some (.rng lo hi) from h)
    exact ⟨a, r, e _ _ s⟩
  | .fro ns, v, h => by
    obtain ⟨a, r, s⟩ := (show ∃ a, v = .ref a ∧ SqL K H a (ns.map V.int) from h)
    exact ⟨a, r, ex_l e s⟩
  | .lls _, _, h => h.elim
theorem RepL.mono {K : PySem.W.Frag} {H H' : Hp} (e : Ex H H') : ∀ (ds : List D) (xs : List V), RepL K H ds xs → RepL K H' ds xs
  | [], _, h => h
  | d :: ds, xs, h => by
    obtain ⟨x, ys, r, s, t⟩ := (show ∃ x ys, xs = x :: ys ∧ Rep K H d x ∧ RepL K H ds ys from h)
    exact ⟨x, ys, r, Rep.mono e d x s, RepL.mono e ds ys t⟩
end
theorem SqT.of' {K : PySem.W.Frag} {H : Hp} {a : Addr} {xs : List V} (h : H a = some (.tup xs)) : SqT K H a xs := .inl (.inl h)
/-- a tuple is read where it stands -/
theorem rep_tup {K : PySem.W.Frag} {H : Hp} {ds : List D} {v : V} (h : Rep K H (.tup ds) v) : ∃ a xs, v = .ref a ∧ SqT K H a xs ∧ RepL K H ds xs :=
  let ⟨a, xs, e, s, t⟩ := (show ∃ a xs, v = .ref a ∧ H a = some (.tup xs) ∧ RepL K H ds xs from h)
  ⟨a, xs, e, SqT.of' s, t⟩
theorem rep_tupD {K : PySem.W.Frag} {H : Hp} {ds : List D} {v : V} (h : Rep K H (.tup ds) v) : ∃ a xs, v = .ref a ∧ H a = some (.tup xs) ∧ RepL K H ds xs := h
section
variable {K : PySem.W.Frag} {H : Hp}
theorem RepL.length : ∀ {ds : List D} {xs : List V}, RepL K H ds xs → xs.length = ds.length
  | [], _, h => by cases (show _ = [] from h); rfl
  | d :: ds, xs, h => by
    obtain ⟨x, ys, r, s, t⟩ := (show ∃ x ys, xs = x :: ys ∧ Rep K H d x ∧ RepL K H ds ys from h)
    subst r
    simp [RepL.length t]
theorem RepL.get : ∀ {ds : List D} {xs : List V} {i : Nat} {d : D}, RepL K H ds xs → ds[i]? = some d → ∃ v, xs[i]? = some v ∧ Rep K H d v
  | [], _, _, _, h, e => by simp at e
  | d :: ds, xs, 0, d', h, e => by
    obtain ⟨x, ys, r, s, t⟩ := (show ∃ x ys, xs = x :: ys ∧ Rep K H d x ∧ RepL K H ds ys from h)
    subst r
    simp at e
    subst e
    exact ⟨x, by simp, s⟩
  | d :: ds, xs, i + 1, d', h, e => by
    obtain ⟨x, ys, r, s, t⟩ := (show ∃ x ys, xs = x :: ys ∧ Rep K H d x ∧ RepL K H ds ys from h)
    subst r
    obtain ⟨v, a, b⟩ := RepL.get (i := i) (d := d') t (by simpa using e)
    exact ⟨v, by simpa using a, b⟩
theorem RepL.append : ∀ {ds es : List D} {xs ys : List V}, RepL K H ds xs → RepL K H es ys → RepL K H (ds ++ es) (xs ++ ys)
  | [], _, _, _, h, h2 => by cases (show _ = [] from h); exact h2
  | d :: ds, es, xs, zs, h, h2 => by
    obtain ⟨x, ys, r, s, t⟩ := (show ∃ x ys, xs = x :: ys ∧ Rep K H d x ∧ RepL K H ds ys from h)
    subst r
    exact ⟨x, ys ++ zs, rfl, s, t.append h2⟩
theorem RepL.one {d : D} {v : V} (h : Rep K H d v) : RepL K H [d] [v] := ⟨v, [], rfl, h, rfl⟩
theorem RepL.take : ∀ (n : Nat) {ds : List D} {xs : List V}, RepL K H ds xs → RepL K H (ds.take n) (xs.take n)
  | 0, _, _, _ => by simp only [List.take_zero]; rfl
  | n + 1, [], _, h => by cases (show _ = [] from h); exact rfl
  | n + 1, d :: ds, xs, h => by
    obtain ⟨x, ys, r, s, t⟩ := (show ∃ x ys, xs = x :: ys ∧ Rep K H d x ∧ RepL K H ds ys from h)
    subst r
    exact ⟨x, ys.take n, rfl, s, RepL.take n t⟩
theorem RepL.drop : ∀ (n : Nat) {ds : List D} {xs : List V}, RepL K H ds xs → RepL K H (ds.drop n) (xs.drop n)
  | 0, _, _, h => h
  | n + 1, [], _, h => by cases (show _ = [] from h); exact rfl
  | n + 1, d :: ds, xs, h => by
    obtain ⟨x, ys, r, s, t⟩ := (show ∃ x ys, xs = x :: ys ∧ Rep K H d x ∧ RepL K H ds ys from h)
    subst r
    exact RepL.drop n t
theorem RepL.reverse : ∀ {ds : List D} {xs : List V}, RepL K H ds xs → RepL K H ds.reverse xs.reverse
  | [], _, h => by cases (show _ = [] from h); exact rfl
  | d :: ds, xs, h => by
    obtain ⟨x, ys, r, s, t⟩ := (show ∃ x ys, xs = x :: ys ∧ Rep K H d x ∧ RepL K H ds ys from h)
    subst r
    rw [List.reverse_cons, List.reverse_cons]
    exact t.reverse.append (.one s)
theorem RepL.set : ∀ {ds : List D} {xs : List V} (i : Nat) {d : D} {v : V}, RepL K H ds xs → Rep K H d v → RepL K H (ds.set i d) (xs.set i v)
  | [], _, _, _, _, h, _ => by cases (show _ = [] from h); exact rfl
  | d :: ds, xs, 0, d', v', h, hv => by
    obtain ⟨x, ys, r, s, t⟩ := (show ∃ x ys, xs = x :: ys ∧ Rep K H d x ∧ RepL K H ds ys from h)
    subst r
    exact ⟨v', ys, rfl, hv, t⟩
  | d :: ds, xs, i + 1, d', v', h, hv => by
    obtain ⟨x, ys, r, s, t⟩ := (show ∃ x ys, xs = x :: ys ∧ Rep K H d x ∧ RepL K H ds ys from h)
    subst r
    exact ⟨x, ys.set i v', rfl, s, RepL.set i t hv⟩
theorem RepL.eraseIdx : ∀ {ds : List D} {xs : List V} (i : Nat), RepL K H ds xs → RepL K H (ds.eraseIdx i) (xs.eraseIdx i)
  | [], _, _, h => by cases (show _ = [] from h); exact rfl
  | d :: ds, xs, 0, h => by
    obtain ⟨x, ys, r, s, t⟩ := (show ∃ x ys, xs = x :: ys ∧ Rep K H d x ∧ RepL K H ds ys from h)
    subst r
    exact t
  | d :: ds, xs, i + 1, h => by
    obtain ⟨x, ys, r, s, t⟩ := (show ∃ x ys, xs = x :: ys ∧ Rep K H d x ∧ RepL K H ds ys from h)
    subst r
    exact ⟨x, ys.eraseIdx i, rfl, s, RepL.eraseIdx i t⟩
theorem RepL.dropLast : ∀ {ds : List D} {xs : List V}, RepL K H ds xs → RepL K H ds.dropLast xs.dropLast := fun {ds xs} h => by
  rw [List.dropLast_eq_take, List.dropLast_eq_take, h.length]
  exact h.take _
end

/-! ### tables that lambdas write to -/
/-- the defs that hold a lambda: their tables -/
def Tb (K : PySem.W.Frag) : List (Addr × Str) := [("subsets" : Str), "order_to", "story"].filterMap fun x => (PySem.W.tabIn K x).map fun q => (q.2, (x ++ ".<locals>.") ++ "<lambda>")
def isTb (o : HO) : Prop := (∃ ps, o = .tbl ps) ∨ ∃ φ, o = .ext φ
theorem tabs_stay {T : List (Addr × Str)} {H H' : Hp} (t : LamX.Tabs T H) (h : ∀ b o, H b = some o → isTb o → H' b = some o) : LamX.Tabs T H' := fun p hp => by
  obtain ⟨ps, h1, h2, h3⟩ := t p hp
  refine ⟨ps, h _ _ h1 (.inl ⟨ps, rfl⟩), h2, fun pos cv hc => ?_⟩
  obtain ⟨c, e1, e2⟩ := h3 pos cv hc
  exact ⟨c, e1, h _ _ e2 (.inr ⟨_, rfl⟩)⟩
theorem tabs_new {T : List (Addr × Str)} {H : Hp} {p : Addr} {o : HO} (t : LamX.Tabs T H) (hp : H p = none) : LamX.Tabs T (upd H p o) := tabs_stay t fun b u h _ => by
  rw [upd_ne (ne_of_none h hp)]; exact h
theorem tabs_put {T : List (Addr × Str)} {H : Hp} {p : Addr} {o u : HO} (t : LamX.Tabs T H) (hp : H p = some u) (hu : ¬ isTb u) : LamX.Tabs T (upd H p o) := tabs_stay t fun b u' h i => by
  rw [upd_ne fun z => by rw [z, hp] at h; cases h; exact hu i]; exact h
theorem lst_tb {xs : List V} : ¬ isTb (.lst xs) := fun h => by rcases h with ⟨_, h⟩ | ⟨_, h⟩ <;> cases h
theorem dK_tb {xs : List (Key × V)} : ¬ isTb (.dK xs) := fun h => by rcases h with ⟨_, h⟩ | ⟨_, h⟩ <;> cases h
theorem dT_tb {xs : List (List Key × V)} : ¬ isTb (.dT xs) := fun h => by rcases h with ⟨_, h⟩ | ⟨_, h⟩ <;> cases h
/-! ### frames -/
inductive Sl where
  | un
  | val (d : D)
  | own (io : Bool) (d : D)
def nth : List Sl → Nat → Sl
  | [], _ => .un
  | e :: _, 0 => e
  | _ :: r, n + 1 => nth r n
def put : List Sl → Nat → Sl → List Sl
  | [], _, _ => []
  | _ :: r, 0, x => x :: r
  | e :: r, n + 1, x => e :: put r n x
theorem put_length : ∀ (E : List Sl) (i : Nat) (x : Sl), (put E i x).length = E.length
  | [], _, _ => rfl
  | _ :: _, 0, _ => rfl
  | e :: r, n + 1, x => by show (put r n x).length + 1 = r.length + 1; rw [put_length r n x]
theorem nth_put_ne : ∀ {E : List Sl} {i j : Nat} {x : Sl}, j ≠ i → nth (put E i x) j = nth E j
  | [], _, _, _, _ => rfl
  | _ :: _, 0, 0, _, h => absurd rfl h
  | _ :: _, 0, _ + 1, _, _ => rfl
  | _ :: _, _ + 1, 0, _, _ => rfl
  | _ :: r, n + 1, m + 1, x, h => nth_put_ne (E := r) (i := n) (j := m) fun e => h (by rw [e])
theorem nth_put_lt : ∀ {E : List Sl} {i : Nat} {x : Sl}, i < E.length → nth (put E i x) i = x
  | [], _, _, h => absurd h (Nat.not_lt_zero _)
  | _ :: _, 0, _, _ => rfl
  | _ :: r, n + 1, x, h => nth_put_lt (E := r) (i := n) (Nat.lt_of_succ_lt_succ h)
theorem nth_put {E : List Sl} {i j : Nat} {x y : Sl} (h : nth (put E i x) j = y) : (j = i ∧ (y = x ∨ y = .un)) ∨ (j ≠ i ∧ nth E j = y) := by
  by_cases q : j = i
  · subst q
    refine .inl ⟨rfl, ?_⟩
    by_cases l : j < E.length
    · rw [nth_put_lt l] at h; exact .inl h.symm
    · right
      have : ∀ (E : List Sl) (j : Nat) (x : Sl), ¬ j < E.length → nth (put E j x) j = .un := by
        intro E
        induction E with
        | nil => intro j x _; rfl
        | cons e r ih =>
          intro j x h
          cases j with
          | zero => exact absurd (Nat.succ_pos _) h
          | succ n => exact ih n x fun z => h (Nat.succ_lt_succ z)
      rw [this E j x l] at h
      exact h.symm
  · exact .inr ⟨q, by rw [nth_put_ne q] at h; exact h⟩
theorem nth_lt : ∀ {E : List Sl} {i : Nat}, nth E i ≠ .un → i < E.length
  | [], _, h => absurd rfl h
  | _ :: _, 0, _ => Nat.succ_pos _
  | _ :: r, n + 1, h => Nat.succ_lt_succ (nth_lt (E := r) (i := n) h)

/-- lists of one's own, one behind the other -/
def LL (K : PySem.W.Frag) (H0 H : Hp) : List (List D) → List Addr → Prop
  | [], bs => bs = []
  | ds :: r, bs => ∃ b bs' xs, bs = b :: bs' ∧ H b = some (.lst xs) ∧ RepL K H0 ds xs ∧ LL K H0 H r bs'
/-- an object of one's own (with those in it): its data, its places -/
def RepO (K : PySem.W.Frag) (H0 H : Hp) : D → List Addr → Prop
  | .lst ds, l => ∃ a xs, l = [a] ∧ H a = some (.lst xs) ∧ RepL K H0 ds xs
  | .dK ks ds, l => ∃ a xs, l = [a] ∧ H a = some (.dK (ks.zip xs)) ∧ RepL K H0 ds xs ∧ ks.length = xs.length
  | .dT ks ds, l => ∃ a xs, l = [a] ∧ H a = some (.dT (ks.zip xs)) ∧ RepL K H0 ds xs ∧ ks.length = xs.length
  | .lls dss, l => ∃ a bs, l = a :: bs ∧ H a = some (.lst (bs.map V.ref)) ∧ LL K H0 H dss bs ∧ l.Nodup
  | _, _ => False
def ad (l : List Addr) : Addr := l.headD 0
/-- shared, it is this -/
def shr : D → D
  | .lls dss => .lst (dss.map .lst)
  | d => d
section
variable {K : PySem.W.Frag} {H0 H1 H H' : Hp}
theorem LL.mono (e : Ex H0 H1) : ∀ {dss : List (List D)} {bs : List Addr}, LL K H0 H dss bs → LL K H1 H dss bs
  | [], _, h => h
  | _ :: _, _, ⟨b, bs', xs, e1, h1, h2, h3⟩ => ⟨b, bs', xs, e1, h1, h2.mono e, LL.mono e h3⟩
theorem LL.keep : ∀ {dss : List (List D)} {bs : List Addr}, (∀ b ∈ bs, H' b = H b) → LL K H0 H dss bs → LL K H0 H' dss bs
  | [], _, _, h => h
  | _ :: _, _, k, ⟨b, bs', xs, e1, h1, h2, h3⟩ => by
    subst e1
    exact ⟨b, bs', xs, rfl, by rw [k b List.mem_cons_self]; exact h1, h2, LL.keep (fun c hc => k c (List.mem_cons_of_mem _ hc)) h3⟩
theorem LL.length : ∀ {dss : List (List D)} {bs : List Addr}, LL K H0 H dss bs → bs.length = dss.length
  | [], _, h => by cases (show _ = [] from h); rfl
  | _ :: _, _, ⟨b, bs', xs, e1, h1, h2, h3⟩ => by subst e1; simp [LL.length h3]
theorem LL.get : ∀ {dss : List (List D)} {bs : List Addr} {i : Nat} {ds : List D}, LL K H0 H dss bs → dss[i]? = some ds → ∃ b xs, bs[i]? = some b ∧ H b = some (.lst xs) ∧ RepL K H0 ds xs
  | [], _, _, _, _, h => by simp at h
  | _ :: _, _, 0, _, ⟨b, bs', xs, e1, h1, h2, h3⟩, h => by
    subst e1
    simp at h
    subst h
    exact ⟨b, xs, by simp, h1, h2⟩
  | _ :: _, _, i + 1, _, ⟨b, bs', xs, e1, h1, h2, h3⟩, h => by
    subst e1
    obtain ⟨c, ys, q1, q2, q3⟩ := LL.get (i := i) h3 (by simpa using h)
    exact ⟨c, ys, by simpa using q1, q2, q3⟩
theorem LL.append : ∀ {dss ess : List (List D)} {bs cs : List Addr}, LL K H0 H dss bs → LL K H0 H ess cs → LL K H0 H (dss ++ ess) (bs ++ cs)
  | [], _, _, _, h, h2 => by cases (show _ = [] from h); exact h2
  | _ :: _, _, _, cs, ⟨b, bs', xs, e1, h1, h2, h3⟩, h4 => by
    subst e1
    exact ⟨b, bs' ++ cs, xs, rfl, h1, h2, LL.append h3 h4⟩
theorem LL.live : ∀ {dss : List (List D)} {bs : List Addr}, LL K H0 H dss bs → ∀ b ∈ bs, ∃ o, H b = some o
  | [], _, h, b, hb => by cases (show _ = [] from h); cases hb
  | _ :: _, _, ⟨b, bs', xs, e1, h1, h2, h3⟩, c, hc => by
    subst e1
    rcases List.mem_cons.mp hc with e | e
    · subst e; exact ⟨_, h1⟩
    · exact LL.live h3 c e
/-- one of them changes -/
theorem LL.set : ∀ {dss : List (List D)} {bs : List Addr} {i : Nat} {b : Addr} {ds' : List D} {ys : List V}, LL K H0 H dss bs → bs.Nodup → bs[i]? = some b → RepL K H0 ds' ys → LL K H0 (upd H b (.lst ys)) (dss.set i ds') bs
  | [], _, _, _, _, _, h, _, hb, _ => by cases (show _ = [] from h); simp at hb
  | _ :: _, _, 0, b, _, ys, ⟨c, bs', xs, e1, h1, h2, h3⟩, nd, hb, r => by
    subst e1
    simp at hb
    subst hb
    refine ⟨c, bs', ys, rfl, upd_same, r, LL.keep (fun d hd => upd_ne fun z => ?_) h3⟩
    exact (List.nodup_cons.mp nd).1 (by rw [← z]; exact hd)
  | _ :: _, _, i + 1, b, _, ys, ⟨c, bs', xs, e1, h1, h2, h3⟩, nd, hb, r => by
    subst e1
    have hb : bs'[i]? = some b := by simpa using hb
    refine ⟨c, bs', xs, rfl, ?_, h2, LL.set (i := i) h3 (List.nodup_cons.mp nd).2 hb r⟩
    rw [upd_ne fun z => (List.nodup_cons.mp nd).1 (by rw [z]; exact List.mem_of_getElem? hb)]
    exact h1
/-- one of them is replaced by another one -/
theorem LL.swap : ∀ {dss : List (List D)} {bs : List Addr} {i : Nat} {b : Addr} {ds' : List D} {ys : List V}, LL K H0 H dss bs → i < bs.length → H b = some (.lst ys) → RepL K H0 ds' ys → LL K H0 H (dss.set i ds') (bs.set i b)
  | [], _, _, _, _, _, h, hi, _, _ => by cases (show _ = [] from h); exact absurd hi (Nat.not_lt_zero _)
  | _ :: _, _, 0, b, _, ys, ⟨c, bs', xs, e1, h1, h2, h3⟩, _, hb, r => by subst e1; exact ⟨b, bs', ys, rfl, hb, r, h3⟩
  | _ :: _, _, i + 1, b, _, ys, ⟨c, bs', xs, e1, h1, h2, h3⟩, hi, hb, r => by
    subst e1
    exact ⟨c, bs'.set i b, xs, rfl, h1, h2, LL.swap (i := i) h3 (Nat.lt_of_succ_lt_succ hi) hb r⟩
theorem RepO.mono (e : Ex H0 H1) : ∀ {d : D} {l : List Addr}, RepO K H0 H d l → RepO K H1 H d l
  | .lst ds, _, ⟨a, xs, q, h, r⟩ => ⟨a, xs, q, h, r.mono e⟩
  | .dK ks ds, _, ⟨a, xs, q, h, r, c⟩ => ⟨a, xs, q, h, r.mono e, c⟩
  | .dT ks ds, _, ⟨a, xs, q, h, r, c⟩ => ⟨a, xs, q, h, r.mono e, c⟩
  | .lls dss, _, ⟨a, bs, q, h, r, c⟩ => ⟨a, bs, q, h, r.mono e, c⟩
theorem RepO.keep : ∀ {d : D} {l : List Addr}, (∀ b ∈ l, H' b = H b) → RepO K H0 H d l → RepO K H0 H' d l
  | .lst ds, _, k, ⟨a, xs, q, h, r⟩ => ⟨a, xs, q, by rw [k a (by rw [q]; exact List.mem_cons_self)]; exact h, r⟩
  | .dK ks ds, _, k, ⟨a, xs, q, h, r, c⟩ => ⟨a, xs, q, by rw [k a (by rw [q]; exact List.mem_cons_self)]; exact h, r, c⟩
  | .dT ks ds, _, k, ⟨a, xs, q, h, r, c⟩ => ⟨a, xs, q, by rw [k a (by rw [q]; exact List.mem_cons_self)]; exact h, r, c⟩
  | .lls dss, _, k, ⟨a, bs, q, h, r, c⟩ => ⟨a, bs, q, by rw [k a (by rw [q]; exact List.mem_cons_self)]; exact h, r.keep fun b hb => k b (by rw [q]; exact List.mem_cons_of_mem _ hb), c⟩
theorem RepO.live : ∀ {d : D} {l : List Addr}, RepO K H0 H d l → (∀ b ∈ l, ∃ o, H b = some o) ∧ l.Nodup ∧ ∃ a r, l = a :: r
  | .lst ds, _, ⟨a, xs, q, h, r⟩ => by
    subst q
    exact ⟨fun b hb => by rw [List.mem_singleton.mp hb]; exact ⟨_, h⟩, by simp, a, [], rfl⟩
  | .dK ks ds, _, ⟨a, xs, q, h, r, c⟩ => by
    subst q
    exact ⟨fun b hb => by rw [List.mem_singleton.mp hb]; exact ⟨_, h⟩, by simp, a, [], rfl⟩
  | .dT ks ds, _, ⟨a, xs, q, h, r, c⟩ => by
    subst q
    exact ⟨fun b hb => by rw [List.mem_singleton.mp hb]; exact ⟨_, h⟩, by simp, a, [], rfl⟩
  | .lls dss, _, ⟨a, bs, q, h, r, c⟩ => by
    refine ⟨fun b hb => ?_, c, a, bs, q⟩
    rw [q] at hb
    rcases List.mem_cons.mp hb with e | e
    · subst e; exact ⟨_, h⟩
    · exact r.live b e
theorem LL.plain : ∀ {dss : List (List D)} {bs : List Addr}, LL K H0 H dss bs → ∀ b ∈ bs, ∃ o, H b = some o ∧ ¬ isTb o
  | [], _, h, b, hb => by cases (show _ = [] from h); cases hb
  | _ :: _, _, ⟨b, bs', xs, e1, h1, h2, h3⟩, c, hc => by
    subst e1
    rcases List.mem_cons.mp hc with e | e
    · subst e; exact ⟨_, h1, lst_tb⟩
    · exact LL.plain h3 c e
theorem RepO.plain : ∀ {d : D} {l : List Addr}, RepO K H0 H d l → ∀ b ∈ l, ∃ o, H b = some o ∧ ¬ isTb o
  | .lst ds, _, ⟨a, xs, q, h, r⟩, b, hb => by subst q; rw [List.mem_singleton.mp hb]; exact ⟨_, h, lst_tb⟩
  | .dK ks ds, _, ⟨a, xs, q, h, r, c⟩, b, hb => by subst q; rw [List.mem_singleton.mp hb]; exact ⟨_, h, dK_tb⟩
  | .dT ks ds, _, ⟨a, xs, q, h, r, c⟩, b, hb => by subst q; rw [List.mem_singleton.mp hb]; exact ⟨_, h, dT_tb⟩
  | .lls dss, _, ⟨a, bs, q, h, r, c⟩, b, hb => by
    rw [q] at hb
    rcases List.mem_cons.mp hb with e | e
    · subst e; exact ⟨_, h, lst_tb⟩
    · exact r.plain b e
/-- the stable heap with what stands at these places -/
def take (H0 H : Hp) (l : List Addr) : Hp := fun b => if b ∈ l then H b else H0 b
theorem take_in {l : List Addr} {b : Addr} (h : b ∈ l) : take H0 H l b = H b := if_pos h
theorem take_out {l : List Addr} {b : Addr} (h : b ∉ l) : take H0 H l b = H0 b := if_neg h
theorem ex_take {l : List Addr} (h : ∀ b ∈ l, H0 b = none) : Ex H0 (take H0 H l) := fun b o e => by
  by_cases q : b ∈ l
  · rw [h b q] at e; cases e
  · rw [take_out q]; exact e
theorem LL.rep {l : List Addr} (hn : ∀ b ∈ l, H0 b = none) : ∀ {dss : List (List D)} {bs : List Addr}, (∀ b ∈ bs, b ∈ l) → LL K H0 H dss bs → RepL K (take H0 H l) (dss.map .lst) (bs.map V.ref)
  | [], _, _, h => by cases (show _ = [] from h); rfl
  | _ :: _, _, k, ⟨b, bs', xs, e1, h1, h2, h3⟩ => by
    subst e1
    exact ⟨.ref b, bs'.map V.ref, rfl, ⟨b, xs, rfl, by rw [take_in (k b List.mem_cons_self)]; exact h1, h2.mono (ex_take hn)⟩, LL.rep hn (fun c hc => k c (List.mem_cons_of_mem _ hc)) h3⟩
theorem RepO.rep : ∀ {d : D} {l : List Addr}, (∀ b ∈ l, H0 b = none) → RepO K H0 H d l → Rep K (take H0 H l) (shr d) (.ref (ad l))
  | .lst ds, _, hn, ⟨a, xs, q, h, r⟩ => by
    subst q
    exact ⟨a, xs, rfl, by rw [take_in List.mem_cons_self]; exact h, r.mono (ex_take hn)⟩
  | .dK ks ds, _, hn, ⟨a, xs, q, h, r, c⟩ => by
    subst q
    exact ⟨a, xs, rfl, by rw [take_in List.mem_cons_self]; exact h, r.mono (ex_take hn), c⟩
  | .dT ks ds, _, hn, ⟨a, xs, q, h, r, c⟩ => by
    subst q
    exact ⟨a, xs, rfl, by rw [take_in List.mem_cons_self]; exact h, r.mono (ex_take hn), c⟩
  | .lls dss, l, hn, ⟨a, bs, q, h, r, c⟩ => by
    refine ⟨a, bs.map V.ref, by rw [q]; rfl, by rw [take_in (by rw [q]; exact List.mem_cons_self)]; exact h, LL.rep hn (fun b hb => by rw [q]; exact List.mem_cons_of_mem _ hb) r⟩
end

structure Bs where
  H0e : Hp
  He : Hp
  fp : Addr → Prop
  pin : Nat → Option (List Addr)
structure Wd (K : PySem.W.Frag) (B : Bs) (H0 H : Hp) (al : Nat → List Addr) (E : List Sl) : Prop where
  ex : Ex H0 H
  own : ∀ i io d, nth E i = .own io d → RepO K H0 H d (al i) ∧ ∀ b ∈ al i, H0 b = none ∧ (B.fp b ∨ B.He b = none)
  inj : ∀ i j io jo d e b, nth E i = .own io d → nth E j = .own jo e → b ∈ al i → b ∈ al j → i = j
  kp : ∀ b o, B.He b = some o → ¬ B.fp b → (∀ ps, o ≠ .tbl ps) → H b = some o
  e0 : Ex B.H0e H0
  nw : ∀ b o, H0 b = some o → B.H0e b = some o ∨ B.He b = none ∨ B.fp b
  lv : ∀ b, H b = none → B.He b = none
  pin : ∀ j l, B.pin j = some l → al j = l ∧ ∃ d, nth E j = .own true d
  tb : LamX.Tabs (Tb K) H
  t0 : ∀ b ps, H0 b ≠ some (.tbl ps)
structure Sg (K : PySem.W.Frag) (H0 : Hp) (al : Nat → List Addr) (E : List Sl) (σ : St) : Prop where
  len : σ.length = E.length
  val : ∀ i d, nth E i = .val d → ∃ v, σ[i]? = some (some v) ∧ Rep K H0 d v
  own : ∀ i io d, nth E i = .own io d → σ[i]? = some (some (.ref (ad (al i))))
structure Fr (K : PySem.W.Frag) (B : Bs) (H0 H : Hp) (al : Nat → List Addr) (E : List Sl) (σ : St) : Prop where
  wd : Wd K B H0 H al E
  sg : Sg K H0 al E σ
/-- places of nobody -/
def Fre (B : Bs) (H0 : Hp) (al : Nat → List Addr) (E : List Sl) (l : List Addr) : Prop := ∀ b ∈ l, H0 b = none ∧ B.He b = none ∧ ∀ j jo e, nth E j = .own jo e → b ∉ al j
section
variable {K : PySem.W.Frag} {B : Bs} {H0 H : Hp} {al : Nat → List Addr} {E : List Sl} {σ : St}
theorem Sg.mono {H1 : Hp} (e : Ex H0 H1) (s : Sg K H0 al E σ) : Sg K H1 al E σ :=
  ⟨s.len, fun i d h => let ⟨v, a, b⟩ := s.val i d h; ⟨v, a, b.mono e⟩, s.own⟩
theorem Wd.ne {p : Addr} (w : Wd K B H0 H al E) (hp : H p = none) {i : Nat} {io : Bool} {d : D} (h : nth E i = .own io d) : p ∉ al i := fun e => by
  obtain ⟨u, q⟩ := (w.own i io d h).1.live.1 p e
  rw [hp] at q
  cases q
/-- a new object, of the stable kind -/
theorem Wd.new {p : Addr} {o : HO} (w : Wd K B H0 H al E) (hp : H p = none) (no : ∀ ps, o ≠ .tbl ps := by intro _ z; cases z) : Wd K B (upd H0 p o) (upd H p o) al E where
  ex := w.ex.both
  own := fun i io d h => by
    obtain ⟨a, b⟩ := w.own i io d h
    have ne : ∀ c ∈ al i, c ≠ p := fun c hc z => w.ne hp h (by rw [← z]; exact hc)
    refine ⟨(a.keep fun c hc => upd_ne (ne c hc)).mono (Ex.new (w.ex.free hp)), fun c hc => ?_⟩
    rw [upd_ne (ne c hc)]
    exact b c hc
  inj := w.inj
  kp := fun b o' h n nt => by
    have q := w.kp b o' h n nt
    rw [upd_ne (ne_of_none q hp)]
    exact q
  e0 := w.e0.trans (Ex.new (w.ex.free hp))
  nw := fun b o' h => by
    by_cases q : b = p
    · subst q; exact .inr (.inl (w.lv _ hp))
    · rw [upd_ne q] at h; exact w.nw b o' h
  lv := fun b h => by
    by_cases q : b = p
    · subst q; rw [upd_same] at h; cases h
    · rw [upd_ne q] at h; exact w.lv b h
  pin := w.pin
  tb := tabs_new w.tb hp
  t0 := fun b ps z => by
    by_cases q : b = p
    · subst q; rw [upd_same] at z; exact no ps (Option.some.inj z)
    · rw [upd_ne q] at z; exact w.t0 b ps z
/-- a new object, of one's own kind (not stable) -/
theorem Wd.raw {p : Addr} {o : HO} (w : Wd K B H0 H al E) (hp : H p = none) : Wd K B H0 (upd H p o) al E where
  ex := w.ex.mut (w.ex.free hp)
  own := fun i io d h => by
    obtain ⟨a, b⟩ := w.own i io d h
    exact ⟨a.keep fun c hc => upd_ne fun z => w.ne hp h (by rw [← z]; exact hc), b⟩
  inj := w.inj
  kp := fun b o' h n nt => by
    have q := w.kp b o' h n nt
    rw [upd_ne (ne_of_none q hp)]
    exact q
  e0 := w.e0
  nw := w.nw
  lv := fun b h => by
    by_cases q : b = p
    · subst q; rw [upd_same] at h; cases h
    · rw [upd_ne q] at h; exact w.lv b h
  pin := w.pin
  tb := tabs_new w.tb hp
  t0 := w.t0
theorem Wd.fre {p : Addr} (w : Wd K B H0 H al E) (hp : H p = none) : Fre B H0 al E [p] := fun b hb => by
  rw [List.mem_singleton.mp hb]
  exact ⟨w.ex.free hp, w.lv _ hp, fun j jo e h => w.ne hp h⟩
/-- objects of no slot are shared -/
theorem Wd.share {l : List Addr} (w : Wd K B H0 H al E) (hl : ∀ b ∈ l, H0 b = none ∧ (B.He b = none ∨ B.fp b)) (ht : ∀ b ∈ l, ∃ o, H b = some o ∧ ¬ isTb o) (hn : ∀ i io d, nth E i = .own io d → ∀ b ∈ al i, b ∉ l) : Wd K B (take H0 H l) H al E where
  ex := fun b o h => by
    by_cases q : b ∈ l
    · rw [take_in q] at h; exact h
    · rw [take_out q] at h; exact w.ex b o h
  own := fun i io d h => by
    obtain ⟨a, b⟩ := w.own i io d h
    refine ⟨a.mono (ex_take fun c hc => (hl c hc).1), fun c hc => ?_⟩
    rw [take_out (hn i io d h c hc)]
    exact b c hc
  inj := w.inj
  kp := w.kp
  e0 := w.e0.trans (ex_take fun c hc => (hl c hc).1)
  nw := fun b o' h => by
    by_cases q : b ∈ l
    · exact .inr (hl b q).2
    · rw [take_out q] at h; exact w.nw b o' h
  lv := w.lv
  pin := w.pin
  tb := w.tb
  t0 := fun b ps z => by
    by_cases q : b ∈ l
    · rw [take_in q] at z
      obtain ⟨o, h1, h2⟩ := ht _ q
      rw [h1] at z
      cases z
      exact h2 (.inl ⟨_, rfl⟩)
    · rw [take_out q] at z; exact w.t0 b ps z
/-- an own object changes: its new places are old ones of its own, or new ones -/
theorem Wd.upd {H' : Hp} {l : List Addr} {i : Nat} {io : Bool} {d d' : D} (w : Wd K B H0 H al E) (hi : nth E i = .own io d) (ho : RepO K H0 H' d' l) (hio : io = true → l = al i) (hl : ∀ b ∈ l, b ∈ al i ∨ (H0 b = none ∧ B.He b = none ∧ ∀ j jo e, nth E j = .own jo e → b ∉ al j))
    (hk : ∀ b o, b ∉ al i → H b = some o → H' b = some o) (hv : ∀ b, H' b = none → H b = none) : Wd K B H0 H' (fun j => if j = i then l else al j) (put E i (.own io d')) where
  ex := fun b o h => hk b o (fun z => by rw [((w.own i io d hi).2 b z).1] at h; cases h) (w.ex b o h)
  own := fun j jo e h => by
    rcases nth_put h with ⟨rfl, q⟩ | ⟨n, q⟩
    · rcases q with q | q
      · cases q
        rw [if_pos rfl]
        refine ⟨ho, fun b hb => ?_⟩
        rcases hl b hb with z | z
        · exact (w.own j io d hi).2 b z
        · exact ⟨z.1, .inr z.2.1⟩
      · cases q
    · rw [if_neg n]
      obtain ⟨a, b⟩ := w.own j jo e q
      refine ⟨a.keep fun c hc => ?_, b⟩
      obtain ⟨u, hu⟩ := a.live.1 c hc
      rw [hu]
      exact hk c u (fun z => n (w.inj _ _ _ _ _ _ c q hi hc z)) hu
  inj := fun j k jo ko e f b h1 h2 x y => by
    have other : ∀ {j : Nat} {jo : Bool} {e : D}, j ≠ i → nth E j = .own jo e → b ∈ al j → b ∉ l := fun {j jo e} n q x y => by
      rcases hl b y with z | z
      · exact n (w.inj _ _ _ _ _ _ b q hi x z)
      · exact z.2.2 _ _ _ q x
    rcases nth_put h1 with ⟨rfl, q⟩ | ⟨n, q⟩
    · rcases nth_put h2 with ⟨rfl, q2⟩ | ⟨n2, q2⟩
      · rfl
      · rw [if_pos rfl] at x
        rw [if_neg n2] at y
        exact absurd x (other n2 q2 y)
    · rcases nth_put h2 with ⟨rfl, q2⟩ | ⟨n2, q2⟩
      · rw [if_neg n] at x
        rw [if_pos rfl] at y
        exact absurd y (other n q x)
      · rw [if_neg n] at x
        rw [if_neg n2] at y
        exact w.inj _ _ _ _ _ _ b q q2 x y
  kp := fun b o' h n nt => by
    refine hk b o' (fun z => ?_) (w.kp b o' h n nt)
    rcases ((w.own i io d hi).2 b z).2 with c | c
    · exact n c
    · rw [h] at c; cases c
  e0 := w.e0
  nw := w.nw
  lv := fun b h => w.lv b (hv b h)
  pin := fun j a h => by
    obtain ⟨e, f, g⟩ := w.pin j a h
    by_cases q : j = i
    · subst q
      rw [hi] at g
      cases g
      exact ⟨by rw [if_pos rfl, hio rfl]; exact e, d', nth_put_lt (nth_lt (by rw [hi]; intro z; cases z))⟩
    · exact ⟨by rw [if_neg q]; exact e, f, by rw [nth_put_ne q]; exact g⟩
  tb := tabs_stay w.tb fun b o h i2 => hk b o (fun z => by
    obtain ⟨u, h1, h2⟩ := (w.own i io d hi).1.plain b z
    rw [h1] at h
    cases h
    exact h2 i2) h
  t0 := w.t0
theorem Sg.upd {i : Nat} {io : Bool} {d d' : D} {l : List Addr} (s : Sg K H0 al E σ) (hi : nth E i = .own io d) (hd : ad l = ad (al i)) : Sg K H0 (fun j => if j = i then l else al j) (put E i (.own io d')) σ where
  len := by rw [put_length]; exact s.len
  val := fun j e h => by
    rcases nth_put h with ⟨rfl, q⟩ | ⟨n, q⟩
    · rcases q with q | q <;> cases q
    · exact s.val j e q
  own := fun j jo e h => by
    rcases nth_put h with ⟨rfl, q⟩ | ⟨n, q⟩
    · rw [if_pos rfl, hd]; exact s.own j io d hi
    · rw [if_neg n]; exact s.own j jo e q
theorem al_same {α : Type} (al : Nat → α) (i : Nat) : (fun j => if j = i then al i else al j) = al := funext fun j => by
  by_cases h : j = i
  · rw [if_pos h, h]
  · rw [if_neg h]
/-- .. at its places -/
theorem Wd.mut {H' : Hp} {i : Nat} {io : Bool} {d d' : D} (w : Wd K B H0 H al E) (hi : nth E i = .own io d) (ho : RepO K H0 H' d' (al i)) (hk : ∀ b o, b ∉ al i → H b = some o → H' b = some o) (hv : ∀ b, H' b = none → H b = none) :
    Wd K B H0 H' al (put E i (.own io d')) := by
  have := w.upd (l := al i) hi ho (fun _ => rfl) (fun b hb => .inl hb) hk hv
  rw [al_same] at this
  exact this
theorem Sg.mut {i : Nat} {io : Bool} {d d' : D} (s : Sg K H0 al E σ) (hi : nth E i = .own io d) : Sg K H0 al (put E i (.own io d')) σ := by
  have := s.upd (d' := d') (l := al i) hi rfl
  rw [al_same] at this
  exact this
/-- a slot gets a value; own false may be thrown away -/
theorem Wd.setVal {i : Nat} {x : Sl} (w : Wd K B H0 H al E) (hx : ∀ io d, x ≠ .own io d) (hi : ∀ d, nth E i ≠ .own true d) : Wd K B H0 H al (put E i x) where
  ex := w.ex
  own := fun j jo e h => by
    rcases nth_put h with ⟨rfl, q⟩ | ⟨n, q⟩
    · rcases q with q | q
      · exact absurd q.symm (hx _ _)
      · cases q
    · exact w.own j jo e q
  inj := fun j k jo ko e f b h1 h2 x y => by
    rcases nth_put h1 with ⟨rfl, q⟩ | ⟨n, q⟩
    · rcases q with q | q
      · exact absurd q.symm (hx _ _)
      · cases q
    · rcases nth_put h2 with ⟨rfl, q2⟩ | ⟨n2, q2⟩
      · rcases q2 with q2 | q2
        · exact absurd q2.symm (hx _ _)
        · cases q2
      · exact w.inj _ _ _ _ _ _ b q q2 x y
  kp := w.kp
  e0 := w.e0
  nw := w.nw
  lv := w.lv
  pin := fun j a h => by
    obtain ⟨e, f, g⟩ := w.pin j a h
    refine ⟨e, ?_⟩
    by_cases q : j = i
    · subst q
      exact absurd g (hi _)
    · exact ⟨f, by rw [nth_put_ne q]; exact g⟩
  tb := w.tb
  t0 := w.t0
theorem Sg.setVal {i : Nat} {d : D} {v : V} (s : Sg K H0 al E σ) (r : Rep K H0 d v) : Sg K H0 al (put E i (.val d)) (σ.set i (some v)) where
  len := by rw [put_length, List.length_set]; exact s.len
  val := fun j e h => by
    rcases nth_put h with ⟨rfl, q⟩ | ⟨n, q⟩
    · rcases q with q | q
      · cases q
        have l : j < E.length := by
          have := nth_lt (E := put E j (.val d)) (i := j) (by rw [h]; intro z; cases z)
          rw [put_length] at this
          exact this
        exact ⟨v, List.getElem?_set_self (by rw [s.len]; exact l), r⟩
      · cases q
    · obtain ⟨v', a, b⟩ := s.val j e q
      exact ⟨v', by rw [List.getElem?_set_ne (Ne.symm n)]; exact a, b⟩
  own := fun j jo e h => by
    rcases nth_put h with ⟨rfl, q⟩ | ⟨n, q⟩
    · rcases q with q | q <;> cases q
    · rw [List.getElem?_set_ne (Ne.symm n)]; exact s.own j jo e q
/-- an own slot is moved into a value -/
theorem Sg.move {i : Nat} {d : D} {io : Bool} {e : D} (s : Sg K H0 al E σ) (hi : nth E i = .own io e) (r : Rep K H0 d (.ref (ad (al i)))) : Sg K H0 al (put E i (.val d)) σ where
  len := by rw [put_length]; exact s.len
  val := fun j f h => by
    rcases nth_put h with ⟨rfl, q⟩ | ⟨n, q⟩
    · rcases q with q | q
      · cases q
        exact ⟨_, s.own j io e hi, r⟩
      · cases q
    · exact s.val j f q
  own := fun j jo f h => by
    rcases nth_put h with ⟨rfl, q⟩ | ⟨n, q⟩
    · rcases q with q | q <;> cases q
    · exact s.own j jo f q
/-- a slot gets a new own object -/
theorem Wd.setOwn {i : Nat} {l : List Addr} {d : D} (w : Wd K B H0 H al E) (hp : RepO K H0 H d l) (hf : Fre B H0 al E l) (hi : ∀ d, nth E i ≠ .own true d) :
    Wd K B H0 H (fun j => if j = i then l else al j) (put E i (.own false d)) where
  ex := w.ex
  own := fun j jo e h => by
    rcases nth_put h with ⟨rfl, q⟩ | ⟨n, q⟩
    · rcases q with q | q
      · cases q
        rw [if_pos rfl]
        exact ⟨hp, fun b hb => ⟨(hf b hb).1, .inr (hf b hb).2.1⟩⟩
      · cases q
    · rw [if_neg n]
      exact w.own j jo e q
  inj := fun j k jo ko e f b h1 h2 x y => by
    rcases nth_put h1 with ⟨rfl, q⟩ | ⟨n, q⟩
    · rcases nth_put h2 with ⟨rfl, q2⟩ | ⟨n2, q2⟩
      · rfl
      · rw [if_pos rfl] at x
        rw [if_neg n2] at y
        exact absurd y ((hf b x).2.2 _ _ _ q2)
    · rcases nth_put h2 with ⟨rfl, q2⟩ | ⟨n2, q2⟩
      · rw [if_neg n] at x
        rw [if_pos rfl] at y
        exact absurd x ((hf b y).2.2 _ _ _ q)
      · rw [if_neg n] at x
        rw [if_neg n2] at y
        exact w.inj _ _ _ _ _ _ b q q2 x y
  kp := w.kp
  e0 := w.e0
  nw := w.nw
  lv := w.lv
  pin := fun j a h => by
    obtain ⟨e, f, g⟩ := w.pin j a h
    have q : j ≠ i := fun q => by
      subst q
      exact absurd g (hi _)
    rw [if_neg q]
    exact ⟨e, f, by rw [nth_put_ne q]; exact g⟩
  tb := w.tb
  t0 := w.t0
theorem Sg.setOwn {i : Nat} {l : List Addr} {d : D} (s : Sg K H0 al E σ) : Sg K H0 (fun j => if j = i then l else al j) (put E i (.own false d)) (σ.set i (some (.ref (ad l)))) where
  len := by rw [put_length, List.length_set]; exact s.len
  val := fun j e h => by
    rcases nth_put h with ⟨rfl, q⟩ | ⟨n, q⟩
    · rcases q with q | q <;> cases q
    · obtain ⟨v', a, b⟩ := s.val j e q
      exact ⟨v', by rw [List.getElem?_set_ne (Ne.symm n)]; exact a, b⟩
  own := fun j jo e h => by
    rcases nth_put h with ⟨rfl, q⟩ | ⟨n, q⟩
    · rcases q with q | q
      · have l : j < E.length := by
          have := nth_lt (E := put E j (.own false d)) (i := j) (by rw [h, q]; intro z; cases z)
          rw [put_length] at this
          exact this
        rw [if_pos rfl]
        exact List.getElem?_set_self (by rw [s.len]; exact l)
      · cases q
    · rw [if_neg n, List.getElem?_set_ne (Ne.symm n)]; exact s.own j jo e q
/-- another base: where one stands -/
def Bs.here (B : Bs) (H0 H : Hp) (al : Nat → List Addr) (E : List Sl) : Bs := ⟨H0, H, fun a => ∃ i io d, nth E i = .own io d ∧ a ∈ al i, B.pin⟩
theorem Wd.here (w : Wd K B H0 H al E) : Wd K (B.here H0 H al E) H0 H al E where
  ex := w.ex
  own := fun i io d h => ⟨(w.own i io d h).1, fun b hb => ⟨((w.own i io d h).2 b hb).1, .inl ⟨i, io, d, h, hb⟩⟩⟩
  inj := w.inj
  kp := fun _ _ h _ _ => h
  e0 := Ex.refl _
  nw := fun _ _ h => .inl h
  lv := fun _ h => h
  pin := w.pin
  tb := w.tb
  t0 := w.t0
theorem Wd.back {H0' H' : Hp} {al' : Nat → List Addr} {E' : List Sl} (w : Wd K B H0 H al E) (w' : Wd K (B.here H0 H al E) H0' H' al' E') : Wd K B H0' H' al' E' where
  ex := w'.ex
  own := fun i io d h => by
    obtain ⟨a, b⟩ := w'.own i io d h
    refine ⟨a, fun c hc => ⟨(b c hc).1, ?_⟩⟩
    rcases (b c hc).2 with ⟨j, jo, e, hj, hz⟩ | z
    · exact ((w.own j jo e hj).2 c hz).2
    · exact .inr (w.lv _ z)
  inj := w'.inj
  kp := fun b o h n nt => w'.kp b o (w.kp b o h n nt) (fun ⟨j, jo, e, hj, hz⟩ => by
    rcases ((w.own j jo e hj).2 b hz).2 with c | c
    · exact n c
    · rw [h] at c; cases c) nt
  e0 := w.e0.trans w'.e0
  nw := fun b o h => by
    rcases w'.nw b o h with q | q | ⟨j, jo, e, hj, hz⟩
    · exact w.nw b o q
    · exact .inr (.inl (w.lv _ q))
    · rcases ((w.own j jo e hj).2 b hz).2 with c | c
      · exact .inr (.inr c)
      · exact .inr (.inl c)
  lv := fun b h => w.lv b (w'.lv b h)
  pin := w'.pin
  tb := w'.tb
  t0 := w'.t0
end

/-! ### the words -/
abbrev XE := List Sl → (D → List Sl → Prop) → Prop
abbrev XT := List Sl → (Bool → List Sl → Prop) → Prop
structure XEnds where
  nx : List Sl → Prop
  rt : D → List Sl → Prop
  bk : List Sl → Prop := fun _ => False
  ct : List Sl → Prop := fun _ => False
abbrev XS := XEnds → List Sl → Prop
/-- an argument: a value, or an own slot that the callee may change -/
inductive Ag where
  | val (d : D)
  | ref (i : Nat)
abbrev XA := List Sl → (List Ag → List Sl → Prop) → Prop
abbrev XF := List Sl → (D → List Sl → Prop) → Prop
section
variable (K : PySem.W.Frag)
def Rf (t : TE) (x : XE) : Prop := ∀ (B : Bs) (H0 H : Hp) (al : Nat → List Addr) (E : List Sl) (σ : St), Fr K B H0 H al E σ → ∀ (Q : VK) (R : D → List Sl → Prop), x E R →
  (∀ v d E' H0' H', Fr K B H0' H' al E' σ → Ex H0 H0' → Rep K H0' d v → R d E' → Q v H') → t σ H Q
/-- a new object that nobody else has -/
def RfF (t : TE) (x : XE) : Prop := ∀ (B : Bs) (H0 H : Hp) (al : Nat → List Addr) (E : List Sl) (σ : St), Fr K B H0 H al E σ → ∀ (Q : VK) (R : D → List Sl → Prop), x E R →
  (∀ l d E' H0' H', Fr K B H0' H' al E' σ → Ex H0 H0' → RepO K H0' H' d l → Fre B H0' al E' l → R d E' → Q (.ref (ad l)) H') → t σ H Q
def RfT (t : TT) (x : XT) : Prop := ∀ (B : Bs) (H0 H : Hp) (al : Nat → List Addr) (E : List Sl) (σ : St), Fr K B H0 H al E σ → ∀ (Q : Bool → Hp → Prop) (R : Bool → List Sl → Prop), x E R →
  (∀ b E' H0' H', Fr K B H0' H' al E' σ → Ex H0 H0' → R b E' → Q b H') → t σ H Q
def AgRep (H0 : Hp) (al : Nat → List Addr) (E : List Sl) : Ag → V → Prop
  | .val d, v => Rep K H0 d v
  | .ref i, v => v = .ref (ad (al i)) ∧ ∃ io d, nth E i = .own io d
def AgsRep (H0 : Hp) (al : Nat → List Addr) (E : List Sl) : List Ag → List V → Prop
  | [], vs => vs = []
  | a :: as, vs => ∃ v ws, vs = v :: ws ∧ AgRep K H0 al E a v ∧ AgsRep H0 al E as ws
def RfA (t : TA) (x : XA) : Prop := ∀ (B : Bs) (H0 H : Hp) (al : Nat → List Addr) (E : List Sl) (σ : St), Fr K B H0 H al E σ → ∀ (Q : List V → Hp → Prop) (R : List Ag → List Sl → Prop), x E R →
  (∀ vs as E' H0' H', Fr K B H0' H' al E' σ → Ex H0 H0' → AgsRep K H0' al E' as vs → R as E' → Q vs H') → t σ H Q
structure EndsOk (B : Bs) (H0 : Hp) (XD : XEnds) (Dd : Ends) : Prop where
  nx : ∀ H0' H' al' E' σ', Fr K B H0' H' al' E' σ' → Ex H0 H0' → XD.nx E' → Dd.nx σ' H'
  rt : ∀ H0' H' al' E' σ' d v, Fr K B H0' H' al' E' σ' → Ex H0 H0' → Rep K H0' d v → XD.rt d E' → Dd.rt v H'
  bk : ∀ H0' H' al' E' σ', Fr K B H0' H' al' E' σ' → Ex H0 H0' → XD.bk E' → Dd.bk σ' H'
  ct : ∀ H0' H' al' E' σ', Fr K B H0' H' al' E' σ' → Ex H0 H0' → XD.ct E' → Dd.ct σ' H'
def RfS (t : TS) (x : XS) : Prop := ∀ (B : Bs) (H0 H : Hp) (al : Nat → List Addr) (E : List Sl) (σ : St), Fr K B H0 H al E σ → ∀ (Dd : Ends) (XD : XEnds), x XD E → EndsOk K B H0 XD Dd → t Dd σ H
end
section
variable {K : PySem.W.Frag}
theorem EndsOk.mono {B : Bs} {H0 H1 : Hp} {XD : XEnds} {Dd : Ends} (e : Ex H0 H1) (o : EndsOk K B H0 XD Dd) : EndsOk K B H1 XD Dd :=
  ⟨fun H0' H' al' E' σ' f x h => o.nx H0' H' al' E' σ' f (e.trans x) h, fun H0' H' al' E' σ' d v f x r h => o.rt H0' H' al' E' σ' d v f (e.trans x) r h,
    fun H0' H' al' E' σ' f x h => o.bk H0' H' al' E' σ' f (e.trans x) h, fun H0' H' al' E' σ' f x h => o.ct H0' H' al' E' σ' f (e.trans x) h⟩
/-- a new object is a datum -/
def xShr (x : XE) : XE := fun E R => x E fun d E1 => R (shr d) E1
theorem RfF.rf {t : TE} {x : XE} (h : RfF K t x) : Rf K t (xShr x) := fun B H0 H al E σ f Q R hx k =>
  h B H0 H al E σ f Q (fun d E1 => R (shr d) E1) hx fun l d E' H0' H' f' e ro hf r => by
    have hn : ∀ b ∈ l, H0' b = none := fun b hb => (hf b hb).1
    exact k (.ref (ad l)) (shr d) E' (take H0' H' l) H' ⟨f'.wd.share (fun b hb => ⟨(hf b hb).1, .inl (hf b hb).2.1⟩) ro.plain (fun i io d hi b hb hl => (hf b hl).2.2 i io d hi hb), f'.sg.mono (ex_take hn)⟩ (e.trans (ex_take hn)) (ro.rep hn) r

/-! ### expressions -/
def xC (d : D) : XE := fun E R => R d E
theorem rf_int {i : Int} : Rf K (tC (.int i)) (xC (.int i)) := fun B H0 H al E σ f Q R hx k => k _ (.int i) _ _ _ f (Ex.refl _) rfl hx
theorem rf_bl {b : Bool} : Rf K (tC (.bl b)) (xC (.bl b)) := fun B H0 H al E σ f Q R hx k => k _ (.bl b) _ _ _ f (Ex.refl _) rfl hx
theorem rf_non : Rf K (tC .non) (xC .non) := fun B H0 H al E σ f Q R hx k => k _ .non _ _ _ f (Ex.refl _) rfl hx
theorem rf_str {s : Str} : Rf K (tC (.str s)) (xC (.str s)) := fun B H0 H al E σ f Q R hx k => k _ (.str s) _ _ _ f (Ex.refl _) rfl hx
/-- a name: its value; an own object is given away -/
def xVar (i : Nat) : XE := fun E R => match nth E i with
  | .val d => R d E
  | .own false d => R (shr d) (put E i (.val (shr d)))
  | _ => False
theorem rf_var {i : Nat} : Rf K (tVar i) (xVar i) := fun B H0 H al E σ f Q R hx k => by
  unfold xVar at hx
  cases h : nth E i with
  | un => rw [h] at hx; exact hx.elim
  | val d =>
    rw [h] at hx
    obtain ⟨v, a, b⟩ := f.sg.val i d h
    exact ⟨v, a, k _ _ _ _ _ f (Ex.refl _) b hx⟩
  | own io d =>
    rw [h] at hx
    cases io with
    | true => exact hx.elim
    | false =>
      have hx : R (shr d) (put E i (.val (shr d))) := hx
      obtain ⟨ro, hl⟩ := f.wd.own i _ d h
      have hn : ∀ b ∈ al i, H0 b = none := fun b hb => (hl b hb).1
      have w1 : Wd K B H0 H al (put E i (.val (shr d))) := f.wd.setVal (fun _ _ z => by cases z) fun d' z => by rw [h] at z; cases z
      have w2 : Wd K B (take H0 H (al i)) H al (put E i (.val (shr d))) := w1.share (fun b hb => ⟨(hl b hb).1, (hl b hb).2.symm⟩) ro.plain fun j jo e hj b hb hb2 => by
        rcases nth_put hj with ⟨rfl, q⟩ | ⟨n, q⟩
        · rcases q with q | q <;> cases q
        · exact n (f.wd.inj _ _ _ _ _ _ b q h hb hb2)
      exact ⟨.ref (ad (al i)), f.sg.own i _ d h, k _ _ _ _ H ⟨w2, (f.sg.mono (ex_take hn)).move h (ro.rep hn)⟩ (ex_take hn) (ro.rep hn) hx⟩
/-- operators: by values -/
abbrev X2 := D → D → (D → Prop) → Prop
def Rf2 (K : PySem.W.Frag) (r : R2) (x : X2) : Prop := ∀ (B : Bs) (H0 H : Hp) (al : Nat → List Addr) (E : List Sl) (σ : St), Fr K B H0 H al E σ → ∀ (a b : D) (v w : V), Rep K H0 a v → Rep K H0 b w → ∀ (Q : VK) (R : D → Prop), x a b R →
  (∀ z d H0' H', Fr K B H0' H' al E σ → Ex H0 H0' → Rep K H0' d z → R d → Q z H') → r v w H Q
def xOp (x : X2) (xa xb : XE) : XE := fun E R => xa E fun a E1 => xb E1 fun b E2 => x a b fun c => R c E2
theorem rf_op {r : R2} {x : X2} {ta tb : TE} {xa xb : XE} (hr : Rf2 K r x) (ha : Rf K ta xa) (hb : Rf K tb xb) : Rf K (tOp r ta tb) (xOp x xa xb) := fun B H0 H al E σ f Q R hx k =>
  ha B H0 H al E σ f _ _ hx fun v a E1 H1 H' f1 e1 ra h1 => hb B H1 H' al E1 σ f1 _ _ h1 fun w b E2 H2 H'' f2 e2 rb h2 =>
    hr B H2 H'' al E2 σ f2 a b v w (ra.mono e2) rb Q _ h2 fun z d H3 H''' f3 e3 rz h3 => k z d E2 H3 H''' f3 ((e1.trans e2).trans e3) rz h3
abbrev X1 := D → (D → Prop) → Prop
def Rf1 (K : PySem.W.Frag) (r : V → Hp → VK → Prop) (x : X1) : Prop := ∀ (B : Bs) (H0 H : Hp) (al : Nat → List Addr) (E : List Sl) (σ : St), Fr K B H0 H al E σ → ∀ (a : D) (v : V), Rep K H0 a v → ∀ (Q : VK) (R : D → Prop), x a R →
  (∀ z d H0' H', Fr K B H0' H' al E σ → Ex H0 H0' → Rep K H0' d z → R d → Q z H') → r v H Q
def xUn (x : X1) (xa : XE) : XE := fun E R => xa E fun a E1 => x a fun c => R c E1
theorem rf_un {r : V → Hp → VK → Prop} {x : X1} {ta : TE} {xa : XE} (hr : Rf1 K r x) (ha : Rf K ta xa) : Rf K (tUn r ta) (xUn x xa) := fun B H0 H al E σ f Q R hx k =>
  ha B H0 H al E σ f _ _ hx fun v a E1 H1 H' f1 e1 ra h1 => hr B H1 H' al E1 σ f1 a v ra Q _ h1 fun z d H3 H''' f3 e3 rz h3 => k z d E1 H3 H''' f3 (e1.trans e3) rz h3

/-! ### statements -/
def xNext : XS := fun XD E => XD.nx E
theorem rs_next : RfS K tNext xNext := fun B H0 H al E σ f Dd XD hx o => o.nx H0 H al E σ f (Ex.refl _) hx
def xSeq (x y : XS) : XS := fun XD E => x { XD with nx := y XD } E
theorem rs_seq {t u : TS} {x y : XS} (h1 : RfS K t x) (h2 : RfS K u y) : RfS K (tSeq t u) (xSeq x y) := fun B H0 H al E σ f Dd XD hx o =>
  h1 B H0 H al E σ f _ _ hx ⟨fun H0' H' al' E' σ' f' e h => h2 B H0' H' al' E' σ' f' Dd XD h (o.mono e), o.rt, o.bk, o.ct⟩
def xBreak : XS := fun XD E => XD.bk E
theorem rs_break : RfS K tBreak xBreak := fun B H0 H al E σ f Dd XD hx o => o.bk H0 H al E σ f (Ex.refl _) hx
def xCont : XS := fun XD E => XD.ct E
theorem rs_cont : RfS K tCont xCont := fun B H0 H al E σ f Dd XD hx o => o.ct H0 H al E σ f (Ex.refl _) hx
def xDrop (x : XE) : XS := fun XD E => x E fun _ E1 => XD.nx E1
theorem rs_drop {t : TE} {x : XE} (h : Rf K t x) : RfS K (tDrop t) (xDrop x) := fun B H0 H al E σ f Dd XD hx o =>
  h B H0 H al E σ f _ _ hx fun v d E' H0' H' f' e r q => o.nx H0' H' al E' σ f' e q
def xRet (x : XE) : XS := fun XD E => x E XD.rt
theorem rs_ret {t : TE} {x : XE} (h : Rf K t x) : RfS K (tRet t) (xRet x) := fun B H0 H al E σ f Dd XD hx o =>
  h B H0 H al E σ f _ _ hx fun v d E' H0' H' f' e r q => o.rt H0' H' al E' σ d v f' e r q
def xRetN : XS := fun XD E => XD.rt .non E
theorem rs_retN : RfS K tRetN xRetN := fun B H0 H al E σ f Dd XD hx o => o.rt H0 H al E σ .non .non f (Ex.refl _) rfl hx
def xIfS (c : XT) (x y : XS) : XS := fun XD E => c E fun b E1 => if b = true then x XD E1 else y XD E1
theorem rs_if {c : TT} {t u : TS} {xc : XT} {x y : XS} (hc : RfT K c xc) (h1 : RfS K t x) (h2 : RfS K u y) : RfS K (tIfS c t u) (xIfS xc x y) := fun B H0 H al E σ f Dd XD hx o =>
  hc B H0 H al E σ f _ _ hx fun b E' H0' H' f' e q => by
    cases b with
    | true =>
      refine iteT ?_
      exact h1 B H0' H' al E' σ f' Dd XD q (o.mono e)
    | false =>
      refine iteF ?_
      exact h2 B H0' H' al E' σ f' Dd XD q (o.mono e)
def xNever : XS := fun _ _ => False
theorem rs_never {t : TS} : RfS K t xNever := fun B H0 H al E σ f Dd XD hx o => hx.elim

/-! ### tests -/
def xB (x : XE) : XT := fun E R => x E fun d E1 => match d with
  | .bl b => R b E1
  | _ => False
theorem rt_B {t : TE} {x : XE} (h : Rf K t x) : RfT K (tB t) (xB x) := fun B H0 H al E σ f Q R hx k =>
  h B H0 H al E σ f _ _ hx fun v d E' H0' H' f' e r q => by
    cases d with
    | bl b => exact ⟨b, r, k b E' H0' H' f' e q⟩
    | _ => exact (show False from q).elim
theorem rt_test {t : TE} {x : XE} (h : Rf K t x) : RfT K (tTest t) (xB x) := fun B H0 H al E σ f Q R hx k =>
  h B H0 H al E σ f _ _ hx fun v d E' H0' H' f' e r q => by
    cases d with
    | bl b => exact ⟨b, r, k b E' H0' H' f' e q⟩
    | _ => exact (show False from q).elim
def xAnd (x y : XT) : XT := fun E R => x E fun c E1 => if c = true then y E1 R else R false E1
theorem rt_and {t u : TT} {x y : XT} (h1 : RfT K t x) (h2 : RfT K u y) : RfT K (tAnd t u) (xAnd x y) := fun B H0 H al E σ f Q R hx k =>
  h1 B H0 H al E σ f _ _ hx fun b E' H0' H' f' e q => by
    cases b with
    | true => exact iteT (h2 B H0' H' al E' σ f' Q R q fun b E'' H0'' H'' f'' e' q' => k b E'' H0'' H'' f'' (e.trans e') q')
    | false => exact iteF (k false E' H0' H' f' e q)
def xOr (x y : XT) : XT := fun E R => x E fun c E1 => if c = true then R true E1 else y E1 R
theorem rt_or {t u : TT} {x y : XT} (h1 : RfT K t x) (h2 : RfT K u y) : RfT K (tOr t u) (xOr x y) := fun B H0 H al E σ f Q R hx k =>
  h1 B H0 H al E σ f _ _ hx fun b E' H0' H' f' e q => by
    cases b with
    | true => exact iteT (k true E' H0' H' f' e q)
    | false => exact iteF (h2 B H0' H' al E' σ f' Q R q fun b E'' H0'' H'' f'' e' q' => k b E'' H0'' H'' f'' (e.trans e') q')
def xNot (x : XT) : XT := fun E R => x E fun c E1 => R (!c) E1
theorem rt_not {t : TT} {x : XT} (h1 : RfT K t x) : RfT K (tNot t) (xNot x) := fun B H0 H al E σ f Q R hx k =>
  h1 B H0 H al E σ f _ _ hx fun b E' H0' H' f' e q => k (!b) E' H0' H' f' e q
def xIf (c : XT) (xa xb : XE) : XE := fun E R => c E fun b E1 => if b = true then xa E1 R else xb E1 R
theorem rf_if {c : TT} {ta tb : TE} {xc : XT} {xa xb : XE} (hc : RfT K c xc) (h1 : Rf K ta xa) (h2 : Rf K tb xb) : Rf K (tIf c ta tb) (xIf xc xa xb) := fun B H0 H al E σ f Q R hx k =>
  hc B H0 H al E σ f _ _ hx fun b E' H0' H' f' e q => by
    cases b with
    | true => exact iteT (h1 B H0' H' al E' σ f' Q R q fun v d E'' H0'' H'' f'' e' r q' => k v d E'' H0'' H'' f'' (e.trans e') r q')
    | false => exact iteF (h2 B H0' H' al E' σ f' Q R q fun v d E'' H0'' H'' f'' e' r q' => k v d E'' H0'' H'' f'' (e.trans e') r q')
def xAndV (xa xb : XE) : XE := fun E R => xa E fun d E1 => match d with
  | .bl c => if c = true then xb E1 R else R (.bl false) E1
  | _ => False
theorem rf_andV {ta tb : TE} {xa xb : XE} (ha : Rf K ta xa) (hb : Rf K tb xb) : Rf K (tAndV ta tb) (xAndV xa xb) := fun B H0 H al E σ f Q R hx k =>
  ha B H0 H al E σ f _ _ hx fun v d E' H0' H' f' e r q => by
    cases d with
    | bl b =>
      refine ⟨b, r, ?_⟩
      cases b with
      | true => exact iteT (hb B H0' H' al E' σ f' Q R q fun v d E'' H0'' H'' f'' e' r q' => k v d E'' H0'' H'' f'' (e.trans e') r q')
      | false => exact iteF (k _ (.bl false) E' H0' H' f' e rfl q)
    | _ => exact (show False from q).elim
def xOrV (xa xb : XE) : XE := fun E R => xa E fun d E1 => match d with
  | .bl c => if c = true then R (.bl true) E1 else xb E1 R
  | _ => False
theorem rf_orV {ta tb : TE} {xa xb : XE} (ha : Rf K ta xa) (hb : Rf K tb xb) : Rf K (tOrV ta tb) (xOrV xa xb) := fun B H0 H al E σ f Q R hx k =>
  ha B H0 H al E σ f _ _ hx fun v d E' H0' H' f' e r q => by
    cases d with
    | bl b =>
      refine ⟨b, r, ?_⟩
      cases b with
      | true => exact iteT (k _ (.bl true) E' H0' H' f' e rfl q)
      | false => exact iteF (hb B H0' H' al E' σ f' Q R q fun v d E'' H0'' H'' f'' e' r q' => k v d E'' H0'' H'' f'' (e.trans e') r q')
    | _ => exact (show False from q).elim
def xNotV (xa : XE) : XE := fun E R => xa E fun d E1 => match d with
  | .bl c => R (.bl (!c)) E1
  | _ => False
theorem rf_notV {ta : TE} {xa : XE} (ha : Rf K ta xa) : Rf K (tNotV ta) (xNotV xa) := fun B H0 H al E σ f Q R hx k =>
  ha B H0 H al E σ f _ _ hx fun v d E' H0' H' f' e r q => by
    cases d with
    | bl b => exact ⟨b, r, k _ (.bl !b) E' H0' H' f' e rfl q⟩
    | _ => exact (show False from q).elim
end
end Pw

section
set_option maxRecDepth 100000
set_option maxHeartbeats 1000000
namespace Pw
open PySem L2
section
variable {K : PySem.W.Frag}
/-! ### values in a row: arguments of displays and builtins -/
abbrev XV := List Sl → (List D → List Sl → Prop) → Prop
def RfV (K : PySem.W.Frag) (t : TA) (x : XV) : Prop := ∀ (B : Bs) (H0 H : Hp) (al : Nat → List Addr) (E : List Sl) (σ : St), Fr K B H0 H al E σ → ∀ (Q : List V → Hp → Prop) (R : List D → List Sl → Prop), x E R →
  (∀ vs ds E' H0' H', Fr K B H0' H' al E' σ → Ex H0 H0' → RepL K H0' ds vs → R ds E' → Q vs H') → t σ H Q
def xvNil : XV := fun E R => R [] E
theorem rv_nil : RfV K tNil xvNil := fun B H0 H al E σ f Q R hx k => k [] [] E H0 H f (Ex.refl _) rfl hx
def xvCons (x : XE) (xr : XV) : XV := fun E R => x E fun d E1 => xr E1 fun ds E2 => R (d :: ds) E2
theorem rv_cons {ta : TE} {tr : TA} {x : XE} {xr : XV} (h : Rf K ta x) (hr : RfV K tr xr) : RfV K (tCons ta tr) (xvCons x xr) := fun B H0 H al E σ f Q R hx k =>
  h B H0 H al E σ f _ _ hx fun v d E1 H1 H' f1 e1 r1 q => hr B H1 H' al E1 σ f1 _ _ q fun vs ds E2 H2 H'' f2 e2 r2 q2 => k (v :: vs) (d :: ds) E2 H2 H'' f2 (e1.trans e2) ⟨v, vs, rfl, r1.mono e2, r2⟩ q2
theorem sz_le {n : Nat} (h : n ≤ 16777216) : n ≤ sizeLine := by rw [sizeLine_eq]; exact h
theorem sz_lt {n : Nat} (h : n < 16777216) : n < sizeLine := by rw [sizeLine_eq]; exact h
def xTup (x : XV) : XE := fun E R => x E fun ds E1 => ds.length ≤ 16777216 ∧ R (.tup ds) E1
theorem rf_tup {t : TA} {x : XV} (h : RfV K t x) : Rf K (tTup t) (xTup x) := fun B H0 H al E σ f Q R hx k =>
  h B H0 H al E σ f _ _ hx fun vs ds E' H0' H' f' e r q => ⟨by rw [r.length]; exact sz_le q.1, fun p hp =>
    k (.ref p) (.tup ds) E' (upd H0' p (.tup vs)) (upd H' p (.tup vs)) ⟨f'.wd.new hp, f'.sg.mono (Ex.new (f'.wd.ex.free hp))⟩ (e.trans (Ex.new (f'.wd.ex.free hp)))
      ⟨p, vs, rfl, upd_same, r.mono (Ex.new (f'.wd.ex.free hp))⟩ q.2⟩
def xLst (x : XV) : XE := fun E R => x E fun ds E1 => ds.length ≤ 16777216 ∧ R (.lst ds) E1
/-- a new list at a new place: the common end of all that make lists -/
theorem fresh_lst {B : Bs} {H0 H : Hp} {al : Nat → List Addr} {E : List Sl} {σ : St} {p : Addr} {vs : List V} {ds : List D} (f : Fr K B H0 H al E σ) (hp : H p = none) (r : RepL K H0 ds vs) {Q : VK} {R : D → List Sl → Prop} (q : R (.lst ds) E)
    (k : ∀ l d E' H0' H', Fr K B H0' H' al E' σ → Ex H0 H0' → RepO K H0' H' d l → Fre B H0' al E' l → R d E' → Q (.ref (ad l)) H') : Q (.ref p) (upd H p (.lst vs)) :=
  k [p] (.lst ds) E H0 _ ⟨f.wd.raw hp, f.sg⟩ (Ex.refl _) ⟨p, vs, rfl, upd_same, r⟩ (f.wd.fre hp) q
theorem ff_lst {t : TA} {x : XV} (h : RfV K t x) : RfF K (tLst t) (xLst x) := fun B H0 H al E σ f Q R hx k =>
  h B H0 H al E σ f _ _ hx fun vs ds E' H0' H' f' e r q => ⟨by rw [r.length]; exact sz_le q.1, fun p hp =>
    fresh_lst f' hp r q.2 fun l d E'' H0'' H'' f'' e' ro hf q' => k l d E'' H0'' H'' f'' (e.trans e') ro hf q'⟩

/-! ### builtins called by values -/
abbrev X1s := List D → (D → Prop) → Prop
def RfB (K : PySem.W.Frag) (r : List V → Hp → VK → Prop) (x : X1s) : Prop := ∀ (B : Bs) (H0 H : Hp) (al : Nat → List Addr) (E : List Sl) (σ : St), Fr K B H0 H al E σ → ∀ (ds : List D) (vs : List V), RepL K H0 ds vs → ∀ (Q : VK) (R : D → Prop), x ds R →
  (∀ z d H0' H', Fr K B H0' H' al E σ → Ex H0 H0' → Rep K H0' d z → R d → Q z H') → r vs H Q
def xCB (x : X1s) (xa : XV) : XE := fun E R => xa E fun ds E1 => x ds fun c => R c E1
theorem rf_cb {r : List V → Hp → VK → Prop} {x : X1s} {t : TA} {xa : XV} (hr : RfB K r x) (h : RfV K t xa) : Rf K (tCB r t) (xCB x xa) := fun B H0 H al E σ f Q R hx k =>
  h B H0 H al E σ f _ _ hx fun vs ds E' H0' H' f' e ra q => hr B H0' H' al E' σ f' ds vs ra Q _ q fun z d H1 H'' f2 e2 rz q2 => k z d E' H1 H'' f2 (e.trans e2) rz q2
/-- .. that make a new list -/
def RfBF (K : PySem.W.Frag) (r : List V → Hp → VK → Prop) (x : X1s) : Prop := ∀ (B : Bs) (H0 H : Hp) (al : Nat → List Addr) (E : List Sl) (σ : St), Fr K B H0 H al E σ → ∀ (ds : List D) (vs : List V), RepL K H0 ds vs → ∀ (Q : VK) (R : D → Prop), x ds R →
  (∀ l d H0' H', Fr K B H0' H' al E σ → Ex H0 H0' → RepO K H0' H' d l → Fre B H0' al E l → R d → Q (.ref (ad l)) H') → r vs H Q
theorem ff_cb {r : List V → Hp → VK → Prop} {x : X1s} {t : TA} {xa : XV} (hr : RfBF K r x) (h : RfV K t xa) : RfF K (tCB r t) (xCB x xa) := fun B H0 H al E σ f Q R hx k =>
  h B H0 H al E σ f _ _ hx fun vs ds E' H0' H' f' e ra q => hr B H0' H' al E' σ f' ds vs ra Q _ q fun l d H1 H'' f2 e2 ro hf q2 => k l d E' H1 H'' f2 (e.trans e2) ro hf q2

/-! ### looking at a slot, own or not, without giving it away -/
def pk (E : List Sl) (i : Nat) (k : D → Prop) : Prop := match nth E i with
  | .val d => k d
  | .own _ d => k (shr d)
  | .un => False
/-- the slot's datum, in some heap within H -/
theorem Fr.peek {B : Bs} {H0 H : Hp} {al : Nat → List Addr} {E : List Sl} {σ : St} {i : Nat} {k : D → Prop} (f : Fr K B H0 H al E σ) (h : pk E i k) : ∃ v d H0p, σ[i]? = some (some v) ∧ Rep K H0p d v ∧ Ex H0 H0p ∧ Ex H0p H ∧ k d := by
  unfold pk at h
  cases q : nth E i with
  | un => rw [q] at h; exact h.elim
  | val d =>
    rw [q] at h
    obtain ⟨v, a, b⟩ := f.sg.val i d q
    exact ⟨v, d, H0, a, b, Ex.refl _, f.wd.ex, h⟩
  | own io d =>
    rw [q] at h
    obtain ⟨ro, hl⟩ := f.wd.own i io d q
    have hn : ∀ b ∈ al i, H0 b = none := fun b hb => (hl b hb).1
    refine ⟨.ref (ad (al i)), shr d, take H0 H (al i), f.sg.own i io d q, ro.rep hn, ex_take hn, fun b o hb => ?_, h⟩
    by_cases z : b ∈ al i
    · rw [take_in z] at hb; exact hb
    · rw [take_out z] at hb; exact f.wd.ex b o hb
theorem Fr.sees {B : Bs} {H0 H : Hp} {al : Nat → List Addr} {E : List Sl} {σ : St} {i : Nat} (f : Fr K B H0 H al E σ) (h : nth E i ≠ .un) : ∃ v, σ[i]? = some (some v) := by
  cases q : nth E i with
  | un => exact absurd q h
  | val d => obtain ⟨v, a, b⟩ := f.sg.val i d q; exact ⟨v, a⟩
  | own io d => exact ⟨_, f.sg.own i io d q⟩
/-- operators that look alone, and answer by a flat thing -/
def Pu2 (K : PySem.W.Frag) (r : R2) (x : X2) : Prop := ∀ (H0 H : Hp) (a b : D) (v w : V) (R : D → Prop), Ex H0 H → Rep K H0 a v → Rep K H0 b w → x a b R → ∃ d z, R d ∧ (∀ H', Rep K H' d z) ∧ ∀ Q : VK, Q z H → r v w H Q
theorem Pu2.rf2 {r : R2} {x : X2} (h : Pu2 K r x) : Rf2 K r x := fun B H0 H al E σ f a b v w ra rb Q R hx k => by
  obtain ⟨d, z, q, rz, hr⟩ := h H0 H a b v w R f.wd.ex ra rb hx
  exact hr Q (k z d H0 H f (Ex.refl _) (rz _) q)
def Pu1 (K : PySem.W.Frag) (r : V → Hp → VK → Prop) (x : X1) : Prop := ∀ (H0 H : Hp) (a : D) (v : V) (R : D → Prop), Ex H0 H → Rep K H0 a v → x a R → ∃ d z, R d ∧ (∀ H', Rep K H' d z) ∧ ∀ Q : VK, Q z H → r v H Q
theorem Pu1.rf1 {r : V → Hp → VK → Prop} {x : X1} (h : Pu1 K r x) : Rf1 K r x := fun B H0 H al E σ f a v ra Q R hx k => by
  obtain ⟨d, z, q, rz, hr⟩ := h H0 H a v R f.wd.ex ra hx
  exact hr Q (k z d H0 H f (Ex.refl _) (rz _) q)
def PuB (K : PySem.W.Frag) (r : List V → Hp → VK → Prop) (x : X1s) : Prop := ∀ (H0 H : Hp) (ds : List D) (vs : List V) (R : D → Prop), Ex H0 H → RepL K H0 ds vs → x ds R → ∃ d z, R d ∧ (∀ H', Rep K H' d z) ∧ ∀ Q : VK, Q z H → r vs H Q
theorem PuB.rfB {r : List V → Hp → VK → Prop} {x : X1s} (h : PuB K r x) : RfB K r x := fun B H0 H al E σ f ds vs ra Q R hx k => by
  obtain ⟨d, z, q, rz, hr⟩ := h H0 H ds vs R f.wd.ex ra hx
  exact hr Q (k z d H0 H f (Ex.refl _) (rz _) q)
/-- the left one looked at: e.g. found[k] of ints, found == xs -/
def xOpL (x : X2) (i : Nat) (xb : XE) : XE := fun E R => nth E i ≠ .un ∧ xb E fun b E1 => pk E1 i fun a => x a b fun c => R c E1
theorem rf_opL {r : R2} {x : X2} {i : Nat} {tb : TE} {xb : XE} (hr : Pu2 K r x) (hb : Rf K tb xb) : Rf K (tOp r (tVar i) tb) (xOpL x i xb) := fun B H0 H al E σ f Q R hx k => by
  obtain ⟨v, hv⟩ := f.sees hx.1
  refine ⟨v, hv, hb B H0 H al E σ f _ _ hx.2 fun w b E1 H1 H' f1 e1 rb q => ?_⟩
  obtain ⟨v', a, Hp', hv', ra, e2, e3, q2⟩ := f1.peek q
  rw [hv] at hv'
  cases hv'
  obtain ⟨d, z, q3, rz, h⟩ := hr Hp' H' a b v w _ e3 ra (rb.mono e2) q2
  exact h Q (k z d E1 H1 H' f1 e1 (rz _) q3)
/-- the right one looked at: x in found -/
def xOpR (x : X2) (xa : XE) (i : Nat) : XE := fun E R => xa E fun a E1 => pk E1 i fun b => x a b fun c => R c E1
theorem rf_opR {r : R2} {x : X2} {i : Nat} {ta : TE} {xa : XE} (hr : Pu2 K r x) (ha : Rf K ta xa) : Rf K (tOp r ta (tVar i)) (xOpR x xa i) := fun B H0 H al E σ f Q R hx k =>
  ha B H0 H al E σ f _ _ hx fun v a E1 H1 H' f1 e1 ra q => by
    obtain ⟨w, b, Hp', hv', rb, e2, e3, q2⟩ := f1.peek q
    obtain ⟨d, z, q3, rz, h⟩ := hr Hp' H' a b v w _ e3 (ra.mono e2) rb q2
    exact ⟨w, hv', h Q (k z d E1 H1 H' f1 e1 (rz _) q3)⟩
/-- a builtin of one name: len(found), min(found) -/
def xCBp (x : X1s) (i : Nat) : XE := fun E R => pk E i fun a => x [a] fun c => R c E
theorem rf_cbp {r : List V → Hp → VK → Prop} {x : X1s} {i : Nat} (hr : PuB K r x) : Rf K (tCB r (tCons (tVar i) tNil)) (xCBp x i) := fun B H0 H al E σ f Q R hx k => by
  obtain ⟨v, a, Hp', hv, ra, e2, e3, q2⟩ := f.peek hx
  obtain ⟨d, z, q3, rz, h⟩ := hr Hp' H [a] [v] _ e3 (.one ra) q2
  exact ⟨v, hv, h Q (k z d E H0 H f (Ex.refl _) (rz _) q3)⟩

/-! ### targets -/
abbrev XG := D → List Sl → (List Sl → Prop) → Prop
abbrev XGs := List D → List Sl → (List Sl → Prop) → Prop
def RfG (K : PySem.W.Frag) (g : TG) (x : XG) (is : List Nat) : Prop := ∀ (B : Bs) (H0 H : Hp) (al : Nat → List Addr) (E : List Sl) (σ : St), Fr K B H0 H al E σ → ∀ (d : D) (v : V), Rep K H0 d v → ∀ (Q : St → Hp → Prop) (R : List Sl → Prop), x d E R →
  (∀ E' σ', Fr K B H0 H al E' σ' → (∀ vs : List Nat, (∀ i ∈ is, i ∈ vs) → wipe σ' vs = wipe σ vs) → R E' → Q σ' H) → g v σ H Q
def RfGs (K : PySem.W.Frag) (g : TGs) (x : XGs) (is : List Nat) : Prop := ∀ (B : Bs) (H0 H : Hp) (al : Nat → List Addr) (E : List Sl) (σ : St), Fr K B H0 H al E σ → ∀ (ds : List D) (vs : List V), RepL K H0 ds vs → ∀ (Q : St → Hp → Prop) (R : List Sl → Prop), x ds E R →
  (∀ E' σ', Fr K B H0 H al E' σ' → (∀ vs : List Nat, (∀ i ∈ is, i ∈ vs) → wipe σ' vs = wipe σ vs) → R E' → Q σ' H) → g vs σ H Q
theorem wipe_set : ∀ {vs : List Nat} {σ : St} {i : Nat} {x : Option V}, i ∈ vs → wipe (σ.set i x) vs = wipe σ vs
  | [], _, _, _, h => by cases h
  | v :: vs, σ, i, x, h => by
    show (wipe (σ.set i x) vs).set v none = (wipe σ vs).set v none
    by_cases q : i ∈ vs
    · rw [wipe_set q]
    · have e : i = v := by
        rcases List.mem_cons.mp h with e | e
        · exact e
        · exact absurd e q
      subst e
      have key : ∀ (vs : List Nat) (σ : St), i ∉ vs → wipe (σ.set i x) vs = (wipe σ vs).set i x := by
        intro vs
        induction vs with
        | nil => intro σ _; rfl
        | cons w r ih =>
          intro σ hn
          show (wipe (σ.set i x) r).set w none = ((wipe σ r).set w none).set i x
          rw [ih σ fun z => hn (List.mem_cons_of_mem _ z), List.set_comm]
          intro z
          exact hn (by rw [z]; exact List.mem_cons_self)
      rw [key vs σ q, List.set_set]
theorem wipe_wipe (σ : St) : ∀ (vs : List Nat), wipe (wipe σ vs) vs = wipe σ vs := by
  intro vs
  have sub : ∀ (ws : List Nat), (∀ i ∈ ws, i ∈ vs) → wipe (wipe σ ws) vs = wipe σ vs := by
    intro ws
    induction ws with
    | nil => intro _; rfl
    | cons w r ih =>
      intro h
      show wipe ((wipe σ r).set w none) vs = wipe σ vs
      rw [wipe_set (h w List.mem_cons_self)]
      exact ih fun i hi => h i (List.mem_cons_of_mem _ hi)
  exact sub vs fun _ h => h
def noio (E : List Sl) (i : Nat) (R : Prop) : Prop := match nth E i with
  | .own true _ => False
  | _ => R
theorem noio_ne {E : List Sl} {i : Nat} {R : Prop} (h : noio E i R) : R ∧ ∀ d, nth E i ≠ .own true d := by
  unfold noio at h
  split at h
  · exact h.elim
  · rename_i q
    exact ⟨h, fun d z => q d z⟩
def xgName (i : Nat) : XG := fun d E R => noio E i (R (put E i (.val d)))
theorem rg_name {i : Nat} : RfG K (gName i) (xgName i) [i] := fun B H0 H al E σ f d v r Q R hx k => by
  obtain ⟨q, n⟩ := noio_ne hx
  exact k _ _ ⟨f.wd.setVal (fun _ _ z => by cases z) n, f.sg.setVal r⟩ (fun vs hv => wipe_set (hv i List.mem_cons_self)) q
def xgNil : XGs := fun ds E R => match ds with
  | [] => R E
  | _ => False
theorem rgs_nil : RfGs K gNil xgNil [] := fun B H0 H al E σ f ds vs r Q R hx k => by
  cases ds with
  | nil => exact ⟨r, k _ _ f (fun _ _ => rfl) hx⟩
  | cons => exact (show False from hx).elim
def xgCons (x : XG) (xs : XGs) : XGs := fun ds E R => match ds with
  | d :: r => x d E fun E1 => xs r E1 R
  | _ => False
theorem rgs_cons {g : TG} {gs : TGs} {x : XG} {xs : XGs} {is js : List Nat} (h : RfG K g x is) (hs : RfGs K gs xs js) : RfGs K (gCons g gs) (xgCons x xs) (is ++ js) := fun B H0 H al E σ f ds vs r Q R hx k => by
  cases ds with
  | nil => exact (show False from hx).elim
  | cons d ds =>
    obtain ⟨v, ws, e, rd, rs⟩ := (show ∃ x ys, vs = x :: ys ∧ Rep K H0 d x ∧ RepL K H0 ds ys from r)
    refine ⟨v, ws, e, h B H0 H al E σ f d v rd _ _ hx fun E1 σ1 f1 w1 q1 => ?_⟩
    refine hs B H0 H al E1 σ1 f1 ds ws rs Q R q1 fun E2 σ2 f2 w2 q2 => k E2 σ2 f2 (fun vs hv => ?_) q2
    rw [w2 vs fun i hi => hv i (List.mem_append_right _ hi), w1 vs fun i hi => hv i (List.mem_append_left _ hi)]
def xgTup (n : Nat) (xs : XGs) : XG := fun d E R => match d with
  | .tup ds => ds.length = n ∧ xs ds E R
  | _ => False
theorem rg_tup {n : Nat} {gs : TGs} {xs : XGs} {is : List Nat} (h : RfGs K gs xs is) : RfG K (gTup K n gs) (xgTup n xs) is := fun B H0 H al E σ f d v r Q R hx k => by
  cases d with
  | tup ds =>
    obtain ⟨a, ws, e, hq, rl⟩ := (rep_tup r)
    exact ⟨a, ws, e, ex_t f.wd.ex hq, by rw [rl.length]; exact hx.1, h B H0 H al E σ f ds ws rl Q R hx.2 k⟩
  | _ => exact (show False from hx).elim
def xAsg (x : XE) (g : XG) : XS := fun XD E => x E fun d E1 => g d E1 XD.nx
theorem rs_asg {t : TE} {x : XE} {g : TG} {xg : XG} {is : List Nat} (h : Rf K t x) (hg : RfG K g xg is) : RfS K (tAsg t g) (xAsg x xg) := fun B H0 H al E σ f Dd XD hx o =>
  h B H0 H al E σ f _ _ hx fun v d E' H0' H' f' e r q => hg B H0' H' al E' σ f' d v r _ _ q fun E2 σ2 f2 _ q2 => o.nx H0' H' al E2 σ2 f2 e q2
/-- a name for a new list of one's own -/
def xAsgO (x : XE) (i : Nat) : XS := fun XD E => x E fun d E1 => noio E1 i (XD.nx (put E1 i (.own false d)))
theorem rs_asgO {t : TE} {x : XE} {i : Nat} (h : RfF K t x) : RfS K (tAsg t (gName i)) (xAsgO x i) := fun B H0 H al E σ f Dd XD hx o =>
  h B H0 H al E σ f _ _ hx fun l d E' H0' H' f' e ro hf q => by
    obtain ⟨q, n⟩ := noio_ne q
    exact o.nx H0' H' _ _ _ ⟨f'.wd.setOwn ro hf n, f'.sg.setOwn⟩ e q
def xAug (i : Nat) (fn : Int → Int → Int) (x : XE) : XS := fun XD E => match nth E i with
  | .val (.int a) => x E fun d E1 => match d with
    | .int b => noio E1 i (XD.nx (put E1 i (.val (.int (fn a b)))))
    | _ => False
  | _ => False
theorem rs_aug {i : Nat} {fn : Int → Int → Int} {t : TE} {x : XE} (h : Rf K t x) : RfS K (tAug i t (ipI fn)) (xAug i fn x) := fun B H0 H al E σ f Dd XD hx o => by
  unfold xAug at hx
  split at hx
  · rename_i a q
    obtain ⟨v, hv, r⟩ := f.sg.val i _ q
    refine ⟨v, hv, h B H0 H al E σ f _ _ hx fun w d E' H0' H' f' e rw' q' => ?_⟩
    cases d with
    | int b =>
      obtain ⟨q2, n⟩ := noio_ne q'
      exact ⟨a, b, r, rw', o.nx H0' H' al _ _ ⟨f'.wd.setVal (fun _ _ z => by cases z) n, f'.sg.setVal (d := .int (fn a b)) rfl⟩ e q2⟩
    | _ => exact (show False from q').elim
  · exact hx.elim

/-! ### loops -/
def xWhileN (c : XT) (xb : XS) (XD : XEnds) : Nat → List Sl → Prop
  | 0, _ => False
  | n + 1, E => c E fun b E1 => if b = true then xb { nx := xWhileN c xb XD n, rt := XD.rt, bk := XD.nx, ct := xWhileN c xb XD n } E1 else XD.nx E1
def xWhile (c : XT) (xb : XS) : XS := fun XD E => ∃ n, xWhileN c xb XD n E
theorem rs_while {c : TT} {tb : TS} {xc : XT} {xb : XS} (hc : RfT K c xc) (hb : RfS K tb xb) : RfS K (tWhile c tb) (xWhile xc xb) := fun B H0 H al E σ f Dd XD hx o => by
  obtain ⟨n, hn⟩ := hx
  refine ⟨fun m σ' H' => ∃ H0' al' E', Fr K B H0' H' al' E' σ' ∧ Ex H0 H0' ∧ xWhileN xc xb XD m E', ⟨n, H0, al, E, f, Ex.refl _, hn⟩, ?_⟩
  rintro m σ' H' ⟨H0', al', E', f', e', hm⟩
  cases m with
  | zero => exact hm.elim
  | succ m =>
    refine hc B H0' H' al' E' σ' f' _ _ hm fun b E2 H2 H'' f2 e2 q => ?_
    cases b with
    | true =>
      refine iteT ⟨fun σ3 H3 => ∃ H03 al3 E3, Fr K B H03 H3 al3 E3 σ3 ∧ Ex H0 H03 ∧ xWhileN xc xb XD m E3, fun σ3 H3 z => ⟨m, Nat.lt_succ_self _, z⟩, ?_⟩
      have e3 := e'.trans e2
      exact hb B H2 H'' al' E2 σ' f2 _ _ q ⟨fun H03 H3 al3 E3 σ3 f3 x3 z => ⟨H03, al3, E3, f3, e3.trans x3, z⟩, fun H03 H3 al3 E3 σ3 d v f3 x3 r z => o.rt H03 H3 al3 E3 σ3 d v f3 (e3.trans x3) r z,
        fun H03 H3 al3 E3 σ3 f3 x3 z => o.nx H03 H3 al3 E3 σ3 f3 (e3.trans x3) z, fun H03 H3 al3 E3 σ3 f3 x3 z => ⟨H03, al3, E3, f3, e3.trans x3, z⟩⟩
    | false =>
      refine iteF ?_
      exact o.nx H2 H'' al' E2 σ' f2 (e'.trans e2) q
/-- what is walked: its items -/
structure JOk (K : PySem.W.Frag) (J : It) (H0 : Hp) (ds : List D) : Prop where
  step : ∀ (B : Bs) (H0' H' : Hp) (al' : Nat → List Addr) (E' : List Sl) (σ' : St) (i : Nat) (d : D), Ex H0 H0' → Fr K B H0' H' al' E' σ' → ds[i]? = some d →
    J.go i H' ∧ ∀ x H'', J.yld i H' x H'' → ∃ H0'', Fr K B H0'' H'' al' E' σ' ∧ Ex H0' H0'' ∧ Rep K H0'' d x ∧ ∀ b o, H' b = some o → H'' b = some o
  stop : ∀ (H0' H' : Hp), Ex H0 H0' → Ex H0' H' → J.stop ds.length H'
theorem JOk.mono {J : It} {H0 H1 : Hp} {ds : List D} (e : Ex H0 H1) (j : JOk K J H0 ds) : JOk K J H1 ds :=
  ⟨fun B H0' H' al' E' σ' i d x f q => j.step B H0' H' al' E' σ' i d (e.trans x) f q, fun H0' H' x y => j.stop H0' H' (e.trans x) y⟩
abbrev XI := List Sl → (List D → List Sl → Prop) → Prop
def RfI (K : PySem.W.Frag) (t : TI) (x : XI) : Prop := ∀ (B : Bs) (H0 H : Hp) (al : Nat → List Addr) (E : List Sl) (σ : St), Fr K B H0 H al E σ → ∀ (Q : It → Hp → Prop) (R : List D → List Sl → Prop), x E R →
  (∀ J ds E' H0' H', Fr K B H0' H' al E' σ → Ex H0 H0' → JOk K J H0' ds → R ds E' → Q J H') → t σ H Q
def xForL (g : XG) (xb : XS) (XD : XEnds) : List D → List Sl → Prop
  | [], E => XD.nx E
  | d :: ds, E => g d E fun E1 => xb { nx := xForL g xb XD ds, rt := XD.rt, bk := XD.nx, ct := xForL g xb XD ds } E1
def xFor (xi : XI) (g : XG) (xb : XS) : XS := fun XD E => xi E fun ds E1 => xForL g xb XD ds E1
theorem drop_of {α : Type} {l : List α} {i : Nat} (h : i < l.length) : l.drop i = l[i] :: l.drop (i + 1) := List.drop_eq_getElem_cons h
theorem rs_for {ti : TI} {xi : XI} {g : TG} {xg : XG} {is : List Nat} {tb : TS} {xb : XS} (hi : RfI K ti xi) (hg : RfG K g xg is) (hb : RfS K tb xb) : RfS K (tFor ti g tb) (xFor xi xg xb) := fun B H0 H al E σ f Dd XD hx o =>
  hi B H0 H al E σ f _ _ hx fun J ds E1 H1 H1' f1 e1 j hf => by
    refine ⟨fun i m σ' H' => ∃ H0' al' E', Fr K B H0' H' al' E' σ' ∧ Ex H1 H0' ∧ m = ds.length - i ∧ i ≤ ds.length ∧ xForL xg xb XD (ds.drop i) E', ⟨ds.length, H1, al, E1, f1, Ex.refl _, by omega, Nat.zero_le _, hf⟩, ?_⟩
    rintro i m σ' H' ⟨H0', al', E', f', e', em, hle, q⟩
    by_cases hlt : i < ds.length
    · have hd : ds[i]? = some ds[i] := List.getElem?_eq_getElem hlt
      obtain ⟨go, yl⟩ := j.step B H0' H' al' E' σ' i ds[i] e' f' hd
      refine .inr ⟨go, fun σ3 H3 => ∃ H03 al3 E3, Fr K B H03 H3 al3 E3 σ3 ∧ Ex H1 H03 ∧ xForL xg xb XD (ds.drop (i + 1)) E3, fun σ3 H3 z => ?_, fun x H'' hy => ?_⟩
      · obtain ⟨H03, al3, E3, f3, e3, z⟩ := z
        exact ⟨ds.length - (i + 1), by omega, H03, al3, E3, f3, e3, rfl, hlt, z⟩
      · obtain ⟨H0'', f2, e2, r2, _⟩ := yl x H'' hy
        rw [drop_of hlt] at q
        refine hg B H0'' H'' al' E' σ' f2 ds[i] x r2 _ _ q fun E4 σ4 f4 _ q4 => ?_
        have e3 := e'.trans e2
        exact hb B H0'' H'' al' E4 σ4 f4 _ _ q4 ⟨fun H03 H3 al3 E3 σ3 f3 x3 z => ⟨H03, al3, E3, f3, e3.trans x3, z⟩, fun H03 H3 al3 E3 σ3 d v f3 x3 r z => o.rt H03 H3 al3 E3 σ3 d v f3 ((e1.trans e3).trans x3) r z,
          fun H03 H3 al3 E3 σ3 f3 x3 z => o.nx H03 H3 al3 E3 σ3 f3 ((e1.trans e3).trans x3) z, fun H03 H3 al3 E3 σ3 f3 x3 z => ⟨H03, al3, E3, f3, e3.trans x3, z⟩⟩
    · have he : i = ds.length := by omega
      subst he
      rw [List.drop_length] at q
      exact .inl ⟨j.stop H0' H' e' f'.wd.ex, o.nx H0' H' al' E' σ' f' (e1.trans e') q⟩
/-! what is walked -/
theorem jok_list {H0 : Hp} {a : Addr} {xs : List V} {ds : List D} (hq : SqL K H0 a xs) (r : RepL K H0 ds xs) : JOk K (Itl K a) H0 ds where
  step := fun B H0' H' al' E' σ' i d e f hd => by
    obtain ⟨v, hv, rv⟩ := r.get hd
    have hq' := ex_l f.wd.ex (ex_l e hq)
    refine ⟨⟨xs, v, hq', hv⟩, fun x H'' hy => ?_⟩
    obtain ⟨rfl, h⟩ := hy
    have := h xs hq'
    rw [hv] at this
    cases this
    exact ⟨H0', f, Ex.refl _, rv.mono e, fun _ _ h => h⟩
  stop := fun H0' H' e e' => ⟨xs, ex_l e' (ex_l e hq), by rw [r.length]; exact Nat.le_refl _⟩
theorem jok_tup {H0 : Hp} {a : Addr} {xs : List V} {ds : List D} (hq : SqT K H0 a xs) (r : RepL K H0 ds xs) : JOk K (Itt K a) H0 ds where
  step := fun B H0' H' al' E' σ' i d e f hd => by
    obtain ⟨v, hv, rv⟩ := r.get hd
    have hq' := ex_t f.wd.ex (ex_t e hq)
    refine ⟨⟨xs, v, hq', hv⟩, fun x H'' hy => ?_⟩
    obtain ⟨rfl, h⟩ := hy
    have := h xs hq'
    rw [hv] at this
    cases this
    exact ⟨H0', f, Ex.refl _, rv.mono e, fun _ _ h => h⟩
  stop := fun H0' H' e e' => ⟨xs, ex_t e' (ex_t e hq), by rw [r.length]; exact Nat.le_refl _⟩
def xiL (x : XE) : XI := fun E R => x E fun d E1 => match d with
  | .lst ds => R ds E1
  | _ => False
theorem ri_list {t : TE} {x : XE} (h : Rf K t x) : RfI K (iList K t) (xiL x) := fun B H0 H al E σ f Q R hx k =>
  h B H0 H al E σ f _ _ hx fun v d E' H0' H' f' e r q => by
    cases d with
    | lst ds =>
      obtain ⟨a, ws, e2, hq, rl⟩ := (show ∃ a xs, v = .ref a ∧ H0' a = some (.lst xs) ∧ RepL K H0' ds xs from r)
      exact ⟨a, e2, ⟨ws, SqL.of (f'.wd.ex _ _ hq)⟩, k _ ds E' H0' H' f' e (jok_list (SqL.of hq) rl) q⟩
    | _ => exact (show False from q).elim
def xiT (x : XE) : XI := fun E R => x E fun d E1 => match d with
  | .tup ds => R ds E1
  | _ => False
theorem ri_tup {t : TE} {x : XE} (h : Rf K t x) : RfI K (iTup K t) (xiT x) := fun B H0 H al E σ f Q R hx k =>
  h B H0 H al E σ f _ _ hx fun v d E' H0' H' f' e r q => by
    cases d with
    | tup ds =>
      obtain ⟨a, ws, e2, hq, rl⟩ := (rep_tup r)
      exact ⟨a, e2, ⟨ws, ex_t f'.wd.ex hq⟩, k _ ds E' H0' H' f' e (jok_tup hq rl) q⟩
    | _ => exact (show False from q).elim
def rgD (lo : Int) (n : Nat) : List D := (List.range n).map fun i => .int (lo + (i : Nat))
theorem jok_rng {H0 : Hp} {lo : Int} {n : Nat} : JOk K (Itr lo n) H0 (rgD lo n) where
  step := fun B H0' H' al' E' σ' i d e f hd => by
    unfold rgD at hd
    rw [List.getElem?_map] at hd
    have hl : i < n := by
      cases q : (List.range n)[i]? with
      | none => rw [q] at hd; cases hd
      | some z =>
        have := (List.getElem?_eq_some_iff.mp q).1
        simpa using this
    rw [List.getElem?_range hl] at hd
    cases hd
    refine ⟨hl, fun x H'' hy => ?_⟩
    obtain ⟨rfl, rfl⟩ := hy
    exact ⟨H0', f, Ex.refl _, rfl, fun _ _ h => h⟩
  stop := fun H0' H' e e' => by
    show n ≤ (rgD lo n).length
    unfold rgD
    simp
def Sm (i : Int) : Prop := -(2 ^ 62) ≤ i ∧ i < 2 ^ 62
def xiR1 (x : XE) : XI := fun E R => x E fun d E1 => match d with
  | .int j => Sm j ∧ R (rgD 0 j.toNat) E1
  | _ => False
theorem ri_rng1 {t : TE} {x : XE} (h : Rf K t x) : RfI K (iRng1 (tCons t tNil)) (xiR1 x) := fun B H0 H al E σ f Q R hx k =>
  h B H0 H al E σ f _ _ hx fun v d E' H0' H' f' e r q => by
    cases d with
    | int j => exact ⟨j, congrArg (fun z => [z]) r, q.1.1, q.1.2, k _ _ E' H0' H' f' e jok_rng q.2⟩
    | _ => exact (show False from q).elim
def xiR2 (x y : XE) : XI := fun E R => x E fun a E1 => y E1 fun b E2 => match a, b with
  | .int i, .int j => Sm i ∧ Sm j ∧ R (rgD i (j - i).toNat) E2
  | _, _ => False
theorem ri_rng2 {t u : TE} {x y : XE} (h : Rf K t x) (h2 : Rf K u y) : RfI K (iRng2 (tCons t (tCons u tNil))) (xiR2 x y) := fun B H0 H al E σ f Q R hx k =>
  h B H0 H al E σ f _ _ hx fun v a E1 H1 H1' f1 e1 r1 q1 => h2 B H1 H1' al E1 σ f1 _ _ q1 fun w b E2 H2 H2' f2 e2 r2 q2 => by
    cases a with
    | int i =>
      cases b with
      | int j =>
        refine ⟨i, j, ?_, ⟨q2.1.1, q2.1.2, q2.2.1.1, q2.2.1.2⟩, k _ _ E2 H2 H2' f2 (e1.trans e2) jok_rng q2.2.2⟩
        rw [show v = .int i from r1, show w = .int j from r2]
      | _ => exact (show False from q2).elim
    | _ => cases b <;> exact (show False from q2).elim

/-! ### comprehensions -/
def wipeE (E : List Sl) : List Nat → List Sl
  | [] => E
  | v :: vs => put (wipeE E vs) v .un
/-- the slots vs as they were -/
def backE (E0 : List Sl) : List Nat → List Sl → List Sl
  | [], E => E
  | v :: vs, E => put (backE E0 vs E) v (nth E0 v)
def noOwn (E : List Sl) : List Nat → Prop → Prop
  | [], R => R
  | v :: vs, R => match nth E v with
    | .own _ _ => False
    | _ => noOwn E vs R
theorem noOwn_ok {E : List Sl} {R : Prop} : ∀ {vs : List Nat}, noOwn E vs R → R ∧ ∀ v ∈ vs, ∀ io d, nth E v ≠ .own io d
  | [], h => ⟨h, fun _ h => by cases h⟩
  | v :: vs, h => by
    unfold noOwn at h
    split at h
    · exact h.elim
    · rename_i q
      obtain ⟨a, b⟩ := noOwn_ok h
      refine ⟨a, fun w hw io d z => ?_⟩
      rcases List.mem_cons.mp hw with rfl | hw
      · exact q io d z
      · exact b w hw io d z
theorem wipeE_length (E : List Sl) : ∀ vs : List Nat, (wipeE E vs).length = E.length
  | [] => rfl
  | v :: vs => by unfold wipeE; rw [put_length, wipeE_length E vs]
theorem wipeE_out {E : List Sl} {i : Nat} : ∀ {vs : List Nat}, i ∉ vs → nth (wipeE E vs) i = nth E i
  | [], _ => rfl
  | v :: vs, h => by
    unfold wipeE
    rw [nth_put_ne fun z => h (by rw [z]; exact List.mem_cons_self), wipeE_out fun z => h (List.mem_cons_of_mem _ z)]
theorem nth_put_un {E : List Sl} {i : Nat} : nth (put E i .un) i = .un := by
  rcases nth_put (E := E) (i := i) (j := i) (x := .un) rfl with ⟨_, q⟩ | ⟨n, _⟩
  · rcases q with q | q <;> exact q
  · exact absurd rfl n
theorem wipeE_in {E : List Sl} {i : Nat} : ∀ {vs : List Nat}, i ∈ vs → nth (wipeE E vs) i = .un
  | [], h => by cases h
  | v :: vs, h => by
    unfold wipeE
    by_cases q : i = v
    · subst q; exact nth_put_un
    · rw [nth_put_ne q]
      rcases List.mem_cons.mp h with e | e
      · exact absurd e q
      · exact wipeE_in e
theorem Fr.wipe {B : Bs} {H0 H : Hp} {al : Nat → List Addr} {E : List Sl} {σ : St} {vs : List Nat} (f : Fr K B H0 H al E σ) (hn : ∀ v ∈ vs, ∀ io d, nth E v ≠ .own io d) : Fr K B H0 H al (wipeE E vs) (L2.wipe σ vs) := by
  have look : ∀ {i : Nat} {x : Sl}, nth (wipeE E vs) i = x → x ≠ .un → i ∉ vs ∧ nth E i = x := fun {i x} h hx => by
    by_cases q : i ∈ vs
    · rw [wipeE_in q] at h; exact absurd h.symm hx
    · rw [wipeE_out q] at h; exact ⟨q, h⟩
  refine ⟨⟨f.wd.ex, fun i io d h => f.wd.own i io d (look h (by intro z; cases z)).2, fun i j io jo d e b h1 h2 x y => f.wd.inj i j io jo d e b (look h1 (by intro z; cases z)).2 (look h2 (by intro z; cases z)).2 x y, f.wd.kp, f.wd.e0, f.wd.nw, f.wd.lv, fun j a h => ?_, f.wd.tb, f.wd.t0⟩, ?_, fun i d h => ?_, fun i io d h => ?_⟩
  · obtain ⟨e, d, q⟩ := f.wd.pin j a h
    have : j ∉ vs := fun z => hn j z true d q
    exact ⟨e, d, by rw [wipeE_out this]; exact q⟩
  · rw [wipe_length, wipeE_length]; exact f.sg.len
  · obtain ⟨n, q⟩ := look h (by intro z; cases z)
    obtain ⟨v, a, b⟩ := f.sg.val i d q
    exact ⟨v, by rw [wipe_out n]; exact a, b⟩
  · obtain ⟨n, q⟩ := look h (by intro z; cases z)
    rw [wipe_out n]; exact f.sg.own i io d q
theorem backE_length (E0 E : List Sl) : ∀ vs : List Nat, (backE E0 vs E).length = E.length
  | [] => rfl
  | v :: vs => by unfold backE; rw [put_length, backE_length E0 E vs]
theorem backE_out {E0 E : List Sl} {i : Nat} : ∀ {vs : List Nat}, i ∉ vs → nth (backE E0 vs E) i = nth E i
  | [], _ => rfl
  | v :: vs, h => by
    unfold backE
    rw [nth_put_ne fun z => h (by rw [z]; exact List.mem_cons_self), backE_out fun z => h (List.mem_cons_of_mem _ z)]
theorem backE_in {E0 E : List Sl} {i : Nat} {x : Sl} : ∀ {vs : List Nat}, i ∈ vs → nth (backE E0 vs E) i = x → x ≠ .un → nth E0 i = x
  | [], h, _, _ => by cases h
  | v :: vs, h, hx, hn => by
    unfold backE at hx
    rcases nth_put hx with ⟨rfl, q⟩ | ⟨n, q⟩
    · rcases q with q | q
      · exact q.symm
      · exact absurd q hn
    · rcases List.mem_cons.mp h with e | e
      · exact absurd e n
      · exact backE_in e q hn
/-- behind a comprehension: its own slots as they were -/
theorem Fr.restore {B : Bs} {H0 H0' H H' : Hp} {al : Nat → List Addr} {E E' : List Sl} {σ : St} {vs : List Nat} (f : Fr K B H0 H al E σ) (f' : Fr K B H0' H' al E' (L2.wipe σ vs)) (e : Ex H0 H0') (hn : ∀ v ∈ vs, ∀ io d, nth E v ≠ .own io d) : Fr K B H0' H' al (backE E vs E') σ := by
  have look : ∀ {i : Nat} {x : Sl}, nth (backE E vs E') i = x → x ≠ .un → (i ∈ vs ∧ nth E i = x) ∨ (i ∉ vs ∧ nth E' i = x) := fun {i x} h hx => by
    by_cases q : i ∈ vs
    · exact .inl ⟨q, backE_in q h hx⟩
    · rw [backE_out q] at h; exact .inr ⟨q, h⟩
  have lookO : ∀ {i : Nat} {io : Bool} {d : D}, nth (backE E vs E') i = .own io d → i ∉ vs ∧ nth E' i = .own io d := fun {i io d} h => by
    rcases look h (by intro z; cases z) with ⟨a, b⟩ | q
    · exact absurd b (hn i a io d)
    · exact q
  refine ⟨⟨f'.wd.ex, fun i io d h => f'.wd.own i io d (lookO h).2, fun i j io jo d e b h1 h2 x y => f'.wd.inj i j io jo d e b (lookO h1).2 (lookO h2).2 x y, f'.wd.kp, f'.wd.e0, f'.wd.nw, f'.wd.lv, fun j a h => ?_, f'.wd.tb, f'.wd.t0⟩, ?_, fun i d h => ?_, fun i io d h => ?_⟩
  · obtain ⟨e1, d, q⟩ := f'.wd.pin j a h
    obtain ⟨_, d2, q2⟩ := f.wd.pin j a h
    have : j ∉ vs := fun z => hn j z true d2 q2
    exact ⟨e1, d, by rw [backE_out this]; exact q⟩
  · rw [backE_length, ← f'.sg.len, wipe_length]
  · rcases look h (by intro z; cases z) with ⟨a, b⟩ | ⟨a, b⟩
    · obtain ⟨v, x, y⟩ := f.sg.val i d b
      exact ⟨v, x, y.mono e⟩
    · obtain ⟨v, x, y⟩ := f'.sg.val i d b
      rw [wipe_out a] at x
      exact ⟨v, x, y⟩
  · obtain ⟨a, b⟩ := lookO h
    have := f'.sg.own i io d b
    rw [wipe_out a] at this
    exact this
/-- the block's slots are the same but for its own names -/
theorem Sg.rewipe {H0 : Hp} {al : Nat → List Addr} {E : List Sl} {σ σ' : St} {vs : List Nat} (h : L2.wipe σ' vs = L2.wipe σ vs) : True := trivial
def xLcL (g : XG) (xt : XT) (xe : XE) (vs : List Nat) (R : List D → List Sl → Prop) : List D → List D → List Sl → Prop
  | [], acc, E => R acc E
  | d :: ds, acc, E => g d E fun E1 => xt E1 fun b E2 => if b = true then xe E2 fun y E3 => noOwn E3 vs (acc.length < 16777216 ∧ xLcL g xt xe vs R ds (acc ++ [y]) (wipeE E3 vs)) else noOwn E2 vs (xLcL g xt xe vs R ds acc (wipeE E2 vs))
def xLc (xi : XI) (g : XG) (xt : XT) (xe : XE) (vs : List Nat) : XE := fun E R => xi E fun ds E1 => noOwn E1 vs (xLcL g xt xe vs (fun acc E2 => R (.lst acc) (backE E1 vs E2)) ds [] (wipeE E1 vs))
def xYes : XT := fun E R => R true E
theorem rt_yes : RfT K tYes xYes := fun B H0 H al E σ f Q R hx k => k true E H0 H f (Ex.refl _) hx
theorem ff_lc {ti : TI} {xi : XI} {g : TG} {xg : XG} {is : List Nat} {tt : TT} {xt : XT} {te : TE} {xe : XE} {vs : List Nat} (hi : RfI K ti xi) (hg : RfG K g xg is) (ht : RfT K tt xt) (he : Rf K te xe) (hv : ∀ i ∈ is, i ∈ vs) : RfF K (tLc ti g tt te vs) (xLc xi xg xt xe vs) := fun B H0 H al E σ f Q R hx k =>
  hi B H0 H al E σ f _ _ hx fun J ds E1 H1 H1' f1 e1 j hf => by
    intro D hD
    obtain ⟨hl, hn1⟩ := noOwn_ok hf
    have g0 : H1 D = none := f1.wd.ex.free hD
    -- the state between the turns
    refine ⟨fun i m H' => ∃ H0' E' acc accV, Fr K B H0' H' al E' (wipe σ vs) ∧ Ex H1 H0' ∧ H0' D = none ∧ H' D = some (.lst accV) ∧ RepL K H0' acc accV ∧ (∀ j jo e, nth E' j = .own jo e → D ∉ al j) ∧
      m = ds.length - i ∧ i ≤ ds.length ∧ xLcL xg xt xe vs (fun acc E2 => R (.lst acc) (backE E1 vs E2)) (ds.drop i) acc E',
      ⟨ds.length, H1, wipeE E1 vs, [], [], ⟨(f1.wipe hn1).wd.raw hD, (f1.wipe hn1).sg⟩, Ex.refl _, g0, upd_same, rfl, fun jj jo e hj => (f1.wipe hn1).wd.ne hD hj, by omega, Nat.zero_le _, hl⟩, ?_⟩
    rintro i m H' ⟨H0', E', acc, accV, f', e', d0, dV, ra, hne, em, hle, q⟩
    by_cases hlt : i < ds.length
    · have hd : ds[i]? = some ds[i] := List.getElem?_eq_getElem hlt
      -- a base of its own for the turn
      have fb : Fr K (B.here H0' H' al E') H0' H' al E' (wipe σ vs) := ⟨f'.wd.here, f'.sg⟩
      obtain ⟨go, yl⟩ := j.step _ H0' H' al E' (wipe σ vs) i ds[i] e' fb hd
      have keepD : ∀ {H0a Ha : Hp} {Ea : List Sl}, Wd K (B.here H0' H' al E') H0a Ha al Ea → Ha D = some (.lst accV) ∧ H0a D = none ∧ ∀ j jo e, nth Ea j = .own jo e → D ∉ al j := fun {H0a Ha Ea} wa => by
        have nf : ¬ (B.here H0' H' al E').fp D := fun ⟨jj, jo, e, hj, hz⟩ => hne jj jo e hj hz
        refine ⟨wa.kp D _ dV nf (fun _ z => by cases z), ?_, fun jj jo e hj z => ?_⟩
        · cases qd : H0a D with
          | none => rfl
          | some o =>
            rcases wa.nw D o qd with z | z | z
            · have z : H0' D = some o := z
              rw [d0] at z; cases z
            · have z : H' D = none := z
              rw [dV] at z; cases z
            · exact absurd z nf
        · rcases ((wa.own jj jo e hj).2 D z).2 with c | c
          · exact nf c
          · have c : H' D = none := c
            rw [dV] at c; cases c
      refine .inr ⟨go, fun H3 => ∃ H03 E3 acc3 accV3, Fr K B H03 H3 al E3 (wipe σ vs) ∧ Ex H1 H03 ∧ H03 D = none ∧ H3 D = some (.lst accV3) ∧ RepL K H03 acc3 accV3 ∧ (∀ j jo e, nth E3 j = .own jo e → D ∉ al j) ∧
        xLcL xg xt xe vs (fun acc E2 => R (.lst acc) (backE E1 vs E2)) (ds.drop (i + 1)) acc3 E3, fun H3 z => ?_, fun x H'' hy => ?_⟩
      · obtain ⟨H03, E3, acc3, accV3, f3, e3, a3, b3, c3, n3, z⟩ := z
        exact ⟨ds.length - (i + 1), by omega, H03, E3, acc3, accV3, f3, e3, a3, b3, c3, n3, rfl, hlt, z⟩
      · obtain ⟨H0'', f2, e2, r2, _⟩ := yl x H'' hy
        rw [drop_of hlt] at q
        refine hg _ H0'' H'' al E' (wipe σ vs) f2 ds[i] x r2 _ _ q fun E4 σ4 f4 w4 q4 => ?_
        have w5 : wipe σ4 vs = wipe σ vs := by rw [w4 vs hv, wipe_wipe]
        refine ⟨w5, ht _ H0'' H'' al E4 σ4 f4 _ _ q4 fun b E5 H05 H5 f5 e5 q5 => ?_⟩
        cases b with
        | true =>
          refine iteT ?_
          refine he _ H05 H5 al E5 σ4 f5 _ _ q5 fun y dy E6 H06 H6 f6 e6 r6 q6 => ?_
          obtain ⟨q7, n6⟩ := noOwn_ok q6
          obtain ⟨kD, kD0, kN⟩ := keepD f6.wd
          refine ⟨accV, kD, by rw [ra.length]; exact sz_lt q7.1, ?_⟩
          have fw : Fr K (B.here H0' H' al E') H06 H6 al (wipeE E6 vs) (wipe σ vs) := by
            have := f6.wipe n6
            rw [w5] at this
            exact this
          have fo : Fr K B H06 H6 al (wipeE E6 vs) (wipe σ vs) := ⟨f'.wd.back fw.wd, fw.sg⟩
          have own' : ∀ jj jo e, nth (wipeE E6 vs) jj = .own jo e → D ∉ al jj := (keepD fw.wd).2.2
          have ex6 : Ex H0' H06 := (e2.trans e5).trans e6
          have fm : Fr K B H06 (upd H6 D (.lst (accV ++ [y]))) al (wipeE E6 vs) (wipe σ vs) := by
            refine ⟨⟨fo.wd.ex.mut kD0, fun jj jo e hj => ?_, fo.wd.inj, fun b o hb nb nt => ?_, fo.wd.e0, fo.wd.nw, fun b hb => ?_, fo.wd.pin, tabs_put fo.wd.tb (keepD fw.wd).1 lst_tb, fo.wd.t0⟩, fo.sg⟩
            · obtain ⟨a, b⟩ := fo.wd.own jj jo e hj
              exact ⟨a.keep fun c hc => upd_ne fun z => own' jj jo e hj (by rw [← z]; exact hc), b⟩
            · have hbD : b ≠ D := fun z => by
                rw [z] at hb
                have : B.He D = none := f1.wd.lv _ hD
                rw [hb] at this; cases this
              rw [upd_ne hbD]
              exact fo.wd.kp b o hb nb nt
            · by_cases z : b = D
              · subst z; rw [upd_same] at hb; cases hb
              · rw [upd_ne z] at hb; exact fo.wd.lv b hb
          exact ⟨H06, wipeE E6 vs, acc ++ [dy], accV ++ [y], fm, e'.trans ex6, kD0, upd_same, (ra.mono ex6).append (.one r6), own', q7.2⟩
        | false =>
          refine iteF ?_
          obtain ⟨q7, n6⟩ := noOwn_ok q5
          have fw : Fr K (B.here H0' H' al E') H05 H5 al (wipeE E5 vs) (wipe σ vs) := by
            have := f5.wipe n6
            rw [w5] at this
            exact this
          obtain ⟨kD, kD0, kN⟩ := keepD fw.wd
          exact ⟨H05, wipeE E5 vs, acc, accV, ⟨f'.wd.back fw.wd, fw.sg⟩, (e'.trans e2).trans e5, kD0, kD, ra.mono (e2.trans e5), kN, q7⟩
    · have he : i = ds.length := by omega
      subst he
      rw [List.drop_length] at q
      refine .inl ⟨j.stop H0' H' e' f'.wd.ex, ?_⟩
      have fr := f1.restore f' e' hn1
      have nD : ∀ jj jo e, nth (backE E1 vs E') jj = .own jo e → D ∉ al jj := fun jj jo e hj => by
        by_cases z : jj ∈ vs
        · exact absurd (backE_in z hj (by intro z; cases z)) (hn1 jj z jo e)
        · rw [backE_out z] at hj
          exact hne jj jo e hj
      exact k [D] (.lst acc) _ H0' H' fr (e1.trans e') ⟨D, accV, rfl, dV, ra⟩ (fun b hb => by rw [List.mem_singleton.mp hb]; exact ⟨d0, f1.wd.lv _ hD, nD⟩) q
/-- .. whose items are new lists of one's own -/
def xLcFL (g : XG) (xt : XT) (xe : XE) (vs : List Nat) (R : List (List D) → List Sl → Prop) : List D → List (List D) → List Sl → Prop
  | [], acc, E => R acc E
  | d :: ds, acc, E => g d E fun E1 => xt E1 fun b E2 => if b = true then xe E2 fun y E3 => (match y with
      | .lst zs => noOwn E3 vs (acc.length < 16777216 ∧ xLcFL g xt xe vs R ds (acc ++ [zs]) (wipeE E3 vs))
      | _ => False) else noOwn E2 vs (xLcFL g xt xe vs R ds acc (wipeE E2 vs))
def xLcF (xi : XI) (g : XG) (xt : XT) (xe : XE) (vs : List Nat) : XE := fun E R => xi E fun ds E1 => noOwn E1 vs (xLcFL g xt xe vs (fun acc E2 => R (.lls acc) (backE E1 vs E2)) ds [] (wipeE E1 vs))
theorem ff_lcF {ti : TI} {xi : XI} {g : TG} {xg : XG} {is : List Nat} {tt : TT} {xt : XT} {te : TE} {xe : XE} {vs : List Nat} (hi : RfI K ti xi) (hg : RfG K g xg is) (ht : RfT K tt xt) (he : RfF K te xe) (hv : ∀ i ∈ is, i ∈ vs) : RfF K (tLc ti g tt te vs) (xLcF xi xg xt xe vs) := fun B H0 H al E σ f Q R hx k =>
  hi B H0 H al E σ f _ _ hx fun J ds E1 H1 H1' f1 e1 j hf => by
    intro D hD
    obtain ⟨hl, hn1⟩ := noOwn_ok hf
    have g0 : H1 D = none := f1.wd.ex.free hD
    have fw0 := f1.wipe hn1
    -- what is one's own between the turns: D and the places bs
    refine ⟨fun i m H' => ∃ H0' E' acc bs, Fr K B H0' H' al E' (wipe σ vs) ∧ Ex H1 H0' ∧ H' D = some (.lst (bs.map V.ref)) ∧ LL K H0' H' acc bs ∧ (D :: bs).Nodup ∧ Fre B H0' al E' (D :: bs) ∧
      m = ds.length - i ∧ i ≤ ds.length ∧ xLcFL xg xt xe vs (fun acc E2 => R (.lls acc) (backE E1 vs E2)) (ds.drop i) acc E',
      ⟨ds.length, H1, wipeE E1 vs, [], [], ⟨fw0.wd.raw hD, fw0.sg⟩, Ex.refl _, upd_same, rfl, by simp, fw0.wd.fre hD, by omega, Nat.zero_le _, hl⟩, ?_⟩
    rintro i m H' ⟨H0', E', acc, bs, f', e', dV, hLL, nd, hfr, em, hle, q⟩
    have liv : ∀ b ∈ D :: bs, ∃ o, H' b = some o := fun b hb => by
      rcases List.mem_cons.mp hb with z | z
      · subst z; exact ⟨_, dV⟩
      · exact hLL.live b z
    by_cases hlt : i < ds.length
    · have hd : ds[i]? = some ds[i] := List.getElem?_eq_getElem hlt
      have fb : Fr K (B.here H0' H' al E') H0' H' al E' (wipe σ vs) := ⟨f'.wd.here, f'.sg⟩
      obtain ⟨go, yl⟩ := j.step _ H0' H' al E' (wipe σ vs) i ds[i] e' fb hd
      -- they are kept by the turn
      have keepD : ∀ {H0a Ha : Hp} {Ea : List Sl}, Wd K (B.here H0' H' al E') H0a Ha al Ea → (∀ b ∈ D :: bs, Ha b = H' b) ∧ Fre B H0a al Ea (D :: bs) := fun {H0a Ha Ea} wa => by
        have nf : ∀ b ∈ D :: bs, ¬ (B.here H0' H' al E').fp b := fun b hb ⟨jj, jo, e, hj, hz⟩ => (hfr b hb).2.2 jj jo e hj hz
        refine ⟨fun b hb => ?_, fun b hb => ⟨?_, (hfr b hb).2.1, fun jj jo e hj z => ?_⟩⟩
        · obtain ⟨o, ho⟩ := liv b hb
          rw [ho]
          exact wa.kp b o ho (nf b hb) (fun ps z => by
            rcases List.mem_cons.mp hb with y | y
            · rw [y, dV] at ho; rw [z] at ho; cases ho
            · obtain ⟨u, hu, hn⟩ := hLL.plain b y
              rw [ho] at hu; cases hu; exact hn (.inl ⟨ps, z⟩))
        · cases qd : H0a b with
          | none => rfl
          | some o =>
            obtain ⟨u, hu⟩ := liv b hb
            rcases wa.nw b o qd with z | z | z
            · have z : H0' b = some o := z
              rw [(hfr b hb).1] at z; cases z
            · have z : H' b = none := z
              rw [hu] at z; cases z
            · exact absurd z (nf b hb)
        · obtain ⟨u, hu⟩ := liv b hb
          rcases ((wa.own jj jo e hj).2 b z).2 with c | c
          · exact nf b hb c
          · have c : H' b = none := c
            rw [hu] at c; cases c
      refine .inr ⟨go, fun H3 => ∃ H03 E3 acc3 bs3, Fr K B H03 H3 al E3 (wipe σ vs) ∧ Ex H1 H03 ∧ H3 D = some (.lst (bs3.map V.ref)) ∧ LL K H03 H3 acc3 bs3 ∧ (D :: bs3).Nodup ∧ Fre B H03 al E3 (D :: bs3) ∧
        xLcFL xg xt xe vs (fun acc E2 => R (.lls acc) (backE E1 vs E2)) (ds.drop (i + 1)) acc3 E3, fun H3 z => ?_, fun x H'' hy => ?_⟩
      · obtain ⟨H03, E3, acc3, bs3, f3, e3, a3, b3, c3, n3, z⟩ := z
        exact ⟨ds.length - (i + 1), by omega, H03, E3, acc3, bs3, f3, e3, a3, b3, c3, n3, rfl, hlt, z⟩
      · obtain ⟨H0'', f2, e2, r2, _⟩ := yl x H'' hy
        rw [drop_of hlt] at q
        refine hg _ H0'' H'' al E' (wipe σ vs) f2 ds[i] x r2 _ _ q fun E4 σ4 f4 w4 q4 => ?_
        have w5 : wipe σ4 vs = wipe σ vs := by rw [w4 vs hv, wipe_wipe]
        refine ⟨w5, ht _ H0'' H'' al E4 σ4 f4 _ _ q4 fun b E5 H05 H5 f5 e5 q5 => ?_⟩
        cases b with
        | true =>
          refine iteT ?_
          refine he _ H05 H5 al E5 σ4 f5 _ _ q5 fun ly dy E6 H06 H6 f6 e6 ro fy q6 => ?_
          cases dy with
          | lst zs =>
            obtain ⟨b, ws, rfl, hb, rb⟩ := (show ∃ a xs, ly = [a] ∧ H6 a = some (.lst xs) ∧ RepL K H06 zs xs from ro)
            obtain ⟨q7, n6⟩ := noOwn_ok q6
            have fw : Fr K (B.here H0' H' al E') H06 H6 al (wipeE E6 vs) (wipe σ vs) := by
              have := f6.wipe n6
              rw [w5] at this
              exact this
            have fo : Fr K B H06 H6 al (wipeE E6 vs) (wipe σ vs) := ⟨f'.wd.back fw.wd, fw.sg⟩
            obtain ⟨kD, kF⟩ := keepD fw.wd
            have ex6 : Ex H0' H06 := (e2.trans e5).trans e6
            obtain ⟨b0, bHe, bn⟩ := fy b List.mem_cons_self
            have bnew : ∀ c ∈ D :: bs, b ≠ c := fun c hc z => by
              have bHe : H' b = none := bHe
              obtain ⟨u, hu⟩ := liv c hc
              rw [← z, bHe] at hu; cases hu
            have lenb := hLL.length
            refine ⟨bs.map V.ref, by rw [kD D List.mem_cons_self]; exact dV, by rw [List.length_map, lenb]; exact sz_lt q7.1, ?_⟩
            have bw : ∀ jj jo e, nth (wipeE E6 vs) jj = .own jo e → b ∉ al jj := fun jj jo e hj => by
              by_cases z : jj ∈ vs
              · rw [wipeE_in z] at hj; cases hj
              · rw [wipeE_out z] at hj; exact bn jj jo e hj
            have Dn : ∀ jj jo e, nth (wipeE E6 vs) jj = .own jo e → D ∉ al jj := (kF D List.mem_cons_self).2.2
            have fm : Fr K B H06 (upd H6 D (.lst (bs.map V.ref ++ [.ref b]))) al (wipeE E6 vs) (wipe σ vs) := by
              refine ⟨⟨fo.wd.ex.mut (kF D List.mem_cons_self).1, fun jj jo e hj => ?_, fo.wd.inj, fun c o hc nc nt => ?_, fo.wd.e0, fo.wd.nw, fun c hc => ?_, fo.wd.pin, tabs_put fo.wd.tb (by rw [kD D List.mem_cons_self]; exact dV) lst_tb, fo.wd.t0⟩, fo.sg⟩
              · obtain ⟨x1, x2⟩ := fo.wd.own jj jo e hj
                exact ⟨x1.keep fun c hc => upd_ne fun z => Dn jj jo e hj (by rw [← z]; exact hc), x2⟩
              · have hcD : c ≠ D := fun z => by
                  rw [z] at hc
                  rw [(hfr D List.mem_cons_self).2.1] at hc
                  cases hc
                rw [upd_ne hcD]
                exact fo.wd.kp c o hc nc nt
              · by_cases z : c = D
                · subst z; rw [upd_same] at hc; cases hc
                · rw [upd_ne z] at hc; exact fo.wd.lv c hc
            have bD : b ≠ D := bnew D List.mem_cons_self
            have ndD := (List.nodup_cons.mp nd).1
            refine ⟨H06, wipeE E6 vs, acc ++ [zs], bs ++ [b], fm, e'.trans ex6, by rw [upd_same, List.map_append]; rfl, ?_, ?_, fun c hc => ?_, q7.2⟩
            · refine LL.append ?_ ⟨b, [], ws, rfl, by rw [upd_ne bD]; exact hb, rb, rfl⟩
              refine (hLL.mono ex6).keep fun c hc => ?_
              rw [upd_ne fun z => ndD (by rw [← z]; exact hc)]
              exact kD c (List.mem_cons_of_mem _ hc)
            · rw [← List.cons_append]
              rw [List.nodup_append]
              refine ⟨nd, by simp, fun c hc d hd => ?_⟩
              rw [List.mem_singleton.mp hd]
              exact (bnew c hc).symm
            · rw [← List.cons_append] at hc
              rcases List.mem_append.mp hc with z | z
              · exact kF c z
              · rw [List.mem_singleton.mp z]
                exact ⟨b0, f'.wd.lv b bHe, bw⟩
          | _ => exact (show False from q6).elim
        | false =>
          refine iteF ?_
          obtain ⟨q7, n6⟩ := noOwn_ok q5
          have fw : Fr K (B.here H0' H' al E') H05 H5 al (wipeE E5 vs) (wipe σ vs) := by
            have := f5.wipe n6
            rw [w5] at this
            exact this
          obtain ⟨kD, kF⟩ := keepD fw.wd
          exact ⟨H05, wipeE E5 vs, acc, bs, ⟨f'.wd.back fw.wd, fw.sg⟩, (e'.trans e2).trans e5, by rw [kD D List.mem_cons_self]; exact dV, (hLL.mono (e2.trans e5)).keep fun c hc => kD c (List.mem_cons_of_mem _ hc), nd, kF, q7⟩
    · have he : i = ds.length := by omega
      subst he
      rw [List.drop_length] at q
      refine .inl ⟨j.stop H0' H' e' f'.wd.ex, ?_⟩
      have fr := f1.restore f' e' hn1
      refine k (D :: bs) (.lls acc) _ H0' H' fr (e1.trans e') ⟨D, bs, rfl, dV, hLL, nd⟩ (fun b hb => ⟨(hfr b hb).1, (hfr b hb).2.1, fun jj jo e hj => ?_⟩) q
      by_cases z : jj ∈ vs
      · exact absurd (backE_in z hj (by intro z; cases z)) (hn1 jj z jo e)
      · rw [backE_out z] at hj
        exact (hfr b hb).2.2 jj jo e hj
end
end Pw
end

section
set_option maxRecDepth 100000
set_option maxHeartbeats 1000000
namespace Pw
open PySem L2
section
variable {K : PySem.W.Frag}
/-! ### arguments of one's own defs -/
def xaNil : XA := fun E R => R [] E
theorem AgRep.mono {H0 H1 : Hp} {al : Nat → List Addr} {E : List Sl} (e : Ex H0 H1) : ∀ {a : Ag} {v : V}, AgRep K H0 al E a v → AgRep K H1 al E a v
  | .val d, v, h => Rep.mono e d v h
  | .ref i, v, h => h
theorem ra_nil : RfA K tNil xaNil := fun B H0 H al E σ f Q R hx k => k [] [] E H0 H f (Ex.refl _) rfl hx
def xaCons (x : XE) (xr : XA) : XA := fun E R => x E fun d E1 => xr E1 fun as E2 => R (.val d :: as) E2
theorem ra_cons {ta : TE} {tr : TA} {x : XE} {xr : XA} (h : Rf K ta x) (hr : RfA K tr xr) : RfA K (tCons ta tr) (xaCons x xr) := fun B H0 H al E σ f Q R hx k =>
  h B H0 H al E σ f _ _ hx fun v d E1 H1 H' f1 e1 r1 q => hr B H1 H' al E1 σ f1 _ _ q fun vs as E2 H2 H'' f2 e2 r2 q2 => k (v :: vs) (.val d :: as) E2 H2 H'' f2 (e1.trans e2) ⟨v, vs, rfl, r1.mono e2, r2⟩ q2
def isOwn (E : List Sl) (i : Nat) (R : Prop) : Prop := match nth E i with
  | .own _ _ => R
  | _ => False
theorem isOwn_ok {E : List Sl} {i : Nat} {R : Prop} (h : isOwn E i R) : R ∧ ∃ io d, nth E i = .own io d := by
  unfold isOwn at h
  cases q : nth E i with
  | own io d => rw [q] at h; exact ⟨h, io, d, rfl⟩
  | un => rw [q] at h; exact h.elim
  | val d => rw [q] at h; exact h.elim
/-- an own slot handed over to be read or changed -/
def xaRef (i : Nat) (xr : XA) : XA := fun E R => isOwn E i (xr E fun as E2 => isOwn E2 i (R (.ref i :: as) E2))
theorem ra_ref {i : Nat} {tr : TA} {xr : XA} (hr : RfA K tr xr) : RfA K (tCons (tVar i) tr) (xaRef i xr) := fun B H0 H al E σ f Q R hx k => by
  obtain ⟨hx, io, d, hi⟩ := isOwn_ok hx
  refine ⟨.ref (ad (al i)), f.sg.own i io d hi, hr B H0 H al E σ f _ _ hx fun vs as E2 H2 H'' f2 e2 r2 q2 => ?_⟩
  obtain ⟨q2, io2, d2, hi2⟩ := isOwn_ok q2
  exact k (.ref (ad (al i)) :: vs) (.ref i :: as) E2 H2 H'' f2 e2 ⟨.ref (ad (al i)), vs, rfl, ⟨rfl, io2, d2, hi2⟩, r2⟩ q2
/-! ### what a def keeps: its promise by a word -/
def rfs : List Ag → List Nat
  | [] => []
  | .val _ :: r => rfs r
  | .ref i :: r => i :: rfs r
def toSl (E : List Sl) : Ag → Sl
  | .val d => .val d
  | .ref i => match nth E i with
    | .own _ d => .own true d
    | _ => .un
def putBack (os : List Sl) : Nat → List Ag → List Sl → (List Sl → Prop) → Prop
  | _, [], E, R => R E
  | j, .val _ :: as, E, R => putBack os (j + 1) as E R
  | j, .ref i :: as, E, R => match nth os j, nth E i with
    | .own _ d, .own io _ => putBack os (j + 1) as (put E i (.own io d)) R
    | _, _ => False
def fpOf (al : Nat → List Addr) (args : List Sl) (a : Addr) : Prop := ∃ j d, nth args j = .own true d ∧ a ∈ al j
def bsOf (H0 H : Hp) (al : Nat → List Addr) (args : List Sl) : Bs := ⟨H0, H, fpOf al args, fun j => match nth args j with
  | .own true _ => some (al j)
  | _ => none⟩
def spOf (K : PySem.W.Frag) (n : Nat) (x : XF) : Sp := fun vs H Q _ => ∃ (H0 : Hp) (al : Nat → List Addr) (args : List Sl) (R : D → List Sl → Prop), args.length = n ∧ Fr K (bsOf H0 H al args) H0 H al args (vs.map some) ∧ x args R ∧
  ∀ v d os H0' H', R d os → Ex H0 H0' → Ex H0' H' → Rep K H0' d v → (∀ j e, nth args j = .own true e → ∃ d', nth os j = .own true d' ∧ RepO K H0' H' d' (al j) ∧ ∀ b ∈ al j, H0' b = none) →
    (∀ b o, H b = some o → ¬ fpOf al args b → (∀ ps, o ≠ .tbl ps) → H' b = some o) → (∀ b o, H0' b = some o → H0 b = some o ∨ H b = none) → (∀ b, H' b = none → H b = none) → LamX.Tabs (Tb K) H' → (∀ b ps, H0' b ≠ some (.tbl ps)) → Q v H'
def xCall (n : Nat) (x : XF) (xa : XA) : XE := fun E R => xa E fun as E1 => as.length = n ∧ (rfs as).Nodup ∧ x (as.map (toSl E1)) fun d os => putBack os 0 as E1 (R d)
theorem nth_map_toSl {E : List Sl} : ∀ {as : List Ag} {j : Nat} {x : Sl}, nth (as.map (toSl E)) j = x → x ≠ .un → ∃ a, as[j]? = some a ∧ toSl E a = x
  | [], _, _, h, hn => absurd h.symm hn
  | a :: as, 0, x, h, hn => ⟨a, rfl, h⟩
  | a :: as, j + 1, x, h, hn => by
    obtain ⟨b, e, q⟩ := nth_map_toSl (as := as) (j := j) h hn
    exact ⟨b, by simpa using e, q⟩
theorem toSl_own {E : List Sl} {a : Ag} {io : Bool} {d : D} (h : toSl E a = .own io d) : io = true ∧ ∃ i jo, a = .ref i ∧ nth E i = .own jo d := by
  cases a with
  | val e => cases h
  | ref i =>
    unfold toSl at h
    cases q : nth E i with
    | own jo e => simp only [q] at h; cases h; exact ⟨rfl, i, jo, rfl, q⟩
    | un => simp only [q] at h; cases h
    | val e => simp only [q] at h; cases h
theorem toSl_val {E : List Sl} {a : Ag} {d : D} (h : toSl E a = .val d) : a = .val d := by
  cases a with
  | val e => cases h; rfl
  | ref i =>
    unfold toSl at h
    cases q : nth E i with
    | own jo e => simp only [q] at h; cases h
    | un => simp only [q] at h; cases h
    | val e => simp only [q] at h; cases h
theorem AgsRep.length {H0 : Hp} {al : Nat → List Addr} {E : List Sl} : ∀ {as : List Ag} {vs : List V}, AgsRep K H0 al E as vs → vs.length = as.length
  | [], _, h => by cases (show _ = [] from h); rfl
  | a :: as, vs, h => by
    obtain ⟨v, ws, e, _, r⟩ := (show ∃ v ws, vs = v :: ws ∧ AgRep K H0 al E a v ∧ AgsRep K H0 al E as ws from h)
    subst e
    simp [AgsRep.length r]
theorem AgsRep.get {H0 : Hp} {al : Nat → List Addr} {E : List Sl} : ∀ {as : List Ag} {vs : List V} {j : Nat} {a : Ag}, AgsRep K H0 al E as vs → as[j]? = some a → ∃ v, vs[j]? = some v ∧ AgRep K H0 al E a v
  | [], _, _, _, _, h => by simp at h
  | a :: as, vs, 0, b, h, e => by
    obtain ⟨v, ws, q, r, _⟩ := (show ∃ v ws, vs = v :: ws ∧ AgRep K H0 al E a v ∧ AgsRep K H0 al E as ws from h)
    subst q
    simp at e
    subst e
    exact ⟨v, by simp, r⟩
  | a :: as, vs, j + 1, b, h, e => by
    obtain ⟨v, ws, q, _, r⟩ := (show ∃ v ws, vs = v :: ws ∧ AgRep K H0 al E a v ∧ AgsRep K H0 al E as ws from h)
    subst q
    obtain ⟨w, x, y⟩ := AgsRep.get (j := j) (a := b) r (by simpa using e)
    exact ⟨w, by simpa using x, y⟩
theorem mem_rfs {i : Nat} : ∀ {as : List Ag} {j : Nat}, as[j]? = some (Ag.ref i) → i ∈ rfs as
  | [], _, h => by simp at h
  | .val _ :: as, 0, h => by simp at h
  | .ref k :: as, 0, h => by simp at h; subst h; exact List.mem_cons_self
  | .val _ :: as, j + 1, h => mem_rfs (as := as) (j := j) (by simpa using h)
  | .ref k :: as, j + 1, h => List.mem_cons_of_mem _ (mem_rfs (as := as) (j := j) (by simpa using h))
theorem rfs_mem {i : Nat} : ∀ {as : List Ag}, i ∈ rfs as → ∃ j : Nat, as[j]? = some (Ag.ref i)
  | [], h => by cases h
  | .val _ :: as, h => by
    obtain ⟨j, e⟩ := rfs_mem (as := as) h
    exact ⟨j + 1, by simpa using e⟩
  | .ref k :: as, h => by
    rcases List.mem_cons.mp h with e | h
    · subst e; exact ⟨0, rfl⟩
    · obtain ⟨j, e⟩ := rfs_mem (as := as) h
      exact ⟨j + 1, by simpa using e⟩
theorem rfs_inj {i : Nat} : ∀ {as : List Ag} {j k : Nat}, (rfs as).Nodup → as[j]? = some (Ag.ref i) → as[k]? = some (Ag.ref i) → j = k
  | [], _, _, _, h, _ => by simp at h
  | .val _ :: as, 0, _, _, h, _ => by simp at h
  | .val _ :: as, _ + 1, 0, _, _, h => by simp at h
  | .val _ :: as, j + 1, k + 1, n, h1, h2 => by rw [rfs_inj (as := as) (j := j) (k := k) n (by simpa using h1) (by simpa using h2)]
  | .ref m :: as, 0, 0, _, _, _ => rfl
  | .ref m :: as, 0, k + 1, n, h1, h2 => by
    simp at h1; subst h1
    exact absurd (mem_rfs (as := as) (j := k) (by simpa using h2)) (List.nodup_cons.mp n).1
  | .ref m :: as, j + 1, 0, n, h1, h2 => by
    simp at h2; subst h2
    exact absurd (mem_rfs (as := as) (j := j) (by simpa using h1)) (List.nodup_cons.mp n).1
  | .ref m :: as, j + 1, k + 1, n, h1, h2 => by rw [rfs_inj (as := as) (j := j) (k := k) (List.nodup_cons.mp n).2 (by simpa using h1) (by simpa using h2)]
/-- what putBack leaves -/
theorem putBack_ok {os : List Sl} {R : List Sl → Prop} : ∀ {as : List Ag} {j : Nat} {E : List Sl}, (rfs as).Nodup → putBack os j as E R → ∃ E2, R E2 ∧ E2.length = E.length ∧ (∀ i, i ∉ rfs as → nth E2 i = nth E i) ∧
    ∀ (m i : Nat), as[m]? = some (Ag.ref i) → ∃ io jo d e, nth os (j + m) = .own jo d ∧ nth E i = .own io e ∧ nth E2 i = .own io d
  | [], j, E, _, h => ⟨E, h, rfl, fun _ _ => rfl, fun m i e => by simp at e⟩
  | .val _ :: as, j, E, n, h => by
    obtain ⟨E2, r, l, o, p⟩ := putBack_ok (as := as) (j := j + 1) (E := E) n h
    refine ⟨E2, r, l, o, fun m i e => ?_⟩
    cases m with
    | zero => simp at e
    | succ m =>
      obtain ⟨io, jo, d, e', a, b, c⟩ := p m i (by simpa using e)
      exact ⟨io, jo, d, e', by rw [show j + (m + 1) = j + 1 + m by omega]; exact a, b, c⟩
  | .ref i :: as, j, E, n, h => by
    obtain ⟨n1, n2⟩ := List.nodup_cons.mp n
    unfold putBack at h
    split at h
    · rename_i _ _ jo d io e' q1 q2
      obtain ⟨E2, r, l, o, p⟩ := putBack_ok (as := as) (j := j + 1) (E := put E i (.own io d)) n2 h
      refine ⟨E2, r, by rw [l, put_length], fun k hk => ?_, fun m k e => ?_⟩
      · have h1 : k ≠ i := fun z => hk (by rw [z]; exact List.mem_cons_self)
        have h2 : k ∉ rfs as := fun z => hk (List.mem_cons_of_mem _ z)
        rw [o k h2, nth_put_ne h1]
      · cases m with
        | zero =>
          simp at e
          subst e
          refine ⟨io, jo, d, e', q1, q2, ?_⟩
          rw [o i n1, nth_put_lt (nth_lt (by rw [q2]; intro z; cases z))]
        | succ m =>
          have e1 : as[m]? = some (.ref k) := by simpa using e
          obtain ⟨io', jo', d', e'', a, b, c⟩ := p m k e1
          have h1 : k ≠ i := fun z => n1 (by rw [← z]; exact mem_rfs e1)
          rw [nth_put_ne h1] at b
          exact ⟨io', jo', d', e'', by rw [show j + (m + 1) = j + 1 + m by omega]; exact a, b, c⟩
    · exact h.elim
/-- where the handed slots stand in the callee -/
def alOf (al : Nat → List Addr) (as : List Ag) : Nat → List Addr := fun j => match as[j]? with
  | some (.ref i) => al i
  | _ => []
theorem nth_map_ref {E : List Sl} {i : Nat} {io : Bool} {e : D} (b : nth E i = .own io e) : ∀ (as : List Ag) (j : Nat), as[j]? = some (Ag.ref i) → nth (as.map (toSl E)) j = .own true e
  | [], _, h => by simp at h
  | a :: r, 0, h => by
    simp at h
    subst h
    show toSl E (.ref i) = _
    unfold toSl
    simp only [b]
  | a :: r, j + 1, h => nth_map_ref b r j (by simpa using h)
theorem rf_call {n : Nat} {x : XF} {xa : XA} {t : TA} {Ek : XK} (ha : RfA K t xa) : Rf K (tCall (spOf K n x) [] Ek t) (xCall n x xa) := fun B H0 H al E σ f Q R hx k => by
  refine ha B H0 H al E σ f _ _ hx fun vs as E1 H1 H' f1 e1 ra q => ?_
  obtain ⟨hlen, hnd, hxx⟩ := q
  rw [List.append_nil]
  have look : ∀ {j : Nat} {io : Bool} {d : D}, nth (as.map (toSl E1)) j = .own io d → io = true ∧ ∃ i jo, as[j]? = some (.ref i) ∧ nth E1 i = .own jo d ∧ alOf al as j = al i := fun {j io d} h => by
    obtain ⟨a, ea, eb⟩ := nth_map_toSl h (by intro z; cases z)
    obtain ⟨q, i, jo, rfl, c⟩ := toSl_own eb
    exact ⟨q, i, jo, ea, c, by unfold alOf; rw [ea]⟩
  refine ⟨H1, alOf al as, as.map (toSl E1), _, by rw [List.length_map]; exact hlen, ⟨⟨f1.wd.ex, fun j io d h => ?_, fun j m io jo d e b h1 h2 x y => ?_, fun b o h _ _ => h, Ex.refl _, fun b o h => .inl h, fun b h => h, fun j a h => ?_, f1.wd.tb, f1.wd.t0⟩, ?_, fun j d h => ?_, fun j io d h => ?_⟩, hxx, ?_⟩
  · obtain ⟨hio, i, jo, h1, h2, h3⟩ := look h
    subst hio
    obtain ⟨a, b⟩ := f1.wd.own i jo d h2
    rw [h3]
    exact ⟨a, fun c hc => ⟨(b c hc).1, .inl ⟨j, d, h, by rw [h3]; exact hc⟩⟩⟩
  · obtain ⟨_, i, _, a1, a2, a3⟩ := look h1
    obtain ⟨_, i', _, b1, b2, b3⟩ := look h2
    rw [a3] at x
    rw [b3] at y
    have := f1.wd.inj _ _ _ _ _ _ b a2 b2 x y
    subst this
    exact rfs_inj hnd a1 b1
  · have h : (match nth (as.map (toSl E1)) j with | .own true _ => some (alOf al as j) | _ => none) = some a := h
    split at h
    · rename_i d q
      cases h
      exact ⟨rfl, d, q⟩
    · cases h
  · rw [List.length_map, List.length_map, ra.length]
  · obtain ⟨a, ea, eb⟩ := nth_map_toSl h (by intro z; cases z)
    have := toSl_val eb
    subst this
    obtain ⟨v, hv, rv⟩ := ra.get ea
    exact ⟨v, by rw [List.getElem?_map, hv]; rfl, rv⟩
  · obtain ⟨_, i, jo, h1, h2, h3⟩ := look h
    obtain ⟨v, hv, rv, _⟩ := ra.get h1
    rw [List.getElem?_map, hv, h3, rv]
    rfl
  · intro v d os H0' H2 hR ex0 ex1 rd ho hk hnw hlv htb ht0
    obtain ⟨E2, hE2, hl, hout, hin⟩ := putBack_ok hnd hR
    have nfp : ∀ {b : Addr} {o : HO}, B.He b = some o → ¬ B.fp b → ¬ fpOf (alOf al as) (as.map (toSl E1)) b := fun {b o} hb nb ⟨j, dj, hj, hz⟩ => by
      obtain ⟨_, i, jo, h1, h2, h3⟩ := look hj
      rw [h3] at hz
      rcases ((f1.wd.own i jo dj h2).2 b hz).2 with c | c
      · exact nb c
      · rw [hb] at c; cases c
    -- the slots behind the call
    have slot : ∀ {i : Nat} {io : Bool} {e : D}, nth E2 i = .own io e → (∃ e', nth E1 i = .own io e') ∧ RepO K H0' H2 e (al i) ∧ ∀ b ∈ al i, H0' b = none := fun {i io e} h => by
      by_cases hi : i ∈ rfs as
      · obtain ⟨j, hj⟩ := rfs_mem hi
        obtain ⟨io', jo', d', e', a, b, c⟩ := hin j i hj
        rw [h] at c
        cases c
        rw [Nat.zero_add] at a
        obtain ⟨d2, x1, x2, x3⟩ := ho j e' (nth_map_ref b as j hj)
        have e3 : alOf al as j = al i := by unfold alOf; rw [hj]
        rw [e3] at x2 x3
        rw [a] at x1
        cases x1
        exact ⟨⟨e', b⟩, x2, x3⟩
      · rw [hout i hi] at h
        obtain ⟨b1, b2⟩ := f1.wd.own i io e h
        have nf : ∀ b ∈ al i, ¬ fpOf (alOf al as) (as.map (toSl E1)) b := fun b hb ⟨j, dj, hj, hz⟩ => by
          obtain ⟨_, i', jo, h1, h2, h3⟩ := look hj
          rw [h3] at hz
          have := f1.wd.inj _ _ _ _ _ _ b h2 h hz hb
          subst this
          exact hi (mem_rfs h1)
        refine ⟨⟨e, h⟩, (b1.keep fun b hb => ?_).mono ex0, fun b hb => ?_⟩
        · obtain ⟨u, hu, hun⟩ := b1.plain b hb
          rw [hk b u hu (nf b hb) (fun ps z => hun (.inl ⟨ps, z⟩)), hu]
        · obtain ⟨u, hu⟩ := b1.live.1 b hb
          cases qn : H0' b with
          | none => rfl
          | some o =>
            rcases hnw _ _ qn with z | z
            · rw [(b2 b hb).1] at z; cases z
            · rw [hu] at z; cases z
    refine k v d E2 H0' H2 ⟨⟨ex1, fun i io e h => ?_, fun i j io jo d e b h1 h2 x y => ?_, fun b o hb nb nt => hk b o (f1.wd.kp b o hb nb nt) (nfp hb nb) nt, f1.wd.e0.trans ex0, fun b o h => ?_, fun b h => f1.wd.lv b (hlv b h), fun j a h => ?_, htb, ht0⟩, ?_, fun i e h => ?_, fun i io e h => ?_⟩ (e1.trans ex0) rd hE2
    · obtain ⟨⟨e', h1⟩, h2, h3⟩ := slot h
      exact ⟨h2, fun b hb => ⟨h3 b hb, ((f1.wd.own i io e' h1).2 b hb).2⟩⟩
    · obtain ⟨⟨_, a⟩, _⟩ := slot h1
      obtain ⟨⟨_, b'⟩, _⟩ := slot h2
      exact f1.wd.inj _ _ _ _ _ _ b a b' x y
    · rcases hnw b o h with z | z
      · exact f1.wd.nw b o z
      · exact .inr (.inl (f1.wd.lv b z))
    · obtain ⟨a1, d0, a2⟩ := f1.wd.pin j a h
      refine ⟨a1, ?_⟩
      by_cases hi : j ∈ rfs as
      · obtain ⟨m, hm⟩ := rfs_mem hi
        obtain ⟨io', jo', d', e', _, b, c⟩ := hin m j hm
        rw [a2] at b
        cases b
        exact ⟨d', c⟩
      · exact ⟨d0, by rw [hout j hi]; exact a2⟩
    · rw [hl]; exact f1.sg.len
    · by_cases hi : i ∈ rfs as
      · obtain ⟨m, hm⟩ := rfs_mem hi
        obtain ⟨io', jo', d', e', _, b, c⟩ := hin m i hm
        rw [h] at c; cases c
      · rw [hout i hi] at h
        obtain ⟨v, a, b⟩ := f1.sg.val i e h
        exact ⟨v, a, b.mono ex0⟩
    · obtain ⟨⟨_, a⟩, _⟩ := slot h
      exact f1.sg.own i io _ a
/-! ### a def's body by words -/
def fnX (nl n : Nat) (xb : XS) : XF := fun args R => xb { nx := fun E => R .non (E.take n), rt := fun d E => R d (E.take n) } (args ++ List.replicate (nl - n) .un)
theorem nth_append_un {m : Nat} : ∀ {args : List Sl} {j : Nat}, nth (args ++ List.replicate m .un) j = nth args j
  | [], j => by
    show nth (List.replicate m .un) j = .un
    have : ∀ (m j : Nat), nth (List.replicate m .un) j = .un := by
      intro m
      induction m with
      | zero => intro j; rfl
      | succ m ih =>
        intro j
        rw [List.replicate_succ]
        cases j with
        | zero => rfl
        | succ j => exact ih j
    exact this m j
  | a :: r, 0 => rfl
  | a :: r, j + 1 => nth_append_un (args := r) (j := j)
theorem nth_take {n : Nat} : ∀ {E : List Sl} {j : Nat}, j < n → nth (E.take n) j = nth E j := by
  induction n with
  | zero => intro E j h; exact absurd h (Nat.not_lt_zero _)
  | succ n ih =>
    intro E j h
    cases E with
    | nil => rfl
    | cons a r =>
      cases j with
      | zero => rfl
      | succ j => exact ih (Nat.lt_of_succ_lt_succ h)
theorem word_in {n : Nat} {x : XF} {vs : List V} {H : Hp} {Q : VK} {E : XK} (h : spOf K n x vs H Q E) : vs.length = n := by
  obtain ⟨H0, al, args, R, hl, fr, _⟩ := h
  have := fr.sg.len
  rw [List.length_map] at this
  omega
theorem word_body {N : List Str} {n : Nat} {t : TS} {xb : XS} (hr : RfS K t xb) {vs : List V} {H : Hp} {Q : VK} {E : XK} (h : spOf K n (fnX N.length n xb) vs H Q E) :
    t { nx := fun _ H' => Q .non H', rt := Q } (L2.start N vs) H := by
  have hvl := word_in h
  obtain ⟨H0, al, args, R, hl, fr, hx, kk⟩ := h
  have ownp : ∀ {j : Nat} {e : D}, nth args j = .own true e → j < n := fun {j e} h => by
    rw [← hl]; exact nth_lt (by rw [h]; intro z; cases z)
  have fr0 : Fr K (bsOf H0 H al args) H0 H al (args ++ List.replicate (N.length - n) .un) (L2.start N vs) := by
    refine ⟨⟨fr.wd.ex, fun i io d h => fr.wd.own i io d (by rw [nth_append_un] at h; exact h), fun i j io jo d e b h1 h2 => fr.wd.inj i j io jo d e b (by rw [nth_append_un] at h1; exact h1) (by rw [nth_append_un] at h2; exact h2), fr.wd.kp, fr.wd.e0, fr.wd.nw, fr.wd.lv, fun j a h => ?_, fr.wd.tb, fr.wd.t0⟩, ?_, fun i d h => ?_, fun i io d h => ?_⟩
    · obtain ⟨a1, d, a2⟩ := fr.wd.pin j a h
      exact ⟨a1, d, by rw [nth_append_un]; exact a2⟩
    · unfold L2.start
      rw [List.length_append, List.length_append, List.length_map, List.length_replicate, List.length_replicate, hvl, hl]
    · rw [nth_append_un] at h
      obtain ⟨v, a, b⟩ := fr.sg.val i d h
      refine ⟨v, ?_, b⟩
      unfold L2.start
      rw [List.getElem?_append_left (List.getElem?_eq_some_iff.mp a).1]
      exact a
    · rw [nth_append_un] at h
      have a := fr.sg.own i io d h
      unfold L2.start
      rw [List.getElem?_append_left (List.getElem?_eq_some_iff.mp a).1]
      exact a
  have fin : ∀ H0' H' al' E' σ' d v, Fr K (bsOf H0 H al args) H0' H' al' E' σ' → Ex H0 H0' → Rep K H0' d v → R d (E'.take n) → Q v H' := fun H0' H' al' E' σ' d v f' e' r q => by
    have ho : ∀ j e, nth args j = .own true e → ∃ d', nth E' j = .own true d' ∧ RepO K H0' H' d' (al j) ∧ ∀ b ∈ al j, H0' b = none := fun j e h => by
      have hp : (bsOf H0 H al args).pin j = some (al j) := by
        show (match nth args j with | .own true _ => some (al j) | _ => none) = _
        rw [h]
      obtain ⟨a1, d', a2⟩ := f'.wd.pin j _ hp
      obtain ⟨b1, b2⟩ := f'.wd.own j true d' a2
      rw [a1] at b1 b2
      exact ⟨d', a2, b1, fun b hb => (b2 b hb).1⟩
    refine kk v d _ H0' H' q e' f'.wd.ex r (fun j e h => ?_) f'.wd.kp (fun b o h => ?_) f'.wd.lv f'.wd.tb f'.wd.t0
    · obtain ⟨d', a, b, c⟩ := ho j e h
      exact ⟨d', by rw [nth_take (ownp h)]; exact a, b, c⟩
    · rcases f'.wd.nw b o h with z | z | ⟨j, dj, hj, hz⟩
      · exact .inl z
      · exact .inr z
      · obtain ⟨_, _, _, b1⟩ := ho j dj hj
        exact absurd (b1 b hz) (by rw [h]; intro z; cases z)
  exact hr (bsOf H0 H al args) H0 H al _ _ fr0 _ _ hx ⟨fun H0' H' al' E' σ' f' e' q => fin H0' H' al' E' σ' .non .non f' e' rfl q, fun H0' H' al' E' σ' d v f' e' r q => fin H0' H' al' E' σ' d v f' e' r q,
    fun _ _ _ _ _ _ _ q => q.elim, fun _ _ _ _ _ _ _ q => q.elim⟩
theorem fn_word {P : Program} {w : World} {mg : Str → Option Value} {base : Heap} {x qual : Str} {st : Stmt} {f : Addr} {fd : FuncData} {N ps : List Str} {k : Nat} {t : TS} {xb : XS} (F : Fun K x qual st f fd) (S : FnScope N ps (defScope st))
    (hb : ∀ (cdv : Value) (A : Around) (outer : List Env) (s : Shared) (H : Hp) (E : XK), Room k (A.deeper (PyProof.Rows.envOfC qual (defScope st) s.heap.objs.size f cdv)) → PSs (cxOf CX0 P w K mg base N qual (defScope st) f cdv A outer s H E).nox (defBody st) t)
    (hr : RfS K t xb) : FnOk P w K mg base CX0 (k + 1) f fd ps (spOf K ps.length (fnX N.length ps.length xb)) :=
  F.ok S (fun vs H Q E h => word_in h) fun cdv A outer s H vs Q E hroom h => ⟨t, hb cdv A outer s H E hroom, word_body hr h⟩
/-- without the tables -/
def cutT (H : Hp) : Hp := fun b => match H b with
  | some (.tbl _) => none
  | o => o
theorem cutT_ex {H : Hp} : Ex (cutT H) H := fun b o h => by
  unfold cutT at h
  split at h
  · cases h
  · exact h
theorem cutT_in {H : Hp} {b : Addr} {o : HO} (h : H b = some o) (n : ∀ ps, o ≠ .tbl ps) : cutT H b = some o := by
  unfold cutT
  rw [h]
  cases o with
  | tbl ps => exact absurd rfl (n ps)
  | _ => rfl
theorem cutT_out {H : Hp} {b : Addr} {ps : Array Value} (h : H b = some (.tbl ps)) : cutT H b = none := by
  unfold cutT
  rw [h]
theorem cutT_no {H : Hp} {b : Addr} {ps : Array Value} : cutT H b ≠ some (.tbl ps) := fun h => by
  have h2 := cutT_ex b _ h
  rw [cutT_out h2] at h
  cases h
theorem cutT_l {H : Hp} {a : Addr} {xs : List V} (h : SqL K H a xs) : SqL K (cutT H) a xs := by
  rcases h with (h | ⟨o, h⟩) | h
  · exact .inl (.inl (cutT_in h fun _ z => by cases z))
  · exact .inl (.inr ⟨o, cutT_in h fun _ z => by cases z⟩)
  · exact .inr h
/-- the law's promise from its word -/
def spLaw (K : PySem.W.Frag) : Sp := fun vs H Q _ => ∃ (a : Addr) (ns : List Int), vs = [.ref a] ∧ SqL K H a (ns.map V.int) ∧ ns.length ≤ 63 ∧ LamX.Tabs (Tb K) H ∧ ∀ H', Q (.bl true) H'
theorem repl_ints {H : Hp} : ∀ (ns : List Int), RepL K H (ns.map D.int) (ns.map V.int)
  | [] => rfl
  | n :: ns => ⟨.int n, ns.map V.int, rfl, rfl, repl_ints ns⟩
theorem law_word {P : Program} {w : World} {mg : Str → Option Value} {base : Heap} {k : Nat} {f : Addr} {fd : FuncData} {x : XF} (h : FnOk P w K mg base CX0 k f fd ["script"] (spOf K 1 x))
    (hx : ∀ ns : List Int, ns.length ≤ 63 → x [.val (.fro ns)] fun d _ => d = .bl true) : FnOk P w K mg base CX0 k f fd ["script"] (spLaw K) := by
  have sub : ∀ vs H Q E, spLaw K vs H Q E → spOf K 1 x vs H Q E := fun vs H Q E ⟨a, ns, e, hq, hl, ht, q⟩ => by
    subst e
    refine ⟨cutT H, fun _ => [], [.val (.fro ns)], _, rfl, ⟨⟨cutT_ex, fun i io d h => ?_, fun i j io jo d e b h _ _ _ => ?_, fun b o h _ _ => h, Ex.refl _, fun b o h => .inl h, fun b h => h, fun j a h => ?_, ht, fun b ps => cutT_no⟩, rfl, fun i d h => ?_, fun i io d h => ?_⟩, hx ns hl, ?_⟩
    · exfalso; revert h; match i with
        | 0 => intro h; cases h
        | i + 1 => intro h; cases h
    · exfalso; revert h; match i with
        | 0 => intro h; cases h
        | i + 1 => intro h; cases h
    · exfalso; revert h; match j with
        | 0 => intro h; cases h
        | j + 1 => intro h; cases h
    · revert h; match i with
        | 0 => intro h; cases h; exact ⟨.ref a, rfl, a, rfl, cutT_l hq⟩
        | i + 1 => intro h; cases h
    · exfalso; revert h; match i with
        | 0 => intro h; cases h
        | i + 1 => intro h; cases h
    · intro v d os H0' H' hd _ _ r _ _ _ _ _ _
      subst hd
      have r : v = .bl true := r
      subst r
      exact q H'
  exact h.imp sub
end
end Pw
end

section
set_option maxRecDepth 100000
set_option maxHeartbeats 1000000
namespace Pw
open PySem L2
/-! ### one operator for several kinds -/
def orR (r r' : R2) : R2 := fun x y H Q => r x y H Q ∨ r' x y H Q
theorem _root_.L2.OpR.orr {X : Cx} {f : Value → Value → Sem Value} {r r' : R2} (h : OpR X f r) (h' : OpR X f r') : OpR X f (orR r r') := by
  intro pins s σ H x y v u Q I rx ry q
  rcases q with q | q
  · exact h pins s σ H x y v u Q I rx ry q
  · exact h' pins s σ H x y v u Q I rx ry q
abbrev rCatS : R2 := fun x y H Q => ∃ i j, x = .str i ∧ y = .str j ∧ i.length + j.length ≤ sizeLine ∧ Q (.str (i ++ j)) H
def rAddA (K : PySem.W.Frag) : R2 := orR (rI0 fun i j => .int (i + j)) (orR rCatS (orR (rCatA K) rCat))
theorem opAdd {X : Cx} : OpR X (binaryOp .Add) (rAddA X.K) := op_add.orr (op_add_str.orr (op_catA.orr op_cat))
def rEqA (K : PySem.W.Frag) : R2 := orR rEq (rEqD K)
theorem opEq {X : Cx} (hu : X.A.units + 64 < cLine) : OpR X (compareOp .Eq) (rEqA X.K) := op_eq.orr (op_eqD hu)
def rNeA (K : PySem.W.Frag) : R2 := orR rNe (rNeD K)
theorem opNe {X : Cx} (hu : X.A.units + 64 < cLine) : OpR X (compareOp .NotEq) (rNeA X.K) := op_ne.orr (op_neD hu)
theorem hu64 {A : Around} {k : Nat} (hr : Room k A) : A.units + 64 < cLine := hr.units
section
variable {K : PySem.W.Frag}
def xI (g : Int → Int → D) : X2 := fun a b R => match a, b with
  | .int i, .int j => R (g i j)
  | _, _ => False
theorem pu_I {g : Int → Int → V} {gd : Int → Int → D} (h : ∀ (i j : Int) (H : Hp), Rep K H (gd i j) (g i j)) : Pu2 K (rI0 g) (xI gd) := fun H0 H a b v w R e ra rb hx => by
  cases a with
  | int i =>
    cases b with
    | int j => exact ⟨gd i j, g i j, hx, fun H' => h i j H', fun Q q => ⟨i, j, ra, rb, q⟩⟩
    | _ => exact (show False from hx).elim
  | _ => cases b <;> exact (show False from hx).elim
def xIC (C : Int → Int → Prop) (g : Int → Int → D) : X2 := fun a b R => match a, b with
  | .int i, .int j => C i j ∧ R (g i j)
  | _, _ => False
theorem pu_IC {C : Int → Int → Prop} {g : Int → Int → V} {gd : Int → Int → D} (h : ∀ (i j : Int) (H : Hp), Rep K H (gd i j) (g i j)) : Pu2 K (rI C g) (xIC C gd) := fun H0 H a b v w R e ra rb hx => by
  cases a with
  | int i =>
    cases b with
    | int j => exact ⟨gd i j, g i j, hx.2, fun H' => h i j H', fun Q q => ⟨i, j, ra, rb, hx.1, q⟩⟩
    | _ => exact (show False from hx).elim
  | _ => cases b <;> exact (show False from hx).elim
abbrev xSub : X2 := xI fun i j => .int (i - j)
theorem pu_sub : Pu2 K (rI0 fun i j => .int (i - j)) xSub := pu_I fun _ _ _ => rfl
abbrev xMul : X2 := xIC CMul fun i j => .int (i * j)
theorem pu_mul : Pu2 K (rI CMul fun i j => .int (i * j)) xMul := pu_IC fun _ _ _ => rfl
abbrev xDiv : X2 := xIC CDivN fun i j => .int (i.fdiv j)
theorem pu_div : Pu2 K (rI CDivN fun i j => .int (i.fdiv j)) xDiv := pu_IC fun _ _ _ => rfl
abbrev xMod : X2 := xIC (fun _ j => j ≠ 0) fun i j => .int (i.fmod j)
theorem pu_mod : Pu2 K (rI (fun _ j => j ≠ 0) fun i j => .int (i.fmod j)) xMod := pu_IC fun _ _ _ => rfl
abbrev xPow : X2 := xIC CPow fun i j => .int (i ^ j.toNat)
theorem pu_pow : Pu2 K (rI CPow fun i j => .int (i ^ j.toNat)) xPow := pu_IC fun _ _ _ => rfl
abbrev xShl : X2 := xIC CPow fun i j => .int (i * 2 ^ j.toNat)
theorem pu_shl : Pu2 K (rI CPow fun i j => .int (i * 2 ^ j.toNat)) xShl := pu_IC fun _ _ _ => rfl
abbrev xShrI : X2 := xIC (fun _ j => 0 ≤ j) fun i j => .int (i / 2 ^ j.toNat)
theorem pu_shr : Pu2 K (rI (fun _ j => 0 ≤ j) fun i j => .int (i / 2 ^ j.toNat)) xShrI := pu_IC fun _ _ _ => rfl
abbrev xBand : X2 := xI fun i j => .int (Builtin.bitAnd i j)
theorem pu_band : Pu2 K (rI0 fun i j => .int (Builtin.bitAnd i j)) xBand := pu_I fun _ _ _ => rfl
abbrev xLt : X2 := xI fun i j => .bl (decide (i < j))
theorem pu_lt : Pu2 K (rI0 fun i j => .bl (decide (i < j))) xLt := pu_I fun _ _ _ => rfl
abbrev xLe : X2 := xI fun i j => .bl (decide (i ≤ j))
theorem pu_le : Pu2 K (rI0 fun i j => .bl (decide (i ≤ j))) xLe := pu_I fun _ _ _ => rfl
abbrev xGt : X2 := xI fun i j => .bl (decide (j < i))
theorem pu_gt : Pu2 K (rI0 fun i j => .bl (decide (j < i))) xGt := pu_I fun _ _ _ => rfl
abbrev xGe : X2 := xI fun i j => .bl (decide (j ≤ i))
theorem pu_ge : Pu2 K (rI0 fun i j => .bl (decide (j ≤ i))) xGe := pu_I fun _ _ _ => rfl
def xNeg : X1 := fun a R => match a with
  | .int i => R (.int (-i))
  | _ => False
theorem pu_neg : Pu1 K (rU fun i => .int (-i)) xNeg := fun H0 H a v R e ra hx => by
  cases a with
  | int i => exact ⟨.int (-i), .int (-i), hx, fun H' => rfl, fun Q q => ⟨i, ra, q⟩⟩
  | _ => exact (show False from hx).elim
/-- is None, is not None -/
def isNonD : D → Bool
  | .non => true
  | _ => false
theorem Rep.isNon {H : Hp} : ∀ {d : D} {v : V}, Rep K H d v → decide (v = .non) = isNonD d
  | .non, _, h => by cases (show _ = V.non from h); rfl
  | .bl b, _, h => by cases (show _ = V.bl b from h); rfl
  | .int b, _, h => by cases (show _ = V.int b from h); rfl
  | .str b, _, h => by cases (show _ = V.str b from h); rfl
  | .tup ds, _, ⟨a, _, e, _⟩ => by cases e; rfl
  | .ftup ds, _, ⟨a, _, _, e, _⟩ => by cases e; rfl
  | .lst ds, _, ⟨a, _, e, _⟩ => by cases e; rfl
  | .dK _ _, _, ⟨a, _, e, _⟩ => by cases e; rfl
  | .dT _ _, _, ⟨a, _, e, _⟩ => by cases e; rfl
  | .rng _ _, _, ⟨a, e, _⟩ => by cases e; rfl
  | .fro _, _, ⟨a, e, _⟩ => by cases e; rfl
  | .lls _, _, h => h.elim
def xIsN : X2 := fun a b R => match b with
  | .non => R (.bl (isNonD a))
  | _ => False
theorem pu_isN : Pu2 K (fun x y H Q => y = .non ∧ Q (.bl (decide (x = .non))) H) xIsN := fun H0 H a b v w R e ra rb hx => by
  cases b with
  | non => exact ⟨_, .bl (isNonD a), hx, fun H' => rfl, fun Q q => ⟨rb, by rw [ra.isNon]; exact q⟩⟩
  | _ => exact (show False from hx).elim
def xNotN : X2 := fun a b R => match b with
  | .non => R (.bl (!isNonD a))
  | _ => False
theorem pu_notN : Pu2 K (fun x y H Q => y = .non ∧ Q (.bl (!decide (x = .non))) H) xNotN := fun H0 H a b v w R e ra rb hx => by
  cases b with
  | non => exact ⟨_, .bl (!isNonD a), hx, fun H' => rfl, fun Q q => ⟨rb, by rw [ra.isNon]; exact q⟩⟩
  | _ => exact (show False from hx).elim

/-! ### + -/
def xAdd : X2 := fun a b R => match a, b with
  | .int i, .int j => R (.int (i + j))
  | .str s, .str t => s.length + t.length ≤ 16777216 ∧ R (.str (s ++ t))
  | .tup xs, .tup ys => xs.length + ys.length ≤ 16777216 ∧ R (.tup (xs ++ ys))
  | .lst xs, .lst ys => xs.length + ys.length ≤ 16777216 ∧ R (.lst (xs ++ ys))
  | _, _ => False
theorem rf_add : Rf2 K (rAddA K) xAdd := fun B H0 H al E σ f a b v w ra rb Q R hx k => by
  cases a with
  | int i =>
    cases b with
    | int j => exact .inl ⟨i, j, ra, rb, k _ (.int (i + j)) H0 H f (Ex.refl _) rfl hx⟩
    | _ => exact (show False from hx).elim
  | str s =>
    cases b with
    | str t => exact .inr (.inl ⟨s, t, ra, rb, sz_le hx.1, k _ (.str (s ++ t)) H0 H f (Ex.refl _) rfl hx.2⟩)
    | _ => exact (show False from hx).elim
  | tup ds =>
    cases b with
    | tup es =>
      obtain ⟨p, xs, rfl, hp, r1⟩ := (rep_tup ra)
      obtain ⟨q, ys, rfl, hq, r2⟩ := (rep_tup rb)
      have l1 := r1.length
      have l2 := r2.length
      refine .inr (.inr (.inl ⟨p, q, xs, ys, rfl, rfl, ex_t f.wd.ex hp, ex_t f.wd.ex hq, by rw [l1, l2]; exact sz_le hx.1, fun e => ?_, fun e1 e2 => ?_, fun e1 e2 l hl => ?_⟩))
      · have : ds = [] := by
          subst e
          cases ds with
          | nil => rfl
          | cons => cases l1
        subst this
        exact k _ (.tup es) H0 H f (Ex.refl _) rb hx.2
      · have : es = [] := by
          subst e2
          cases es with
          | nil => rfl
          | cons => cases l2
        subst this
        have hx2 := hx.2
        rw [List.append_nil] at hx2
        exact k _ (.tup ds) H0 H f (Ex.refl _) ra hx2
      · have e := Ex.new (o := .tup (xs ++ ys)) (f.wd.ex.free hl)
        exact k _ (.tup (ds ++ es)) _ _ ⟨f.wd.new hl, f.sg.mono e⟩ e ⟨l, xs ++ ys, rfl, upd_same, (r1.append r2).mono e⟩ hx.2
    | _ => exact (show False from hx).elim
  | lst ds =>
    cases b with
    | lst es =>
      obtain ⟨p, xs, rfl, hp, r1⟩ := (show ∃ a xs, v = .ref a ∧ H0 a = some (.lst xs) ∧ RepL K H0 ds xs from ra)
      obtain ⟨q, ys, rfl, hq, r2⟩ := (show ∃ a xs, w = .ref a ∧ H0 a = some (.lst xs) ∧ RepL K H0 es xs from rb)
      refine .inr (.inr (.inr ⟨p, q, xs, ys, rfl, rfl, f.wd.ex _ _ hp, f.wd.ex _ _ hq, by rw [r1.length, r2.length]; exact sz_le hx.1, fun l hl => ?_⟩))
      have e := Ex.new (o := .lst (xs ++ ys)) (f.wd.ex.free hl)
      exact k _ (.lst (ds ++ es)) _ _ ⟨f.wd.new hl, f.sg.mono e⟩ e ⟨l, xs ++ ys, rfl, upd_same, (r1.append r2).mono e⟩ hx.2
    | _ => exact (show False from hx).elim
  | _ => cases b <;> exact (show False from hx).elim

/-! ### ==, != -/
mutual
def py : D → PyData
  | .non => .none
  | .bl b => .bool b
  | .int i => .int i
  | .str s => .str s
  | .tup ds => .tuple (pys ds)
  | .lst ds => .list (pys ds)
  | _ => .dict []
def pys : List D → List PyData
  | [] => []
  | d :: ds => py d :: pys ds
end
mutual
theorem shaped_dict {l} : SeqAt.shaped (.dict l) = false := rfl
theorem Rep.dp {H0 H : Hp} (e : Ex H0 H) : ∀ (d : D) (v : V), Rep K H0 d v → (py d).canLay0 = true → Dp K H v (py d)
  | .non, _, h, _ => by cases (show _ = V.non from h); exact .non
  | .bl b, _, h, _ => by cases (show _ = V.bl b from h); exact .bl b
  | .int b, _, h, _ => by cases (show _ = V.int b from h); exact .int b
  | .str b, _, h, _ => by cases (show _ = V.str b from h); exact .str b
  | .tup ds, v, h, c => by
    obtain ⟨a, xs, rfl, hq, r⟩ := (rep_tup h)
    exact .tup (ex_t e hq) (Rep.dps e ds xs r c)
  | .lst ds, v, h, c => by
    obtain ⟨a, xs, rfl, hq, r⟩ := (show ∃ a xs, v = .ref a ∧ H0 a = some (.lst xs) ∧ RepL K H0 ds xs from h)
    exact .lst (SqL.of (e _ _ hq)) (Rep.dps e ds xs r c)
  | .ftup _, _, _, c => by cases c
  | .dK _ _, _, _, c => by cases c
  | .dT _ _, _, _, c => by cases c
  | .rng _ _, _, _, c => by cases c
  | .fro _, _, _, c => by cases c
  | .lls _, _, h, _ => h.elim
theorem Rep.dps {H0 H : Hp} (e : Ex H0 H) : ∀ (ds : List D) (vs : List V), RepL K H0 ds vs → PyData.canLayAll0 (pys ds) = true → DpAll K H vs (pys ds)
  | [], _, h, _ => by cases (show _ = [] from h); exact .nil
  | d :: ds, vs, h, c => by
    obtain ⟨x, ys, rfl, r1, r2⟩ := (show ∃ x ys, vs = x :: ys ∧ Rep K H0 d x ∧ RepL K H0 ds ys from h)
    obtain ⟨c1, c2⟩ := Bool.and_eq_true_iff.mp c
    exact .cons (Rep.dp e d x r1 c1) (Rep.dps e ds ys r2 c2)
end
def xEqC (neg : Bool) : X2 := fun a b R => match a, b with
  | .int i, .int j => R (.bl (neg ^^ decide (i = j)))
  | .str i, .str j => R (.bl (neg ^^ decide (i = j)))
  | .bl i, .bl j => R (.bl (neg ^^ decide (i = j)))
  | .non, .non => R (.bl (neg ^^ true))
  | .non, .int _ => R (.bl neg)
  | .int _, .non => R (.bl neg)
  | .non, .str _ => R (.bl neg)
  | .str _, .non => R (.bl neg)
  | .tup xs, .tup ys => SeqAt.shaped (.tuple (pys xs)) = true ∧ SeqAt.shaped (.tuple (pys ys)) = true ∧ R (.bl (neg ^^ PyData.eqvAll (pys xs) (pys ys)))
  | .lst xs, .lst ys => SeqAt.shaped (.list (pys xs)) = true ∧ SeqAt.shaped (.list (pys ys)) = true ∧ R (.bl (neg ^^ PyData.eqvAll (pys xs) (pys ys)))
  | _, _ => False
abbrev xEq : X2 := xEqC false
abbrev xNe : X2 := xEqC true
theorem eq_core {H0 H : Hp} {a b : D} {v w : V} {neg : Bool} {R : D → Prop} (e : Ex H0 H) (ra : Rep K H0 a v) (rb : Rep K H0 b w) (hx : xEqC neg a b R) :
    ∃ c : Bool, R (.bl (neg ^^ c)) ∧ ((scal v w = true ∧ decide (v = w) = c) ∨ ∃ d d', Dp K H v d ∧ Dp K H w d' ∧ SeqAt.shaped d = true ∧ SeqAt.shaped d' = true ∧ PyData.eqv d d' = c) := by
  unfold xEqC at hx
  split at hx
  · rename_i i j
    cases (show v = V.int i from ra); cases (show w = V.int j from rb)
    exact ⟨decide (i = j), hx, .inl ⟨rfl, by simp⟩⟩
  · rename_i i j
    cases (show v = V.str i from ra); cases (show w = V.str j from rb)
    exact ⟨decide (i = j), hx, .inl ⟨rfl, by simp⟩⟩
  · rename_i i j
    cases (show v = V.bl i from ra); cases (show w = V.bl j from rb)
    exact ⟨decide (i = j), hx, .inl ⟨rfl, by simp⟩⟩
  · cases (show v = V.non from ra); cases (show w = V.non from rb)
    exact ⟨true, hx, .inl ⟨rfl, by simp⟩⟩
  · rename_i j
    cases (show v = V.non from ra); cases (show w = V.int j from rb)
    exact ⟨false, by rw [Bool.xor_false]; exact hx, .inl ⟨rfl, by simp⟩⟩
  · rename_i j
    cases (show v = V.int j from ra); cases (show w = V.non from rb)
    exact ⟨false, by rw [Bool.xor_false]; exact hx, .inl ⟨rfl, by simp⟩⟩
  · rename_i j
    cases (show v = V.non from ra); cases (show w = V.str j from rb)
    exact ⟨false, by rw [Bool.xor_false]; exact hx, .inl ⟨rfl, by simp⟩⟩
  · rename_i j
    cases (show v = V.str j from ra); cases (show w = V.non from rb)
    exact ⟨false, by rw [Bool.xor_false]; exact hx, .inl ⟨rfl, by simp⟩⟩
  · rename_i xs ys
    exact ⟨_, hx.2.2, .inr ⟨.tuple (pys xs), .tuple (pys ys), Rep.dp e (.tup xs) v ra (SeqAt.canLay_of_shaped hx.1), Rep.dp e (.tup ys) w rb (SeqAt.canLay_of_shaped hx.2.1), hx.1, hx.2.1, by simp only [PyData.eqv]⟩⟩
  · rename_i xs ys
    exact ⟨_, hx.2.2, .inr ⟨.list (pys xs), .list (pys ys), Rep.dp e (.lst xs) v ra (SeqAt.canLay_of_shaped hx.1), Rep.dp e (.lst ys) w rb (SeqAt.canLay_of_shaped hx.2.1), hx.1, hx.2.1, by simp only [PyData.eqv]⟩⟩
  · exact hx.elim
theorem pu_eq : Pu2 K (rEqA K) xEq := fun H0 H a b v w R e ra rb hx => by
  obtain ⟨c, hr, q⟩ := eq_core e ra rb hx
  rw [Bool.false_xor] at hr
  refine ⟨.bl c, .bl c, hr, fun _ => rfl, fun Q q' => ?_⟩
  rcases q with ⟨s, z⟩ | ⟨d, d', h1, h2, h3, h4, z⟩
  · exact .inl ⟨s, by rw [z]; exact q'⟩
  · exact .inr ⟨d, d', h1, h2, h3, h4, by rw [z]; exact q'⟩
theorem pu_ne : Pu2 K (rNeA K) xNe := fun H0 H a b v w R e ra rb hx => by
  obtain ⟨c, hr, q⟩ := eq_core e ra rb hx
  rw [Bool.true_xor] at hr
  refine ⟨.bl (!c), .bl (!c), hr, fun _ => rfl, fun Q q' => ?_⟩
  rcases q with ⟨s, z⟩ | ⟨d, d', h1, h2, h3, h4, z⟩
  · exact .inl ⟨s, by rw [z]; exact q'⟩
  · exact .inr ⟨d, d', h1, h2, h3, h4, by rw [z]; exact q'⟩

/-! ### a chain -/
def boolD (d : D) (k : Bool → Prop) : Prop := match d with
  | .bl b => k b
  | _ => False
theorem boolD_ok {d : D} {k : Bool → Prop} (h : boolD d k) : ∃ b, d = .bl b ∧ k b := by
  cases d with
  | bl b => exact ⟨b, rfl, h⟩
  | _ => exact (show False from h).elim
def xChain (x x' : X2) (xa xb xc : XE) : XE := fun E R => xa E fun a E1 => xb E1 fun b E2 => x a b fun d => boolD d fun k => if k = true then xc E2 fun c E3 => x' b c fun d' => R d' E3 else R (.bl false) E2
theorem rf_chain {r r' : R2} {x x' : X2} {ta tb tc : TE} {xa xb xc : XE} (hr : Rf2 K r x) (hr' : Rf2 K r' x') (ha : Rf K ta xa) (hb : Rf K tb xb) (hc : Rf K tc xc) : Rf K (tChain r r' ta tb tc) (xChain x x' xa xb xc) := fun B H0 H al E σ f Q R hx k =>
  ha B H0 H al E σ f _ _ hx fun v a E1 H1 H' f1 e1 ra h1 => hb B H1 H' al E1 σ f1 _ _ h1 fun w b E2 H2 H'' f2 e2 rb h2 =>
    hr B H2 H'' al E2 σ f2 a b v w (ra.mono e2) rb _ _ h2 fun z d H3 H3' f3 e3 rz h3 => by
      obtain ⟨kk, rfl, h4⟩ := boolD_ok h3
      refine ⟨kk, rz, ?_⟩
      cases kk with
      | true =>
        refine iteT ?_
        exact hc B H3 H3' al E2 σ f3 _ _ h4 fun u c E4 H4 H4' f4 e4 rc h5 => hr' B H4 H4' al E4 σ f4 b c w u ((rb.mono e3).mono e4) rc Q _ h5 fun z d H5 H5' f5 e5 rz h6 => k z d E4 H5 H5' f5 ((((e1.trans e2).trans e3).trans e4).trans e5) rz h6
      | false => exact iteF (k _ (.bl false) E2 H3 H3' f3 ((e1.trans e2).trans e3) rfl h4)

/-! ### subscripts -/
def getD (xs : List D) (i : Int) (R : D → Prop) : Prop := match atI xs i with
  | some d => R d
  | none => False
theorem getD_ok {xs : List D} {i : Int} {R : D → Prop} (h : getD xs i R) : ∃ d, atI xs i = some d ∧ R d := by
  unfold getD at h
  cases q : atI xs i with
  | none => rw [q] at h; exact h.elim
  | some d => rw [q] at h; exact ⟨d, rfl, h⟩
theorem RepL.atI {H : Hp} {ds : List D} {xs : List V} {i : Int} {d : D} (r : RepL K H ds xs) (h : L2.atI ds i = some d) : ∃ v, L2.atI xs i = some v ∧ Rep K H d v := by
  unfold L2.atI at h ⊢
  rw [r.length]
  cases q : ixN ds.length i with
  | none => rw [q] at h; cases h
  | some j =>
    rw [q] at h
    exact r.get h
def xIx : X2 := fun a b R => match a, b with
  | .lst xs, .int i => getD xs i R
  | .tup xs, .int i => getD xs i R
  | .str s, .int i => s.length ≤ 16777216 ∧ (match atI s.cps.toList i with | some c => R (.str ⟨#[c]⟩) | none => False)
  | _, _ => False
theorem rf_ix : Rf2 K (rIx K) xIx := fun B H0 H al E σ f a b v w ra rb Q R hx k => by
  unfold xIx at hx
  split at hx
  · rename_i xs i
    obtain ⟨d, hd, q⟩ := getD_ok hx
    obtain ⟨p, ys, rfl, hp, r⟩ := (show ∃ a ys, v = .ref a ∧ H0 a = some (.lst ys) ∧ RepL K H0 xs ys from ra)
    obtain ⟨z, hz, rz⟩ := r.atI hd
    exact .inl ⟨p, ys, i, z, rfl, rb, SqL.of (f.wd.ex _ _ hp), hz, k z d H0 H f (Ex.refl _) rz q⟩
  · rename_i xs i
    obtain ⟨d, hd, q⟩ := getD_ok hx
    obtain ⟨p, ys, rfl, hp, r⟩ := (rep_tup ra)
    obtain ⟨z, hz, rz⟩ := r.atI hd
    exact .inr (.inl ⟨p, ys, i, z, rfl, rb, ex_t f.wd.ex hp, hz, k z d H0 H f (Ex.refl _) rz q⟩)
  · rename_i s i
    obtain ⟨h1, h2⟩ := hx
    cases q : atI s.cps.toList i with
    | none => rw [q] at h2; exact h2.elim
    | some c =>
      rw [q] at h2
      exact .inr (.inr ⟨s, i, c, ra, rb, sz_le h1, q, k _ (.str ⟨#[c]⟩) H0 H f (Ex.refl _) rfl h2⟩)
  · exact hx.elim
/-- found[i], found looked at -/
def xIxP (i : Nat) (xb : XE) : XE := fun E R => nth E i ≠ .un ∧ xb E fun b E1 => match nth E1 i with
  | .val a => xIx a b fun c => R c E1
  | .own _ (.lst xs) => xIx (.lst xs) b fun c => R c E1
  | _ => False
theorem rf_ixP {i : Nat} {tb : TE} {xb : XE} (hb : Rf K tb xb) : Rf K (tOp (rIx K) (tVar i) tb) (xIxP i xb) := fun B H0 H al E σ f Q R hx k => by
  obtain ⟨v, hv⟩ := f.sees hx.1
  refine ⟨v, hv, hb B H0 H al E σ f _ _ hx.2 fun w b E1 H1 H' f1 e1 rb q => ?_⟩
  split at q
  · rename_i d qs
    obtain ⟨v', hv', rv⟩ := f1.sg.val i d qs
    rw [hv] at hv'; cases hv'
    exact rf_ix B H1 H' al E1 σ f1 d b v w rv rb Q _ q fun z dz H2 H2' f2 e2 rz q2 => k z dz E1 H2 H2' f2 (e1.trans e2) rz q2
  · rename_i io xs qs
    have hv' := f1.sg.own i io _ qs
    rw [hv] at hv'; cases hv'
    obtain ⟨ro, _⟩ := f1.wd.own i io _ qs
    cases b with
    | int j =>
      obtain ⟨e, he, q2⟩ := getD_ok (show getD xs j _ from q)
      obtain ⟨a, ys, hl, hy, r⟩ := (show ∃ a ys, al i = [a] ∧ H' a = some (.lst ys) ∧ RepL K H1 xs ys from ro)
      obtain ⟨z, hz, rz⟩ := r.atI he
      rw [hl]
      exact .inl ⟨a, ys, j, z, rfl, rb, SqL.of hy, hz, k z e E1 H1 H' f1 e1 rz q2⟩
    | _ => exact (show False from q).elim
  · exact q.elim
/-- a list of lists of one's own -/
def onLls (E : List Sl) (i : Nat) (k : Bool → List (List D) → Prop) : Prop := match nth E i with
  | .own io (.lls dss) => k io dss
  | _ => False
theorem onLls_ok {E : List Sl} {i : Nat} {k : Bool → List (List D) → Prop} (h : onLls E i k) : ∃ io dss, nth E i = .own io (.lls dss) ∧ k io dss := by
  unfold onLls at h
  split at h
  · rename_i io dss q
    exact ⟨io, dss, q, h⟩
  · exact h.elim
def intV (E : List Sl) (i : Nat) (k : Int → Prop) : Prop := match nth E i with
  | .val (.int p) => k p
  | _ => False
theorem intV_ok {E : List Sl} {i : Nat} {k : Int → Prop} (h : intV E i k) : ∃ p, nth E i = .val (.int p) ∧ k p := by
  unfold intV at h
  split at h
  · rename_i p q
    exact ⟨p, q, h⟩
  · exact h.elim
theorem Fr.intV {B : Bs} {H0 H : Hp} {al : Nat → List Addr} {E : List Sl} {σ : St} {i : Nat} {p : Int} (f : Fr K B H0 H al E σ) (h : nth E i = .val (.int p)) : σ[i]? = some (some (.int p)) := by
  obtain ⟨v, hv, rv⟩ := f.sg.val i _ h
  cases (show v = V.int p from rv)
  exact hv
theorem LL.atI {H0 H : Hp} {dss : List (List D)} {bs : List Addr} {i : Int} {n : Nat} {ds : List D} (r : LL K H0 H dss bs) (hn : ixN dss.length i = some n) (h : dss[n]? = some ds) : ∃ b xs, L2.atI (bs.map V.ref) i = some (.ref b) ∧ bs[n]? = some b ∧ H b = some (.lst xs) ∧ RepL K H0 ds xs := by
  obtain ⟨b, xs, h1, h2, h3⟩ := r.get h
  refine ⟨b, xs, ?_, h1, h2, h3⟩
  unfold L2.atI
  rw [List.length_map, r.length, hn]
  show (bs.map V.ref)[n]? = _
  rw [List.getElem?_map, h1]; rfl
/-- the k-th of them -/
def rowD (dss : List (List D)) (p : Int) (k : Nat → List D → Prop) : Prop := match ixN dss.length p with
  | some n => (match dss[n]? with | some ds => k n ds | none => False)
  | none => False
theorem rowD_ok {dss : List (List D)} {p : Int} {k : Nat → List D → Prop} (h : rowD dss p k) : ∃ n ds, ixN dss.length p = some n ∧ dss[n]? = some ds ∧ k n ds := by
  unfold rowD at h
  cases q : ixN dss.length p with
  | none => rw [q] at h; exact h.elim
  | some n =>
    simp only [q] at h
    cases q2 : dss[n]? with
    | none => rw [q2] at h; exact h.elim
    | some ds => simp only [q2] at h; exact ⟨n, ds, rfl, q2, h⟩
/-- rows[k][j], rows a list of lists of one's own -/
def xIx2V (i k j : Nat) : XE := fun E R => onLls E i fun _ dss => intV E k fun p => intV E j fun q => rowD dss p fun _ ds => getD ds q fun c => R c E
theorem rf_ix2V {i k j : Nat} : Rf K (tOp (rIx K) (tOp (rIx K) (tVar i) (tVar k)) (tVar j)) (xIx2V i k j) := fun B H0 H al E σ f Q R hx kk => by
  obtain ⟨io, dss, h1, hx⟩ := onLls_ok hx
  obtain ⟨p, h2, hx⟩ := intV_ok hx
  obtain ⟨q, h3, hx⟩ := intV_ok hx
  obtain ⟨n, ds, h4, h5, hx⟩ := rowD_ok hx
  obtain ⟨c, hc, hx⟩ := getD_ok hx
  obtain ⟨ro, _⟩ := f.wd.own i io _ h1
  obtain ⟨a, bs, hl, ha, hLL, _⟩ := (show ∃ a bs, al i = a :: bs ∧ H a = some (.lst (bs.map V.ref)) ∧ LL K H0 H dss bs ∧ (al i).Nodup from ro)
  obtain ⟨b, xs, g1, g2, g3, g4⟩ := hLL.atI h4 h5
  obtain ⟨z, hz, rz⟩ := g4.atI hc
  have hs := f.sg.own i io _ h1
  rw [hl] at hs
  exact ⟨.ref a, hs, .int p, f.intV h2, .inl ⟨a, _, p, .ref b, rfl, rfl, SqL.of ha, g1, .int q, f.intV h3, .inl ⟨b, xs, q, z, rfl, rfl, SqL.of g3, hz, kk z c E H0 H f (Ex.refl _) rz hx⟩⟩⟩
/-- rows[k][j] = e -/
def xSet2 (i k j : Nat) (xv : XE) : XS := fun XD E => xv E fun d E1 => onLls E1 i fun io dss => intV E1 k fun p => intV E1 j fun q => rowD dss p fun n ds => match ixN ds.length q with
  | some m => XD.nx (put E1 i (.own io (.lls (dss.set n (ds.set m d)))))
  | none => False
theorem rs_set2 {i k j : Nat} {tv : TE} {xv : XE} (hv : Rf K tv xv) : RfS K (tAsg tv (gSub (tOp (rIx K) (tVar i) (tVar k)) (tVar j) rSetL)) (xSet2 i k j xv) := fun B H0 H al E σ f Dd XD hx o =>
  hv B H0 H al E σ f _ _ hx fun v d E1 H1 H' f1 e1 rv hx => by
    obtain ⟨io, dss, h1, hx⟩ := onLls_ok hx
    obtain ⟨p, h2, hx⟩ := intV_ok hx
    obtain ⟨q, h3, hx⟩ := intV_ok hx
    obtain ⟨n, ds, h4, h5, hx⟩ := rowD_ok hx
    cases h6 : ixN ds.length q with
    | none => rw [h6] at hx; exact hx.elim
    | some m =>
      simp only [h6] at hx
      obtain ⟨ro, ho⟩ := f1.wd.own i io _ h1
      obtain ⟨a, bs, hl, ha, hLL, hnd⟩ := (show ∃ a bs, al i = a :: bs ∧ H' a = some (.lst (bs.map V.ref)) ∧ LL K H1 H' dss bs ∧ (al i).Nodup from ro)
      obtain ⟨b, xs, g1, g2, g3, g4⟩ := hLL.atI h4 h5
      have hs := f1.sg.own i io _ h1
      rw [hl] at hs hnd
      have hb : b ∈ bs := List.mem_of_getElem? g2
      have hab : a ≠ b := fun z => (List.nodup_cons.mp hnd).1 (by rw [z]; exact hb)
      refine ⟨.ref a, hs, .int p, f1.intV h2, .inl ⟨a, _, p, .ref b, rfl, rfl, SqL.of ha, g1, .int q, f1.intV h3, b, xs, q, m, rfl, rfl, g3, by rw [g4.length]; exact h6, ?_⟩⟩
      have hset : LL K H1 (upd H' b (.lst (xs.set m v))) (dss.set n (ds.set m d)) bs := hLL.set (List.nodup_cons.mp hnd).2 g2 (g4.set m rv)
      refine o.nx H1 _ al _ σ ⟨f1.wd.mut (d' := .lls (dss.set n (ds.set m d))) h1 ⟨a, bs, hl, by rw [upd_ne hab]; exact ha, hset, by rw [hl]; exact hnd⟩ (fun c o hc he => ?_) (fun c hc => ?_), f1.sg.mut h1⟩ e1 hx
      · rw [upd_ne fun z => hc (by rw [hl, z]; exact List.mem_cons_of_mem _ hb)]; exact he
      · by_cases z : c = b
        · subst z; rw [upd_same] at hc; cases hc
        · rw [upd_ne z] at hc; exact hc
/-- rows[k] = a new list -/
def xSetRow (i k : Nat) (xv : XE) : XS := fun XD E => xv E fun d E1 => match d with
  | .lst ds => onLls E1 i fun io dss => io = false ∧ intV E1 k fun p => match ixN dss.length p with
    | some n => XD.nx (put E1 i (.own io (.lls (dss.set n ds))))
    | none => False
  | _ => False
theorem nodup_set {bs : List Addr} {n : Nat} {p : Addr} (h : bs.Nodup) (hp : p ∉ bs) : (bs.set n p).Nodup := by
  induction bs generalizing n with
  | nil => exact List.nodup_nil
  | cons b r ih =>
    obtain ⟨h1, h2⟩ := List.nodup_cons.mp h
    cases n with
    | zero => exact List.nodup_cons.mpr ⟨fun z => hp (List.mem_cons_of_mem _ z), h2⟩
    | succ n =>
      refine List.nodup_cons.mpr ⟨fun z => ?_, ih h2 fun z => hp (List.mem_cons_of_mem _ z)⟩
      rcases List.mem_or_eq_of_mem_set z with z | z
      · exact h1 z
      · exact hp (by rw [z]; exact List.mem_cons_self)
theorem rs_setRow {i k : Nat} {tv : TE} {xv : XE} (hv : RfF K tv xv) : RfS K (tAsg tv (gSub (tVar i) (tVar k) rSetL)) (xSetRow i k xv) := fun B H0 H al E σ f Dd XD hx o =>
  hv B H0 H al E σ f _ _ hx fun l d E1 H1 H' f1 e1 rn hf hx => by
    cases d with
    | lst ds =>
      obtain ⟨io, dss, h1, hio, hx⟩ := onLls_ok hx
      obtain ⟨p, h2, hx⟩ := intV_ok hx
      cases h4 : ixN dss.length p with
      | none => rw [h4] at hx; exact hx.elim
      | some n =>
        simp only [h4] at hx
        subst hio
        obtain ⟨c, ys, rfl, hc, rc⟩ := (show ∃ a xs, l = [a] ∧ H' a = some (.lst xs) ∧ RepL K H1 ds xs from rn)
        obtain ⟨c0, cHe, cn⟩ := hf c List.mem_cons_self
        obtain ⟨ro, ho⟩ := f1.wd.own i false _ h1
        obtain ⟨a, bs, hl, ha, hLL, hnd⟩ := (show ∃ a bs, al i = a :: bs ∧ H' a = some (.lst (bs.map V.ref)) ∧ LL K H1 H' dss bs ∧ (al i).Nodup from ro)
        have hs := f1.sg.own i false _ h1
        rw [hl] at hs hnd
        have cni : c ∉ a :: bs := by rw [← hl]; exact cn i false _ h1
        have hac : a ≠ c := fun z => cni (by rw [z]; exact List.mem_cons_self)
        obtain ⟨hn1, hn2⟩ := List.nodup_cons.mp hnd
        have hnl : n < bs.length := by rw [hLL.length]; exact (ixN_seq h4).2.1
        have mset : ∀ x, x ∈ bs.set n c → x ∈ bs ∨ x = c := fun x hx => List.mem_or_eq_of_mem_set hx
        refine ⟨.ref a, hs, .int p, f1.intV h2, a, _, p, n, rfl, rfl, ha, by rw [List.length_map, hLL.length]; exact h4, ?_⟩
        have hk2 : LL K H1 (upd H' a (.lst ((bs.set n c).map V.ref))) (dss.set n ds) (bs.set n c) := by
          refine (hLL.swap hnl hc rc).keep fun x hx => upd_ne fun z => ?_
          rcases mset x hx with y | y
          · exact hn1 (by rw [← z]; exact y)
          · exact hac (by rw [← z, y])
        have hw := f1.wd.upd (H' := upd H' a (.lst ((bs.set n c).map V.ref))) (l := a :: bs.set n c) (d' := .lls (dss.set n ds)) h1
          ⟨a, _, rfl, upd_same, hk2, List.nodup_cons.mpr ⟨fun z => by
            rcases mset a z with y | y
            · exact hn1 y
            · exact hac y, nodup_set hn2 fun z => cni (List.mem_cons_of_mem _ z)⟩⟩ (fun z => by cases z)
          (fun x hx => by
            rcases List.mem_cons.mp hx with z | z
            · exact .inl (by rw [hl, z]; exact List.mem_cons_self)
            · rcases mset x z with y | y
              · exact .inl (by rw [hl]; exact List.mem_cons_of_mem _ y)
              · subst y; exact .inr ⟨c0, cHe, cn⟩)
          (fun x o hx he => by rw [upd_ne fun z => hx (by rw [hl, z]; exact List.mem_cons_self)]; exact he)
          (fun x hx => by
            by_cases z : x = a
            · subst z; rw [upd_same] at hx; cases hx
            · rw [upd_ne z] at hx; exact hx)
        have hsg := f1.sg.upd (d' := .lls (dss.set n ds)) (l := a :: bs.set n c) h1 (by rw [hl]; rfl)
        have hmap : (bs.map V.ref).set n (.ref c) = (bs.set n c).map V.ref := by rw [List.map_set]
        show Dd.nx σ (L2.upd H' a (.lst ((bs.map V.ref).set n (.ref c))))
        rw [hmap]
        exact o.nx H1 _ _ _ σ ⟨hw, hsg⟩ e1 hx
    | _ => exact (show False from hx).elim

/-! ### slices -/
abbrev XO := List Sl → (Option Int → List Sl → Prop) → Prop
def RfO (K : PySem.W.Frag) (t : TO) (x : XO) : Prop := ∀ (B : Bs) (H0 H : Hp) (al : Nat → List Addr) (E : List Sl) (σ : St), Fr K B H0 H al E σ → ∀ (Q : Option Int → Hp → Prop) (R : Option Int → List Sl → Prop), x E R →
  (∀ o E' H0' H', Fr K B H0' H' al E' σ → Ex H0 H0' → R o E' → Q o H') → t σ H Q
def xNoPart : XO := fun E R => R none E
theorem ro_none : RfO K tNoPart xNoPart := fun B H0 H al E σ f Q R hx k => k none E H0 H f (Ex.refl _) hx
def xPart (x : XE) : XO := fun E R => x E fun d E1 => match d with
  | .int i => R (some i) E1
  | _ => False
theorem ro_some {t : TE} {x : XE} (h : Rf K t x) : RfO K (tPart t) (xPart x) := fun B H0 H al E σ f Q R hx k =>
  h B H0 H al E σ f _ _ hx fun v d E' H0' H' f' e r q => by
    cases d with
    | int i => exact ⟨i, r, k (some i) E' H0' H' f' e q⟩
    | _ => exact (show False from q).elim
def cutD {α : Type} (xs : List α) (lo hi : Option Int) : List α := (xs.drop (HT.sIx xs.length 0 lo)).take (HT.sIx xs.length xs.length hi - HT.sIx xs.length 0 lo)
theorem RepL.cut {H : Hp} {ds : List D} {xs : List V} (r : RepL K H ds xs) (lo hi : Option Int) : RepL K H (cutD ds lo hi) (cutV xs lo hi) := by
  unfold cutD cutV
  rw [r.length]
  exact (r.drop _).take _
theorem cutD_whole {α : Type} {xs : List α} {lo hi : Option Int} (h : HT.sIx xs.length 0 lo = 0 ∧ HT.sIx xs.length xs.length hi = xs.length) : cutD xs lo hi = xs := by
  unfold cutD
  rw [h.1, h.2]
  simp
def rSlc (K : PySem.W.Frag) : V → Option Int → Option Int → Hp → VK → Prop := fun x lo hi H Q => rSlL K x lo hi H Q ∨ rSlA K x lo hi H Q
theorem slAny {X : Cx} : SlR X (rSlc X.K) := sl_list.or sl_tupA
/-- of tuples -/
def xSl (x : XE) (xl xh : XO) : XE := fun E R => x E fun d E1 => xl E1 fun lo E2 => xh E2 fun hi E3 => match d with
  | .tup ds => R (.tup (cutD ds lo hi)) E3
  | .lst ds => R (.lst (cutD ds lo hi)) E3
  | .fro ns => R (.lst ((cutD ns lo hi).map D.int)) E3
  | _ => False
theorem cut_map {ns : List Int} {lo hi : Option Int} : cutV (ns.map V.int) lo hi = (cutD ns lo hi).map V.int := by
  unfold cutV cutD
  rw [List.length_map, List.map_take, List.map_drop]
theorem rf_sl {t : TE} {tl th : TO} {x : XE} {xl xh : XO} (h : Rf K t x) (hl : RfO K tl xl) (hh : RfO K th xh) : Rf K (tSl (rSlc K) t tl th) (xSl x xl xh) := fun B H0 H al E σ f Q R hx k =>
  h B H0 H al E σ f _ _ hx fun v d E1 H1 H1' f1 e1 r1 q1 => hl B H1 H1' al E1 σ f1 _ _ q1 fun lo E2 H2 H2' f2 e2 q2 => hh B H2 H2' al E2 σ f2 _ _ q2 fun hi E3 H3 H3' f3 e3 q3 => by
    have r3 := (r1.mono e2).mono e3
    have e13 := (e1.trans e2).trans e3
    cases d with
    | tup ds =>
      obtain ⟨a, xs, rfl, hq, r⟩ := (rep_tup r3)
      refine .inr ⟨a, xs, rfl, ex_t f3.wd.ex hq, fun hw => ?_, fun _ p hp => ?_⟩
      · rw [r.length] at hw
        have hw' := cutD_whole hw
        have q3 : R (.tup (cutD ds lo hi)) E3 := q3
        rw [hw'] at q3
        exact k _ (.tup ds) E3 H3 H3' f3 e13 r3 q3
      · have e := Ex.new (o := .tup (cutV xs lo hi)) (f3.wd.ex.free hp)
        exact k _ (.tup (cutD ds lo hi)) E3 _ _ ⟨f3.wd.new hp, f3.sg.mono e⟩ (e13.trans e) ⟨p, _, rfl, upd_same, (r.cut lo hi).mono e⟩ q3
    | lst ds =>
      obtain ⟨a, xs, rfl, hq, r⟩ := (show ∃ a xs, v = .ref a ∧ H3 a = some (.lst xs) ∧ RepL K H3 ds xs from r3)
      refine .inl ⟨a, xs, rfl, SqL.of (f3.wd.ex _ _ hq), fun p hp => ?_⟩
      have e := Ex.new (o := .lst (cutV xs lo hi)) (f3.wd.ex.free hp)
      exact k _ (.lst (cutD ds lo hi)) E3 _ _ ⟨f3.wd.new hp, f3.sg.mono e⟩ (e13.trans e) ⟨p, _, rfl, upd_same, (r.cut lo hi).mono e⟩ q3
    | fro ns =>
      obtain ⟨a, rfl, hq⟩ := (show ∃ a, v = .ref a ∧ SqL K H3 a (ns.map V.int) from r3)
      refine .inl ⟨a, _, rfl, ex_l f3.wd.ex hq, fun p hp => ?_⟩
      rw [cut_map]
      have e := Ex.new (o := .lst ((cutD ns lo hi).map V.int)) (f3.wd.ex.free hp)
      exact k _ (.lst ((cutD ns lo hi).map D.int)) E3 _ _ ⟨f3.wd.new hp, f3.sg.mono e⟩ (e13.trans e) ⟨p, _, rfl, upd_same, repl_ints _⟩ q3
    | _ => exact (show False from q3).elim

/-! ### builtins -/
def lenD : D → (Int → Prop) → Prop
  | .lst xs, k => k xs.length
  | .tup xs, k => k xs.length
  | .str s, k => s.length ≤ 16777216 ∧ k s.length
  | .dK ks _, k => k ks.length
  | _, _ => False
end
end Pw
end

section
set_option maxRecDepth 100000
set_option maxHeartbeats 1000000
namespace Pw
open PySem PySem.Spec PyProof.Rows L2
/-! ### min, max, sum of a tuple of ints -/
section
variable {prog : Program} {w : World} {A : Around} {E : Value → Shared → Prop} {s : Shared} {l : Addr} {its : List Value} {ns : List Int} {Q : Value → Shared → Prop}
theorem iter_tup {items : Array Value} {Q : Value → Shared → Prop} (hl : s.heap.IsTuple l items)
    (h : ∀ s₂ : Shared, s₂ = { s with heap := s.heap.push { cls := .type "tuple_iterator", data := .fields #[.ref l, .int 0 0] } } →
      (s₂.heap.IsTupleIter s.heap.objs.size l 0 ∧ s₂.heap.IsTuple l items) → (∀ b ∈ [s.heap.objs.size, l], b < s₂.heap.objs.size) → l ≠ s.heap.objs.size → Q (.ref s.heap.objs.size) s₂) :
    wpAny (model prog w) A (pyIter (.ref l)) Q E s := by
  have hlt : l < s.heap.objs.size := by obtain ⟨_, e, _⟩ := hl; exact Heap.lt_size e
  refine wpAny_pyIter_tuple hl (h _ rfl ⟨⟨_, Heap.get?_push_size _ rfl, rfl, rfl⟩, hl.push _⟩ (fun b hb => ?_) (Nat.ne_of_lt hlt))
  show b < (s.heap.push _).objs.size
  rw [Heap.size_push]
  rcases List.mem_cons.mp hb with rfl | hb
  · exact Nat.lt_succ_self _
  · rcases List.mem_cons.mp hb with rfl | hb
    · exact Nat.lt_succ_of_lt hlt
    · cases hb
theorem old_keptT {o1 : Obj} {h' : Heap} (hk : ∀ b o, b ∉ [s.heap.objs.size] → (s.heap.push o1).get? b = some o → h'.get? b = some o) :
    ∀ b o, s.heap.get? b = some o → h'.get? b = some o := fun b o e => hk b o (fun hm => by
      rcases List.mem_cons.mp hm with e1 | hm
      · exact absurd (e1 ▸ Heap.lt_size e) (Nat.lt_irrefl _)
      · cases hm) (Heap.get?_push_of_some _ e)
theorem min_rawT (hh : A.handled = none) (hl : s.heap.IsTuple l its.toArray) (hi : IntsAre its ns) (hne : 0 < ns.length)
    (h : ∀ h' tk M t', (∀ b o, s.heap.get? b = some o → h'.get? b = some o) → M ∈ ns → (∀ a, a ∈ ns → M ≤ a) → Q (.int M t') { s with heap := h', toks := tk }) : wpAny (model prog w) A (call (.builtin "min") [.ref l]) Q E s := by
  obtain ⟨xs, e⟩ := hi.allInts.items
  have hn : numsOf (intItems xs).toList = ns := by rw [← e]; exact hi.numsOf
  rw [nums_intItems] at hn
  subst hn
  rw [e] at hl
  have hsz : 0 < xs.size := by simpa using hne
  refine call_min_walk (iter_tup hl fun s₂ e st hfp hlI => ?_)
  subst e
  refine ⟨_, _, _, _, _, _, _, rfl, Walks.tuple (A := A.in1) hh _ l hlI (intItems xs), st, hfp, by simpa [intItems] using hsz, CmpOf.ints_lt (numAt xs) (fun _ _ => intItems_at), fun v h' tk hP hk => ?_⟩
  have hv : (intItems xs)[argBest (fun i j => decide (numAt xs i < numAt xs j)) (xs.size - 1)]? = some v := by simpa [intItems] using hP
  obtain ⟨t, rfl⟩ := intItems_at hv
  obtain ⟨h1, h2⟩ := argBest_lt (numAt xs) (xs.size - 1)
  refine h h' tk _ t (old_keptT hk) ?_ fun a ha => ?_
  · rw [numAt_eq]; exact PySem.getD_mem (by rw [List.length_map, Array.length_toList]; omega)
  · obtain ⟨j, hj, rfl⟩ := mem_getD ha
    rw [List.length_map, Array.length_toList] at hj
    rw [← numAt_eq]; exact h2 j (by omega)
theorem max_rawT (hh : A.handled = none) (hl : s.heap.IsTuple l its.toArray) (hi : IntsAre its ns) (hne : 0 < ns.length)
    (h : ∀ h' tk M t', (∀ b o, s.heap.get? b = some o → h'.get? b = some o) → M ∈ ns → (∀ a, a ∈ ns → a ≤ M) → Q (.int M t') { s with heap := h', toks := tk }) : wpAny (model prog w) A (call (.builtin "max") [.ref l]) Q E s := by
  obtain ⟨xs, e⟩ := hi.allInts.items
  have hn : numsOf (intItems xs).toList = ns := by rw [← e]; exact hi.numsOf
  rw [nums_intItems] at hn
  subst hn
  rw [e] at hl
  have hsz : 0 < xs.size := by simpa using hne
  refine call_max_walk (iter_tup hl fun s₂ e st hfp hlI => ?_)
  subst e
  refine ⟨_, _, _, _, _, _, _, rfl, Walks.tuple (A := A.in1) hh _ l hlI (intItems xs), st, hfp, by simpa [intItems] using hsz, CmpOf.ints_gt (numAt xs) (fun _ _ => intItems_at), fun v h' tk hP hk => ?_⟩
  have hv : (intItems xs)[argBest (fun i j => decide (numAt xs i > numAt xs j)) (xs.size - 1)]? = some v := by simpa [intItems] using hP
  obtain ⟨t, rfl⟩ := intItems_at hv
  obtain ⟨h1, h2⟩ := argBest_gt (numAt xs) (xs.size - 1)
  refine h h' tk _ t (old_keptT hk) ?_ fun a ha => ?_
  · rw [numAt_eq]; exact PySem.getD_mem (by rw [List.length_map, Array.length_toList]; omega)
  · obtain ⟨j, hj, rfl⟩ := mem_getD ha
    rw [List.length_map, Array.length_toList] at hj
    rw [← numAt_eq]; exact h2 j (by omega)
theorem sum_rawT (hh : A.handled = none) (hl : s.heap.IsTuple l its.toArray) (hi : IntsAre its ns)
    (h : ∀ h' tk t', (∀ b o, s.heap.get? b = some o → h'.get? b = some o) → Q (.int ns.sum t') { s with heap := h', toks := tk }) : wpAny (model prog w) A (call (.builtin "sum") [.ref l]) Q E s := by
  obtain ⟨xs, e⟩ := hi.allInts.items
  have hn : numsOf (intItems xs).toList = ns := by rw [← e]; exact hi.numsOf
  rw [nums_intItems] at hn
  rw [e] at hl
  refine call_sum_walkG (iter_tup hl fun s₂ e st hfp hlI => ?_)
  subst e
  refine ⟨_, _, _, _, _, _, numAt xs, rfl, Walks.tuple (A := A.in1) hh _ l hlI (intItems xs), st, hfp, (fun _ _ => intItems_at), fun h' tk t' hk => ?_⟩
  have := h h' tk t' (old_keptT hk)
  rw [preSum_eq, List.take_of_length_le (by simp [intItems]), hn]; exact this
end
section
variable {X : Cx}
def rSumT (K : PySem.W.Frag) : List V → Hp → VK → Prop := fun vs H Q => ∃ (a : Addr) (ns : List Int), vs = [V.ref a] ∧ SqT K H a (ns.map V.int) ∧ Q (.int ns.sum) H
def rMaxT (K : PySem.W.Frag) : List V → Hp → VK → Prop := fun vs H Q => ∃ (a : Addr) (ns : List Int), vs = [V.ref a] ∧ SqT K H a (ns.map V.int) ∧ 0 < ns.length ∧ ∀ m, m ∈ ns → (∀ y, y ∈ ns → y ≤ m) → Q (.int m) H
def rMinT (K : PySem.W.Frag) : List V → Hp → VK → Prop := fun vs H Q => ∃ (a : Addr) (ns : List Int), vs = [V.ref a] ∧ SqT K H a (ns.map V.int) ∧ 0 < ns.length ∧ ∀ m, m ∈ ns → (∀ y, y ∈ ns → m ≤ y) → Q (.int m) H
theorem cr_sumT (hc : X.calm = true) : CallR X (.builtin "sum") (rSumT X.K) := by
  intro pins s σ H vs us Q I r h
  obtain ⟨a, ns, rfl, hs, q⟩ := h
  obtain ⟨its, rv, hl, _⟩ := I.tuple hs
  rw [Vals.ref1 r]
  exact sum_rawT (I.ok.hd hc) (show s.heap.IsTuple a its.toArray from hl) rv.ints fun h' tk t' hk => ⟨.int _, H, I.kept hk, ⟨_, rfl⟩, q⟩
theorem cr_maxT (hc : X.calm = true) : CallR X (.builtin "max") (rMaxT X.K) := by
  intro pins s σ H vs us Q I r h
  obtain ⟨a, ns, rfl, hs, hne, q⟩ := h
  obtain ⟨its, rv, hl, _⟩ := I.tuple hs
  rw [Vals.ref1 r]
  exact max_rawT (I.ok.hd hc) (show s.heap.IsTuple a its.toArray from hl) rv.ints hne fun h' tk m t' hk h1 h2 => ⟨.int _, H, I.kept hk, ⟨_, rfl⟩, q m h1 h2⟩
theorem cr_minT (hc : X.calm = true) : CallR X (.builtin "min") (rMinT X.K) := by
  intro pins s σ H vs us Q I r h
  obtain ⟨a, ns, rfl, hs, hne, q⟩ := h
  obtain ⟨its, rv, hl, _⟩ := I.tuple hs
  rw [Vals.ref1 r]
  exact min_rawT (I.ok.hd hc) (show s.heap.IsTuple a its.toArray from hl) rv.ints hne fun h' tk m t' hk h1 h2 => ⟨.int _, H, I.kept hk, ⟨_, rfl⟩, q m h1 h2⟩
end
end Pw
end

section
set_option maxRecDepth 100000
set_option maxHeartbeats 1000000
namespace Pw
open PySem L2
/-- a call of a value: the one rule or the other -/
def orC (r r' : List V → Hp → VK → Prop) : List V → Hp → VK → Prop := fun xs H Q => r xs H Q ∨ r' xs H Q
theorem _root_.L2.CallR.orr {X : Cx} {f : Value} {r r' : List V → Hp → VK → Prop} (h : CallR X f r) (h' : CallR X f r') : CallR X f (orC r r') := by
  intro pins s σ H xs us Q I r1 q
  rcases q with q | q
  · exact h pins s σ H xs us Q I r1 q
  · exact h' pins s σ H xs us Q I r1 q
abbrev rLen1 (K : PySem.W.Frag) : List V → Hp → VK → Prop := fun xs H Q => ∃ x n, xs = [x] ∧ LenV K x H n ∧ Q (.int n) H
abbrev rLenDk : List V → Hp → VK → Prop := fun xs H Q => ∃ a kvs, xs = [V.ref a] ∧ H a = some (.dK kvs) ∧ Q (.int kvs.length) H
def rLenA (K : PySem.W.Frag) := orC (rLen1 K) rLenDk
theorem callLen {X : Cx} : CallR X (.builtin "len") (rLenA X.K) := call_len.orr call_lenD
section
variable {K : PySem.W.Frag}
def one1 (x : D → (D → Prop) → Prop) : X1s := fun ds R => match ds with
  | [d] => x d R
  | _ => False
theorem repl_one {H : Hp} {d : D} {vs : List V} (h : RepL K H [d] vs) : ∃ v, vs = [v] ∧ Rep K H d v := by
  obtain ⟨x, ys, e, r, s⟩ := (show ∃ x ys, vs = x :: ys ∧ Rep K H d x ∧ RepL K H [] ys from h)
  cases (show ys = [] from s)
  exact ⟨x, e, r⟩
theorem repl_two {H : Hp} {d d' : D} {vs : List V} (h : RepL K H [d, d'] vs) : ∃ v w, vs = [v, w] ∧ Rep K H d v ∧ Rep K H d' w := by
  obtain ⟨x, ys, e, r, s⟩ := (show ∃ x ys, vs = x :: ys ∧ Rep K H d x ∧ RepL K H [d'] ys from h)
  obtain ⟨w, e2, r2⟩ := repl_one s
  subst e2
  exact ⟨x, w, e, r, r2⟩
def xLen : X1s := one1 fun d R => lenD d fun n => R (.int n)
theorem pu_len : PuB K (rLenA K) xLen := fun H0 H ds vs R e ra hx => by
  unfold xLen one1 at hx
  split at hx
  · rename_i d
    obtain ⟨v, rfl, r⟩ := repl_one ra
    cases d with
    | lst xs =>
      obtain ⟨a, ys, rfl, hq, rl⟩ := (show ∃ a ys, v = .ref a ∧ H0 a = some (.lst ys) ∧ RepL K H0 xs ys from r)
      exact ⟨.int xs.length, .int xs.length, hx, fun _ => rfl, fun Q q => .inl ⟨.ref a, xs.length, rfl, .inl ⟨ys, SqL.of (e _ _ hq), rl.length.symm⟩, q⟩⟩
    | tup xs =>
      obtain ⟨a, ys, rfl, hq, rl⟩ := (rep_tup r)
      exact ⟨.int xs.length, .int xs.length, hx, fun _ => rfl, fun Q q => .inl ⟨.ref a, xs.length, rfl, .inr ⟨ys, ex_t e hq, rl.length.symm⟩, q⟩⟩
    | str s =>
      cases (show v = V.str s from r)
      exact ⟨.int s.length, .int s.length, hx.2, fun _ => rfl, fun Q q => .inl ⟨.str s, s.length, rfl, ⟨sz_le hx.1, rfl⟩, q⟩⟩
    | dK ks es =>
      obtain ⟨a, ys, rfl, hq, rl, hl⟩ := (show ∃ a ys, v = .ref a ∧ H0 a = some (.dK (ks.zip ys)) ∧ RepL K H0 es ys ∧ ks.length = ys.length from r)
      have hz : (ks.zip ys).length = ks.length := by rw [List.length_zip, hl, Nat.min_self]
      exact ⟨.int ks.length, .int ks.length, hx, fun _ => rfl, fun Q q => .inr ⟨a, _, rfl, e _ _ hq, by rw [hz]; exact q⟩⟩
    | _ => exact (show False from hx).elim
  · exact hx.elim
/-- tuple(x) -/
abbrev rTupleOf (K : PySem.W.Frag) : List V → Hp → VK → Prop := fun xs H Q => ∃ p ys, xs = [.ref p] ∧ ((SqL K H p ys ∧ ∀ l, H l = none → Q (.ref l) (upd H l (.tup ys))) ∨ (SqT K H p ys ∧ Q (.ref p) H))
def xTupleOf : X1s := one1 fun d R => match d with
  | .lst xs => R (.tup xs)
  | .tup xs => R (.tup xs)
  | _ => False
theorem rb_tuple : RfB K (rTupleOf K) xTupleOf := fun B H0 H al E σ f ds vs ra Q R hx k => by
  unfold xTupleOf one1 at hx
  split at hx
  · rename_i d
    obtain ⟨v, rfl, r⟩ := repl_one ra
    split at hx
    · rename_i xs
      obtain ⟨a, ys, rfl, hq, rl⟩ := (show ∃ a ys, v = .ref a ∧ H0 a = some (.lst ys) ∧ RepL K H0 xs ys from r)
      refine ⟨a, ys, rfl, .inl ⟨SqL.of (f.wd.ex _ _ hq), fun l hl => ?_⟩⟩
      have e := Ex.new (o := .tup ys) (f.wd.ex.free hl)
      exact k _ (.tup xs) _ _ ⟨f.wd.new hl, f.sg.mono e⟩ e ⟨l, ys, rfl, upd_same, rl.mono e⟩ hx
    · rename_i xs
      obtain ⟨a, ys, rfl, hq, rl⟩ := (rep_tup r)
      exact ⟨a, ys, rfl, .inr ⟨ex_t f.wd.ex hq, k _ (.tup xs) _ _ f (Ex.refl _) r hx⟩⟩
    · exact hx.elim
  · exact hx.elim
/-- list(x) of lists and tuples -/
abbrev rListOf (K : PySem.W.Frag) : List V → Hp → VK → Prop := fun xs H Q => ∃ p ys, xs = [.ref p] ∧ (SqL K H p ys ∨ SqT K H p ys) ∧ ∀ l, H l = none → Q (.ref l) (upd H l (.lst ys))
def xListOf : X1s := one1 fun d R => match d with
  | .lst xs => R (.lst xs)
  | .tup xs => R (.lst xs)
  | _ => False
theorem rbf_list : RfBF K (rListOf K) xListOf := fun B H0 H al E σ f ds vs ra Q R hx k => by
  unfold xListOf one1 at hx
  split at hx
  · rename_i d
    obtain ⟨v, rfl, r⟩ := repl_one ra
    split at hx
    · rename_i xs
      obtain ⟨a, ys, rfl, hq, rl⟩ := (show ∃ a ys, v = .ref a ∧ H0 a = some (.lst ys) ∧ RepL K H0 xs ys from r)
      exact ⟨a, ys, rfl, .inl (SqL.of (f.wd.ex _ _ hq)), fun l hl => k [l] (.lst xs) H0 _ ⟨f.wd.raw hl, f.sg⟩ (Ex.refl _) ⟨l, ys, rfl, upd_same, rl⟩ (f.wd.fre hl) hx⟩
    · rename_i xs
      obtain ⟨a, ys, rfl, hq, rl⟩ := (rep_tup r)
      exact ⟨a, ys, rfl, .inr (ex_t f.wd.ex hq), fun l hl => k [l] (.lst xs) H0 _ ⟨f.wd.raw hl, f.sg⟩ (Ex.refl _) ⟨l, ys, rfl, upd_same, rl⟩ (f.wd.fre hl) hx⟩
    · exact hx.elim
  · exact hx.elim
/-- abs(n), int(x) -/
abbrev rAbs : List V → Hp → VK → Prop := fun xs H Q => ∃ i, xs = [.int i] ∧ Q (.int (if i < 0 then -i else i)) H
def xAbs : X1s := one1 fun d R => match d with
  | .int i => R (.int (if i < 0 then -i else i))
  | _ => False
theorem pu_abs : PuB K rAbs xAbs := fun H0 H ds vs R e ra hx => by
  unfold xAbs one1 at hx
  split at hx
  · rename_i d
    obtain ⟨v, rfl, r⟩ := repl_one ra
    split at hx
    · rename_i i
      cases (show v = V.int i from r)
      exact ⟨_, .int (if i < 0 then -i else i), hx, fun _ => rfl, fun Q q => ⟨i, rfl, q⟩⟩
    · exact hx.elim
  · exact hx.elim
abbrev rInt1 : List V → Hp → VK → Prop := fun xs H Q => (∃ i, xs = [.int i] ∧ Q (.int i) H) ∨ ∃ k, xs = [.bl k] ∧ Q (.int (if k then 1 else 0)) H
def xInt1 : X1s := one1 fun d R => match d with
  | .int i => R (.int i)
  | .bl b => R (.int (if b then 1 else 0))
  | _ => False
theorem pu_int : PuB K rInt1 xInt1 := fun H0 H ds vs R e ra hx => by
  unfold xInt1 one1 at hx
  split at hx
  · rename_i d
    obtain ⟨v, rfl, r⟩ := repl_one ra
    split at hx
    · rename_i i
      cases (show v = V.int i from r)
      exact ⟨_, .int i, hx, fun _ => rfl, fun Q q => .inl ⟨i, rfl, q⟩⟩
    · rename_i b
      cases (show v = V.bl b from r)
      exact ⟨_, .int (if b then 1 else 0), hx, fun _ => rfl, fun Q q => .inr ⟨b, rfl, q⟩⟩
    · exact hx.elim
  · exact hx.elim
abbrev rMax2 : List V → Hp → VK → Prop := fun xs H Q => ∃ i j, xs = [.int i, .int j] ∧ Q (.int (if j > i then j else i)) H
abbrev rMin2 : List V → Hp → VK → Prop := fun xs H Q => ∃ i j, xs = [.int i, .int j] ∧ Q (.int (if j < i then j else i)) H
def two2 (g : Int → Int → Int) : X1s := fun ds R => match ds with
  | [.int i, .int j] => R (.int (g i j))
  | _ => False
def xMax2 : X1s := two2 fun i j => if j > i then j else i
def xMin2 : X1s := two2 fun i j => if j < i then j else i
theorem pu_two {g : Int → Int → Int} : PuB K (fun xs H Q => ∃ i j, xs = [.int i, .int j] ∧ Q (.int (g i j)) H) (two2 g) := fun H0 H ds vs R e ra hx => by
  unfold two2 at hx
  split at hx
  · rename_i i j
    obtain ⟨v, w, rfl, r1, r2⟩ := repl_two ra
    cases (show v = V.int i from r1); cases (show w = V.int j from r2)
    exact ⟨_, .int (g i j), hx, fun _ => rfl, fun Q q => ⟨i, j, rfl, q⟩⟩
  · exact hx.elim
theorem pu_max2 : PuB K rMax2 xMax2 := pu_two
theorem pu_min2 : PuB K rMin2 xMin2 := pu_two
/-- lists of ints, of bools -/
def intsOf : List D → Option (List Int)
  | [] => some []
  | .int i :: r => (intsOf r).map (i :: ·)
  | _ :: _ => none
theorem intsOf_map : ∀ ns : List Int, intsOf (ns.map D.int) = some ns
  | [] => rfl
  | n :: ns => by show (intsOf (ns.map D.int)).map (n :: ·) = _; rw [intsOf_map ns]; rfl
theorem intsOf_eq : ∀ {ds : List D} {ns : List Int}, intsOf ds = some ns → ds = ns.map D.int
  | [], ns, h => by cases h; rfl
  | .int i :: r, ns, h => by
    have h : (intsOf r).map (i :: ·) = some ns := h
    cases q : intsOf r with
    | none => rw [q] at h; cases h
    | some ms =>
      rw [q] at h
      cases h
      rw [intsOf_eq q]; rfl
  | .non :: _, _, h => by cases h
  | .bl _ :: _, _, h => by cases h
  | .str _ :: _, _, h => by cases h
  | .tup _ :: _, _, h => by cases h
  | .ftup _ :: _, _, h => by cases h
  | .lst _ :: _, _, h => by cases h
  | .dK _ _ :: _, _, h => by cases h
  | .dT _ _ :: _, _, h => by cases h
  | .rng _ _ :: _, _, h => by cases h
  | .fro _ :: _, _, h => by cases h
  | .lls _ :: _, _, h => by cases h
def boolsOf : List D → Option (List Bool)
  | [] => some []
  | .bl i :: r => (boolsOf r).map (i :: ·)
  | _ :: _ => none
theorem boolsOf_map : ∀ ns : List Bool, boolsOf (ns.map D.bl) = some ns
  | [] => rfl
  | n :: ns => by show (boolsOf (ns.map D.bl)).map (n :: ·) = _; rw [boolsOf_map ns]; rfl
theorem boolsOf_eq : ∀ {ds : List D} {ns : List Bool}, boolsOf ds = some ns → ds = ns.map D.bl
  | [], ns, h => by cases h; rfl
  | .bl i :: r, ns, h => by
    have h : (boolsOf r).map (i :: ·) = some ns := h
    cases q : boolsOf r with
    | none => rw [q] at h; cases h
    | some ms =>
      rw [q] at h
      cases h
      rw [boolsOf_eq q]; rfl
  | .non :: _, _, h => by cases h
  | .int _ :: _, _, h => by cases h
  | .str _ :: _, _, h => by cases h
  | .tup _ :: _, _, h => by cases h
  | .ftup _ :: _, _, h => by cases h
  | .lst _ :: _, _, h => by cases h
  | .dK _ _ :: _, _, h => by cases h
  | .dT _ _ :: _, _, h => by cases h
  | .rng _ _ :: _, _, h => by cases h
  | .fro _ :: _, _, h => by cases h
  | .lls _ :: _, _, h => by cases h
theorem repl_bools {H : Hp} : ∀ (ns : List Bool), RepL K H (ns.map D.bl) (ns.map V.bl)
  | [] => rfl
  | n :: ns => ⟨.bl n, ns.map V.bl, rfl, rfl, repl_bools ns⟩
theorem repl_ints_eq {H : Hp} : ∀ {ns : List Int} {vs : List V}, RepL K H (ns.map D.int) vs → vs = ns.map V.int
  | [], _, h => by cases (show _ = [] from h); rfl
  | n :: ns, vs, h => by
    obtain ⟨x, ys, rfl, r, s⟩ := (show ∃ x ys, vs = x :: ys ∧ Rep K H (.int n) x ∧ RepL K H (ns.map D.int) ys from h)
    cases (show x = V.int n from r)
    rw [repl_ints_eq s]; rfl
theorem repl_bools_eq {H : Hp} : ∀ {ns : List Bool} {vs : List V}, RepL K H (ns.map D.bl) vs → vs = ns.map V.bl
  | [], _, h => by cases (show _ = [] from h); rfl
  | n :: ns, vs, h => by
    obtain ⟨x, ys, rfl, r, s⟩ := (show ∃ x ys, vs = x :: ys ∧ Rep K H (.bl n) x ∧ RepL K H (ns.map D.bl) ys from h)
    cases (show x = V.bl n from r)
    rw [repl_bools_eq s]; rfl
/-- over a list or a tuple of ints -/
def onInts (x : List Int → (D → Prop) → Prop) : X1s := one1 fun d R => match d with
  | .lst xs => (match intsOf xs with | some ns => x ns R | none => False)
  | .tup xs => (match intsOf xs with | some ns => x ns R | none => False)
  | _ => False
theorem onInts_ok {x : List Int → (D → Prop) → Prop} {H0 H : Hp} {ds : List D} {vs : List V} {R : D → Prop} (e : Ex H0 H) (ra : RepL K H0 ds vs) (hx : onInts x ds R) : ∃ a ns, vs = [.ref a] ∧ (SqL K H a (ns.map V.int) ∨ SqT K H a (ns.map V.int)) ∧ x ns R := by
  unfold onInts one1 at hx
  split at hx
  · rename_i d
    obtain ⟨v, rfl, r⟩ := repl_one ra
    split at hx
    · rename_i xs
      obtain ⟨a, ys, rfl, hq, rl⟩ := (show ∃ a ys, v = .ref a ∧ H0 a = some (.lst ys) ∧ RepL K H0 xs ys from r)
      split at hx
      · rename_i ns hn
        rw [intsOf_eq hn] at rl
        rw [repl_ints_eq rl] at hq
        exact ⟨a, ns, rfl, .inl (SqL.of (e _ _ hq)), hx⟩
      · exact hx.elim
    · rename_i xs
      obtain ⟨a, ys, rfl, hq, rl⟩ := (rep_tup r)
      split at hx
      · rename_i ns hn
        rw [intsOf_eq hn] at rl
        rw [repl_ints_eq rl] at hq
        exact ⟨a, ns, rfl, .inr (ex_t e hq), hx⟩
      · exact hx.elim
    · exact hx.elim
  · exact hx.elim
def rSumA (K : PySem.W.Frag) := orC (rSum K) (rSumT K)
def rMinA (K : PySem.W.Frag) := orC (rMin K) (rMinT K)
def rMaxA (K : PySem.W.Frag) := orC (rMax K) (rMaxT K)
theorem callSum {X : Cx} (hc : X.calm = true) : CallR X (.builtin "sum") (rSumA X.K) := (cr_sum hc).orr (cr_sumT hc)
theorem callMin {X : Cx} (hc : X.calm = true) : CallR X (.builtin "min") (rMinA X.K) := (cr_min hc).orr (cr_minT hc)
theorem callMax {X : Cx} (hc : X.calm = true) : CallR X (.builtin "max") (rMaxA X.K) := (cr_max hc).orr (cr_maxT hc)
def xSum : X1s := onInts fun ns R => R (.int ns.sum)
theorem pu_sum : PuB K (rSumA K) xSum := fun H0 H ds vs R e ra hx => by
  obtain ⟨a, ns, rfl, hq, h⟩ := onInts_ok e ra hx
  refine ⟨_, .int ns.sum, h, fun _ => rfl, fun Q q => ?_⟩
  rcases hq with hq | hq
  · exact .inl ⟨a, ns, rfl, hq, q⟩
  · exact .inr ⟨a, ns, rfl, hq, q⟩
def lmin : Int → List Int → Int
  | m, [] => m
  | m, n :: r => lmin (if n < m then n else m) r
theorem lmin_le : ∀ (r : List Int) (m : Int), lmin m r ≤ m ∧ ∀ x ∈ r, lmin m r ≤ x
  | [], m => ⟨Int.le_refl _, fun _ h => by cases h⟩
  | n :: r, m => by
    have h := lmin_le r (if n < m then n else m)
    show lmin (if n < m then n else m) r ≤ m ∧ _
    by_cases q : n < m
    · rw [if_pos q] at h ⊢
      refine ⟨by omega, fun x hx => ?_⟩
      rcases List.mem_cons.mp hx with e | hx
      · subst e
        show lmin (if x < m then x else m) r ≤ x
        rw [if_pos q]; exact h.1
      · show lmin (if n < m then n else m) r ≤ x
        rw [if_pos q]; exact h.2 x hx
    · rw [if_neg q] at h ⊢
      refine ⟨h.1, fun x hx => ?_⟩
      rcases List.mem_cons.mp hx with e | hx
      · subst e
        show lmin (if x < m then x else m) r ≤ x
        rw [if_neg q]; omega
      · show lmin (if n < m then n else m) r ≤ x
        rw [if_neg q]; exact h.2 x hx
theorem lmin_mem : ∀ (r : List Int) (m : Int), lmin m r ∈ m :: r
  | [], m => List.mem_cons_self
  | n :: r, m => by
    have h := lmin_mem r (if n < m then n else m)
    show lmin (if n < m then n else m) r ∈ m :: n :: r
    by_cases q : n < m
    · rw [if_pos q] at h ⊢
      exact List.mem_cons_of_mem _ h
    · rw [if_neg q] at h ⊢
      rcases List.mem_cons.mp h with e | h
      · rw [e]; exact List.mem_cons_self
      · exact List.mem_cons_of_mem _ (List.mem_cons_of_mem _ h)
def xMin : X1s := onInts fun ns R => match ns with
  | [] => False
  | n :: r => R (.int (lmin n r))
theorem pu_min : PuB K (rMinA K) xMin := fun H0 H ds vs R e ra hx => by
  obtain ⟨a, ns, rfl, hq, h⟩ := onInts_ok e ra hx
  split at h
  · exact h.elim
  · rename_i n r
    refine ⟨_, .int (lmin n r), h, fun _ => rfl, fun Q q => ?_⟩
    have hm : ∀ m, m ∈ n :: r → (∀ y, y ∈ n :: r → m ≤ y) → Q (.int m) H := fun m hm hle => by
      have h1 := hle _ (lmin_mem r n)
      have h2 : lmin n r ≤ m := by
        rcases List.mem_cons.mp hm with e | hm
        · subst e; exact (lmin_le r m).1
        · exact (lmin_le r n).2 m hm
      rw [show m = lmin n r by omega]
      exact q
    rcases hq with hq | hq
    · exact .inl ⟨a, n :: r, rfl, hq, Nat.succ_pos _, hm⟩
    · exact .inr ⟨a, n :: r, rfl, hq, Nat.succ_pos _, hm⟩
def lmax : Int → List Int → Int
  | m, [] => m
  | m, n :: r => lmax (if n > m then n else m) r
theorem lmax_le : ∀ (r : List Int) (m : Int), m ≤ lmax m r ∧ ∀ x ∈ r, x ≤ lmax m r
  | [], m => ⟨Int.le_refl _, fun _ h => by cases h⟩
  | n :: r, m => by
    have h := lmax_le r (if n > m then n else m)
    show m ≤ lmax (if n > m then n else m) r ∧ _
    by_cases q : n > m
    · rw [if_pos q] at h ⊢
      refine ⟨by omega, fun x hx => ?_⟩
      rcases List.mem_cons.mp hx with e | hx
      · subst e
        show x ≤ lmax (if x > m then x else m) r
        rw [if_pos q]; exact h.1
      · show x ≤ lmax (if n > m then n else m) r
        rw [if_pos q]; exact h.2 x hx
    · rw [if_neg q] at h ⊢
      refine ⟨h.1, fun x hx => ?_⟩
      rcases List.mem_cons.mp hx with e | hx
      · subst e
        show x ≤ lmax (if x > m then x else m) r
        rw [if_neg q]; omega
      · show x ≤ lmax (if n > m then n else m) r
        rw [if_neg q]; exact h.2 x hx
theorem lmax_mem : ∀ (r : List Int) (m : Int), lmax m r ∈ m :: r
  | [], m => List.mem_cons_self
  | n :: r, m => by
    have h := lmax_mem r (if n > m then n else m)
    show lmax (if n > m then n else m) r ∈ m :: n :: r
    by_cases q : n > m
    · rw [if_pos q] at h ⊢
      exact List.mem_cons_of_mem _ h
    · rw [if_neg q] at h ⊢
      rcases List.mem_cons.mp h with e | h
      · rw [e]; exact List.mem_cons_self
      · exact List.mem_cons_of_mem _ (List.mem_cons_of_mem _ h)
def xMax : X1s := onInts fun ns R => match ns with
  | [] => False
  | n :: r => R (.int (lmax n r))
theorem pu_max : PuB K (rMaxA K) xMax := fun H0 H ds vs R e ra hx => by
  obtain ⟨a, ns, rfl, hq, h⟩ := onInts_ok e ra hx
  split at h
  · exact h.elim
  · rename_i n r
    refine ⟨_, .int (lmax n r), h, fun _ => rfl, fun Q q => ?_⟩
    have hm : ∀ m, m ∈ n :: r → (∀ y, y ∈ n :: r → y ≤ m) → Q (.int m) H := fun m hm hle => by
      have h1 := hle _ (lmax_mem r n)
      have h2 : m ≤ lmax n r := by
        rcases List.mem_cons.mp hm with e | hm
        · subst e; exact (lmax_le r m).1
        · exact (lmax_le r n).2 m hm
      rw [show m = lmax n r by omega]
      exact q
    rcases hq with hq | hq
    · exact .inl ⟨a, n :: r, rfl, hq, Nat.succ_pos _, hm⟩
    · exact .inr ⟨a, n :: r, rfl, hq, Nat.succ_pos _, hm⟩
def onBools (x : List Bool → (D → Prop) → Prop) : X1s := one1 fun d R => match d with
  | .lst xs => (match boolsOf xs with | some ns => x ns R | none => False)
  | _ => False
theorem onBools_ok {x : List Bool → (D → Prop) → Prop} {H0 H : Hp} {ds : List D} {vs : List V} {R : D → Prop} (e : Ex H0 H) (ra : RepL K H0 ds vs) (hx : onBools x ds R) : ∃ a ns, vs = [.ref a] ∧ SqL K H a (ns.map V.bl) ∧ x ns R := by
  unfold onBools one1 at hx
  split at hx
  · rename_i d
    obtain ⟨v, rfl, r⟩ := repl_one ra
    split at hx
    · rename_i xs
      obtain ⟨a, ys, rfl, hq, rl⟩ := (show ∃ a ys, v = .ref a ∧ H0 a = some (.lst ys) ∧ RepL K H0 xs ys from r)
      split at hx
      · rename_i ns hn
        rw [boolsOf_eq hn] at rl
        rw [repl_bools_eq rl] at hq
        exact ⟨a, ns, rfl, SqL.of (e _ _ hq), hx⟩
      · exact hx.elim
    · exact hx.elim
  · exact hx.elim
def xAll : X1s := onBools fun bs R => R (.bl (bs.all id))
theorem pu_all : PuB K (rAll K) xAll := fun H0 H ds vs R e ra hx => by
  obtain ⟨a, ns, rfl, hq, h⟩ := onBools_ok e ra hx
  exact ⟨_, .bl (ns.all id), h, fun _ => rfl, fun Q q => ⟨a, ns, rfl, hq, q⟩⟩
def xAny : X1s := onBools fun bs R => R (.bl (bs.any id))
theorem pu_any : PuB K (rAny K) xAny := fun H0 H ds vs R e ra hx => by
  obtain ⟨a, ns, rfl, hq, h⟩ := onBools_ok e ra hx
  exact ⟨_, .bl (ns.any id), h, fun _ => rfl, fun Q q => ⟨a, ns, rfl, hq, q⟩⟩

/-! ### methods of an own list -/
def onLst (E : List Sl) (i : Nat) (k : Bool → List D → Prop) : Prop := match nth E i with
  | .own io (.lst ds) => k io ds
  | _ => False
theorem onLst_ok {E : List Sl} {i : Nat} {k : Bool → List D → Prop} (h : onLst E i k) : ∃ io ds, nth E i = .own io (.lst ds) ∧ k io ds := by
  unfold onLst at h
  split at h
  · rename_i io ds q
    exact ⟨io, ds, q, h⟩
  · exact h.elim
theorem Fr.ownLst {B : Bs} {H0 H : Hp} {al : Nat → List Addr} {E : List Sl} {σ : St} {i : Nat} {io : Bool} {ds : List D} (f : Fr K B H0 H al E σ) (h : nth E i = .own io (.lst ds)) : ∃ a xs, al i = [a] ∧ σ[i]? = some (some (.ref a)) ∧ H a = some (.lst xs) ∧ RepL K H0 ds xs := by
  obtain ⟨ro, _⟩ := f.wd.own i io _ h
  obtain ⟨a, xs, hl, q, r⟩ := (show ∃ a xs, al i = [a] ∧ H a = some (.lst xs) ∧ RepL K H0 ds xs from ro)
  have hs := f.sg.own i io _ h
  rw [hl] at hs
  exact ⟨a, xs, hl, hs, q, r⟩
theorem Fr.setLst {B : Bs} {H0 H : Hp} {al : Nat → List Addr} {E : List Sl} {σ : St} {i : Nat} {io : Bool} {ds ds' : List D} {xs' : List V} {a : Addr} (f : Fr K B H0 H al E σ) (h : nth E i = .own io (.lst ds)) (hl : al i = [a]) (r : RepL K H0 ds' xs') : Fr K B H0 (upd H a (.lst xs')) al (put E i (.own io (.lst ds'))) σ :=
  ⟨f.wd.mut (d' := .lst ds') h ⟨a, xs', hl, upd_same, r⟩ (fun b o hb he => by rw [upd_ne fun z => hb (by rw [hl, z]; exact List.mem_cons_self)]; exact he) fun b hb => by
    by_cases z : b = a
    · subst z; rw [upd_same] at hb; cases hb
    · rw [upd_ne z] at hb; exact hb, f.sg.mut h⟩
theorem ty_list {H : Hp} {a : Addr} {xs : List V} (h : H a = some (.lst xs)) : tyV K "list" (.ref a) H := .inl ⟨rfl, xs, SqL.of h⟩
def xAppend (i : Nat) (x : XE) : XE := fun E R => onLst E i fun _ _ => x E fun d E1 => onLst E1 i fun io ds => ds.length < 16777216 ∧ R .non (put E1 i (.own io (.lst (ds ++ [d]))))
theorem rf_append {i : Nat} {t : TE} {x : XE} (h : Rf K t x) : Rf K (tBM K "list" rAppend (tVar i) (tCons t tNil)) (xAppend i x) := fun B H0 H al E σ f Q R hx k => by
  obtain ⟨io, ds, h1, hx⟩ := onLst_ok hx
  obtain ⟨p, xs, hp, hv, hH, rl⟩ := f.ownLst h1
  refine ⟨.ref p, hv, ty_list hH, h B H0 H al E σ f _ _ hx fun v d E1 H1 H' f1 e1 r1 q => ?_⟩
  obtain ⟨io1, es, h2, hl, q⟩ := onLst_ok q
  obtain ⟨p', ys, hp', hv', hH', rl'⟩ := f1.ownLst h2
  obtain rfl : p' = p := by rw [hp] at hp'; cases hp'; rfl
  exact ⟨p', ys, v, rfl, rfl, hH', by rw [rl'.length]; exact sz_lt hl, k _ .non _ H1 _ (f1.setLst h2 hp' (rl'.append (.one r1))) e1 rfl q⟩
def xExtend (i : Nat) (x : XE) : XE := fun E R => onLst E i fun _ _ => x E fun d E1 => onLst E1 i fun io ds => match d with
  | .lst es => ds.length + es.length ≤ 16777216 ∧ R .non (put E1 i (.own io (.lst (ds ++ es))))
  | _ => False
theorem rf_extend {i : Nat} {t : TE} {x : XE} (h : Rf K t x) : Rf K (tBM K "list" rExtend (tVar i) (tCons t tNil)) (xExtend i x) := fun B H0 H al E σ f Q R hx k => by
  obtain ⟨io, ds, h1, hx⟩ := onLst_ok hx
  obtain ⟨p, xs, hp, hv, hH, rl⟩ := f.ownLst h1
  refine ⟨.ref p, hv, ty_list hH, h B H0 H al E σ f _ _ hx fun v d E1 H1 H' f1 e1 r1 q => ?_⟩
  obtain ⟨io1, es, h2, q⟩ := onLst_ok q
  obtain ⟨p', ys, hp', hv', hH', rl'⟩ := f1.ownLst h2
  obtain rfl : p' = p := by rw [hp] at hp'; cases hp'; rfl
  cases d with
  | lst zs =>
    obtain ⟨b, ws, rfl, hb, rb⟩ := (show ∃ a ys, v = .ref a ∧ H1 a = some (.lst ys) ∧ RepL K H1 zs ys from r1)
    exact ⟨p', b, ys, ws, rfl, rfl, hH', f1.wd.ex _ _ hb, by rw [rl'.length, rb.length]; exact sz_le q.1, k _ .non _ H1 _ (f1.setLst h2 hp' (rl'.append rb)) e1 rfl q.2⟩
  | _ => exact (show False from q).elim
def xPop (i : Nat) : XE := fun E R => onLst E i fun io ds => match ds[ds.length - 1]? with
  | some d => R d (put E i (.own io (.lst ds.dropLast)))
  | none => False
theorem rf_pop {i : Nat} : Rf K (tBM0 K "list" rPop (tVar i)) (xPop i) := fun B H0 H al E σ f Q R hx k => by
  obtain ⟨io, ds, h1, hx⟩ := onLst_ok hx
  obtain ⟨p, xs, hp, hv, hH, rl⟩ := f.ownLst h1
  cases q : ds[ds.length - 1]? with
  | none => rw [q] at hx; exact hx.elim
  | some d =>
    rw [q] at hx
    obtain ⟨v, hv2, rv⟩ := rl.get q
    refine ⟨.ref p, hv, ty_list hH, p, xs, v, rfl, rfl, hH, by rw [rl.length]; exact hv2, k v d _ H0 _ (f.setLst h1 hp rl.dropLast) (Ex.refl _) rv hx⟩
def xPopAt (i : Nat) (x : XE) : XE := fun E R => onLst E i fun _ _ => x E fun d E1 => onLst E1 i fun io ds => match d with
  | .int j => (match ixN ds.length j with
    | some n => (match ds[n]? with | some e => ds.length ≤ 16777216 ∧ R e (put E1 i (.own io (.lst (ds.eraseIdx n)))) | none => False)
    | none => False)
  | _ => False
theorem rf_popAt {i : Nat} {t : TE} {x : XE} (h : Rf K t x) : Rf K (tBM K "list" rPopAt (tVar i) (tCons t tNil)) (xPopAt i x) := fun B H0 H al E σ f Q R hx k => by
  obtain ⟨io, ds, h1, hx⟩ := onLst_ok hx
  obtain ⟨p, xs, hp, hv, hH, rl⟩ := f.ownLst h1
  refine ⟨.ref p, hv, ty_list hH, h B H0 H al E σ f _ _ hx fun v d E1 H1 H' f1 e1 r1 q => ?_⟩
  obtain ⟨io1, es, h2, q⟩ := onLst_ok q
  obtain ⟨p', ys, hp', hv', hH', rl'⟩ := f1.ownLst h2
  obtain rfl : p' = p := by rw [hp] at hp'; cases hp'; rfl
  cases d with
  | int j =>
    cases (show v = V.int j from r1)
    have q : (match ixN es.length j with
      | some n => (match es[n]? with | some e => es.length ≤ 16777216 ∧ R e (put E1 i (.own io1 (.lst (es.eraseIdx n)))) | none => False)
      | none => False) := q
    cases qn : ixN es.length j with
    | none => rw [qn] at q; exact q.elim
    | some n =>
      simp only [qn] at q
      cases qe : es[n]? with
      | none => rw [qe] at q; exact q.elim
      | some e =>
        simp only [qe] at q
        obtain ⟨z1, z2, z3, z4⟩ := ixN_seq qn
        obtain ⟨w, hw, rw'⟩ := rl'.get qe
        exact ⟨p', ys, j, n, w, rfl, rfl, hH', by omega, by omega, by rw [rl'.length]; exact z1, hw, k w e _ H1 _ (f1.setLst h2 hp' (rl'.eraseIdx n)) e1 rw' q.2⟩
  | _ => exact (show False from q).elim
def xRev (i : Nat) : XE := fun E R => onLst E i fun io ds => R .non (put E i (.own io (.lst ds.reverse)))
theorem rf_rev {i : Nat} : Rf K (tBM0 K "list" rReverse (tVar i)) (xRev i) := fun B H0 H al E σ f Q R hx k => by
  obtain ⟨io, ds, h1, hx⟩ := onLst_ok hx
  obtain ⟨p, xs, hp, hv, hH, rl⟩ := f.ownLst h1
  exact ⟨.ref p, hv, ty_list hH, p, xs, rfl, rfl, hH, k .non .non _ H0 _ (f.setLst h1 hp rl.reverse) (Ex.refl _) rfl hx⟩
/-- own[i] = e -/
def xSetIx (k : Nat) (xi xv : XE) : XS := fun XD E => xv E fun d E1 => onLst E1 k fun _ _ => xi E1 fun i E2 => onLst E2 k fun io ds => match i with
  | .int j => (match ixN ds.length j with
    | some n => XD.nx (put E2 k (.own io (.lst (ds.set n d))))
    | none => False)
  | _ => False
theorem rs_setIx {k : Nat} {ti tv : TE} {xi xv : XE} (hi : Rf K ti xi) (hv : Rf K tv xv) : RfS K (tAsg tv (gSub (tVar k) ti rSetL)) (xSetIx k xi xv) := fun B H0 H al E σ f Dd XD hx o =>
  hv B H0 H al E σ f _ _ hx fun v d E1 H1 H1' f1 e1 r1 q1 => by
    obtain ⟨io, ds, h1, q1⟩ := onLst_ok q1
    obtain ⟨p, xs, hp, hs, hH, rl⟩ := f1.ownLst h1
    refine ⟨.ref p, hs, hi B H1 H1' al E1 σ f1 _ _ q1 fun u i E2 H2 H2' f2 e2 r2 q2 => ?_⟩
    obtain ⟨io2, es, h2, q2⟩ := onLst_ok q2
    obtain ⟨p', ys, hp', hs', hH', rl'⟩ := f2.ownLst h2
    obtain rfl : p' = p := by rw [hp] at hp'; cases hp'; rfl
    cases i with
    | int j =>
      cases (show u = V.int j from r2)
      have q2 : (match ixN es.length j with
        | some n => XD.nx (put E2 k (.own io2 (.lst (es.set n d))))
        | none => False) := q2
      cases qn : ixN es.length j with
      | none => rw [qn] at q2; exact q2.elim
      | some n =>
        simp only [qn] at q2
        exact ⟨p', ys, j, n, rfl, rfl, hH', by rw [rl'.length]; exact qn, o.nx H2 _ al _ σ (f2.setLst h2 hp' (rl'.set n (r1.mono e2))) (e1.trans e2) q2⟩
    | _ => exact (show False from q2).elim
/-- xs.index(y), flat things: looked at -/
def flatD : D → Bool
  | .non => true
  | .bl _ => true
  | .int _ => true
  | .str _ => true
  | _ => false
def toV : D → V
  | .non => .non
  | .bl b => .bl b
  | .int i => .int i
  | .str s => .str s
  | _ => .non
theorem Rep.flat {H : Hp} : ∀ {d : D} {v : V}, Rep K H d v → flatD d = true → v = toV d ∧ flatV v = true
  | .non, _, h, _ => by cases (show _ = V.non from h); exact ⟨rfl, rfl⟩
  | .bl _, _, h, _ => by cases (show _ = V.bl _ from h); exact ⟨rfl, rfl⟩
  | .int _, _, h, _ => by cases (show _ = V.int _ from h); exact ⟨rfl, rfl⟩
  | .str _, _, h, _ => by cases (show _ = V.str _ from h); exact ⟨rfl, rfl⟩
  | .tup _, _, _, c => by cases (show false = true from c)
  | .ftup _, _, _, c => by cases (show false = true from c)
  | .lst _, _, _, c => by cases (show false = true from c)
  | .dK _ _, _, _, c => by cases (show false = true from c)
  | .dT _ _, _, _, c => by cases (show false = true from c)
  | .rng _ _, _, _, c => by cases (show false = true from c)
  | .fro _, _, _, c => by cases (show false = true from c)
  | .lls _, _, h, _ => h.elim
theorem RepL.flat {H : Hp} : ∀ {ds : List D} {vs : List V}, RepL K H ds vs → ds.all flatD = true → vs = ds.map toV ∧ vs.all flatV = true
  | [], _, h, _ => by cases (show _ = [] from h); exact ⟨rfl, rfl⟩
  | d :: ds, vs, h, a => by
    obtain ⟨x, ys, rfl, r, s⟩ := (show ∃ x ys, vs = x :: ys ∧ Rep K H d x ∧ RepL K H ds ys from h)
    rw [List.all_cons, Bool.and_eq_true] at a
    obtain ⟨e1, e2⟩ := r.flat a.1
    obtain ⟨e3, e4⟩ := RepL.flat s a.2
    exact ⟨by rw [e1, e3]; rfl, by rw [List.all_cons, e2, e4]; rfl⟩
def eqF (a b : D) : Bool := eqV (toV a) (toV b)
/-- the first place -/
def firstAt (y : D) : List D → Nat → Option Nat
  | [], _ => none
  | x :: r, n => if eqF x y = true then some n else firstAt y r (n + 1)
theorem firstAt_ok {y : D} : ∀ {xs : List D} {n j : Nat}, firstAt y xs n = some j → n ≤ j ∧ (∃ z, xs[j - n]? = some z ∧ eqF z y = true) ∧ ∀ m z, m < j - n → xs[m]? = some z → eqF z y = false
  | [], _, _, h => by cases h
  | x :: r, n, j, h => by
    unfold firstAt at h
    by_cases q : eqF x y = true
    · rw [if_pos q] at h
      cases h
      rw [Nat.sub_self]
      exact ⟨Nat.le_refl _, ⟨x, rfl, q⟩, fun m z hm => absurd hm (Nat.not_lt_zero _)⟩
    · rw [if_neg q] at h
      obtain ⟨h1, ⟨z, h2, h3⟩, h4⟩ := firstAt_ok h
      have e : j - n = (j - (n + 1)) + 1 := by omega
      rw [e]
      refine ⟨by omega, ⟨z, by simpa using h2, h3⟩, fun m z hm hz => ?_⟩
      cases m with
      | zero =>
        simp at hz
        subst hz
        cases w : eqF x y with
        | true => exact absurd w q
        | false => rfl
      | succ m => exact h4 m z (by omega) (by simpa using hz)
def idxD (a y : D) (R : D → Prop) : Prop := match a with
  | .lst xs => flatD y = true ∧ xs.all flatD = true ∧ (match firstAt y xs 0 with | some j => R (.int (j : Nat)) | none => False)
  | _ => False
theorem idxD_ok {a y : D} {R : D → Prop} (h : idxD a y R) : ∃ xs j, a = .lst xs ∧ flatD y = true ∧ xs.all flatD = true ∧ firstAt y xs 0 = some j ∧ R (.int (j : Nat)) := by
  unfold idxD at h
  split at h
  · rename_i xs
    obtain ⟨h1, h2, h3⟩ := h
    split at h3
    · rename_i j hj
      exact ⟨xs, j, rfl, h1, h2, hj, h3⟩
    · exact h3.elim
  · exact h.elim
def xIndexP (i : Nat) (x : XE) : XE := fun E R => pk E i (fun d => match d with | .lst _ => True | _ => False) ∧ x E fun y E1 => pk E1 i fun a => idxD a y fun d => R d E1
theorem rf_indexP {i : Nat} {t : TE} {x : XE} (h : Rf K t x) : Rf K (tBM K "list" (rIndex K) (tVar i) (tCons t tNil)) (xIndexP i x) := fun B H0 H al E σ f Q R hx k => by
  obtain ⟨v, d, Hp', hv, rd, e1, e2, hd⟩ := f.peek hx.1
  have tl : tyV K "list" v H := by
    cases d with
    | lst xs =>
      obtain ⟨a, ys, rfl, hq, _⟩ := (show ∃ a ys, v = .ref a ∧ Hp' a = some (.lst ys) ∧ RepL K Hp' xs ys from rd)
      exact ty_list (e2 _ _ hq)
    | _ => exact hd.elim
  refine ⟨v, hv, tl, h B H0 H al E σ f _ _ hx.2 fun w y E1 H1 H1' f1 e3 ry q => ?_⟩
  obtain ⟨v', d', Hp'', hv', rd', e4, e5, hd'⟩ := f1.peek q
  rw [hv] at hv'; cases hv'
  obtain ⟨xs, j, rfl, h1, h2, h3, h4⟩ := idxD_ok hd'
  obtain ⟨a, ys, rfl, hq, rl⟩ := (show ∃ a ys, v = .ref a ∧ Hp'' a = some (.lst ys) ∧ RepL K Hp'' xs ys from rd')
  obtain ⟨ew, fw⟩ := ry.flat h1
  obtain ⟨ey, fy⟩ := rl.flat h2
  obtain ⟨_, ⟨z, hz, hzy⟩, hno⟩ := firstAt_ok h3
  refine ⟨a, ys, w, j, toV z, rfl, rfl, SqL.of (e5 _ _ hq), fw, fy, ?_, ?_, fun m z' hm hz' => ?_, k _ (.int (j : Nat)) E1 H1 H1' f1 e3 rfl h4⟩
  · rw [ey, List.getElem?_map, show xs[j]? = some z by simpa using hz]; rfl
  · rw [ew]; exact hzy
  · rw [ey, List.getElem?_map] at hz'
    cases qm : xs[m]? with
    | none => rw [qm] at hz'; cases hz'
    | some u =>
      rw [qm] at hz'
      cases hz'
      rw [ew]
      exact hno m u (by simpa using hm) qm
/-! ### x in xs, flat things -/
def xInC (neg : Bool) : X2 := fun a b R => match b with
  | .lst xs => flatD a = true ∧ xs.all flatD = true ∧ R (.bl (neg ^^ xs.any fun y => eqF y a))
  | .tup xs => flatD a = true ∧ xs.all flatD = true ∧ R (.bl (neg ^^ xs.any fun y => eqF y a))
  | _ => False
theorem inV_map {a : D} {xs : List D} : inV (toV a) (xs.map toV) = xs.any fun y => eqF y a := by
  unfold inV
  rw [List.any_map]
  rfl
theorem pu_in {neg : Bool} : Pu2 K (rIn K neg) (xInC neg) := fun H0 H a b v w R e ra rb hx => by
  have fin : ∀ {c : Bool}, R (.bl (neg ^^ c)) → R (.bl (if neg then !c else c)) := fun {c} h => by cases neg <;> cases c <;> exact h
  cases b with
  | lst xs =>
    obtain ⟨h1, h2, h3⟩ := hx
    obtain ⟨p, ys, rfl, hp, r⟩ := (show ∃ a ys, w = .ref a ∧ H0 a = some (.lst ys) ∧ RepL K H0 xs ys from rb)
    obtain ⟨ea, fa⟩ := ra.flat h1
    obtain ⟨ey, fy⟩ := r.flat h2
    refine ⟨_, .bl _, fin h3, fun _ => rfl, fun Q q => ⟨p, ys, rfl, .inl (SqL.of (e _ _ hp)), fa, fy, ?_⟩⟩
    rw [ea, ey, inV_map]
    exact q
  | tup xs =>
    obtain ⟨h1, h2, h3⟩ := hx
    obtain ⟨p, ys, rfl, hp, r⟩ := (rep_tup rb)
    obtain ⟨ea, fa⟩ := ra.flat h1
    obtain ⟨ey, fy⟩ := r.flat h2
    refine ⟨_, .bl _, fin h3, fun _ => rfl, fun Q q => ⟨p, ys, rfl, .inr (ex_t e hp), fa, fy, ?_⟩⟩
    rw [ea, ey, inV_map]
    exact q
  | _ => exact (show False from hx).elim
end
end Pw
end

section
set_option maxRecDepth 100000
set_option maxHeartbeats 2000000
namespace Pw
open PySem PySem.Spec PyProof.Rows L2
/-! ### enumerate(tuple) -/
theorem meets_enumerate_new1 {v : Value} {o : Obj} {Hh : Heap → Prop} (B : Begins v o Hh) :
    Meets (Builtin.«enumerate.__new__» ⟨[.type "enumerate", v], []⟩) (fun _ R s => Hh s.heap ∧
      R (.ok (.ret (.ref (s.heap.push o).objs.size))) { s with heap := (s.heap.push o).push { cls := .type "enumerate", data := .fields #[.none, .bool false, .ref s.heap.objs.size, rawInt 0, .none, .none] } }) :=
  .of_wp fun prog w A R s h => by
    obtain ⟨hp, g, d, tk, os⟩ := s; obtain ⟨h1, h⟩ := h
    have hsub := sub_enumerate
    have q1 : ∀ {A' : Around} {E : Value → Shared → Prop} {Q : Value → Shared → Prop}, Q (.ref hp.objs.size) ⟨hp.push o, g, d, tk, os⟩ → wpAny (model prog w) A' (pyIter v) Q E ⟨hp, g, d, tk, os⟩ :=
      fun q => B.iter prog w _ _ ⟨hp, g, d, tk, os⟩ _ h1 q
    wp_walk using q1
    refine wpAny_stack_any fun st => wpAny_pure ?_
    split
    · rename_i c _ _ _ _ _
      cases (c == Value.type "enumerate")
      · wp_walk using q1
        exact ⟨_, rfl, h⟩
      · wp_walk using q1
        exact ⟨_, rfl, h⟩
    · wp_walk using q1
      exact ⟨_, rfl, h⟩
theorem call_enumerate_tup {prog : Program} {w : World} {A : Around} {E : Value → Shared → Prop} {s : Shared} {l : Addr} {items : Array Value} {Q : Value → Shared → Prop} (hL : s.heap.IsTuple l items)
    (h : ∀ h', IsEnum h' (s.heap.objs.size + 1) s.heap.objs.size 0 .none → h'.IsTupleIter s.heap.objs.size l 0 → h'.objs.size = s.heap.objs.size + 2 →
      (∀ b o, s.heap.get? b = some o → h'.get? b = some o) → Q (.ref (s.heap.objs.size + 1)) { s with heap := h' }) :
    wpAny (model prog w) A (call (.type "enumerate") [.ref l]) Q E s := by
  refine callType_new F.called_enumerate (by decide) (F.typeCall_enumerate_1 _) (F.newCall_enumerate_1 _) (fun obj => F.args_object_init_2 obj _) F.entry_enumerate_new
    (meets_enumerate_new1 (begins_tuple l items)) ⟨hL, ?_⟩
  have hz : (s.heap.push { cls := .type "tuple_iterator", data := .fields #[.ref l, .int 0 0] }).objs.size = s.heap.objs.size + 1 := Heap.size_push ..
  show _ ∧ _
  rw [hz]
  have he : IsEnum ((s.heap.push { cls := .type "tuple_iterator", data := .fields #[.ref l, .int 0 0] }).push
      { cls := .type "enumerate", data := .fields #[.none, .bool false, .ref s.heap.objs.size, rawInt 0, .none, .none] }) (s.heap.objs.size + 1) s.heap.objs.size 0 .none := by
    have := Heap.get?_push_size (s.heap.push { cls := .type "tuple_iterator", data := .fields #[.ref l, .int 0 0] })
      (o := { cls := .type "enumerate", data := .fields #[.none, .bool false, .ref s.heap.objs.size, rawInt 0, .none, .none] }) rfl
    rw [hz] at this; exact this
  refine ⟨⟨_, he, rfl⟩, h _ he ⟨_, Heap.get?_push_of_some _ (Heap.get?_push_size _ rfl), rfl, rfl⟩ (by rw [Heap.size_push, hz]) fun b o x => Heap.get?_push_of_some _ (Heap.get?_push_of_some _ x)⟩
def IteT (K : PySem.W.Frag) (a : Addr) : It :=
  ⟨fun i H => ∃ (xs : List V) (x : V), SqT K H a xs ∧ xs[i]? = some x, fun i H v H' => ∃ T x, v = .ref T ∧ H T = none ∧ H' = upd H T (.tup [.int (i : Nat), x]) ∧ ∀ xs, SqT K H a xs → xs[i]? = some x, fun i H => ∃ xs : List V, SqT K H a xs ∧ xs.length ≤ i⟩
theorem turn_enumT {P : Program} {w : World} {K : PySem.W.Frag} {elts : List Expr} {kk : Nat} {tpos : Pos} (a e it : Addr) (items : Array Value) :
    Turn P w K (.Tuple elts kk tpos) (IteT K a) [e, it] e (fun i h => (∃ old, IsEnum h e it ((i : Nat) : Int) old) ∧ h.IsTupleIter it a i ∧ e ≠ it) where
  mem := by simp
  obj := fun i h st b hb => by
    obtain ⟨⟨old, he⟩, ⟨o, ho, hc, hd⟩, _⟩ := st
    have e' : b = e ∨ b = it := by simpa using hb
    rcases e' with z | z
    · rw [z]; exact ⟨_, he, fun v q => nomatch q⟩
    · rw [z]; exact ⟨o, ho, fun v q => by rw [hd] at q; cases q⟩
  keep := fun i h h' st k => let ⟨⟨old, he⟩, hi, hne⟩ := st; ⟨⟨old, k e (by simp) _ he⟩, hi.at fun o q => k it (by simp) o q, hne⟩
  item := by
    intro X hP hw hK hc i pins s σ H E I hf st hg
    subst hP hw hK
    obtain ⟨⟨old, he⟩, hit, hne⟩ := st
    obtain ⟨xs, x, hq, hx⟩ := hg
    obtain ⟨its, rv, p, hz⟩ := I.tuple hq
    obtain ⟨u, hu, ru⟩ := rv.get hx
    have hel : e < s.heap.objs.size := Heap.lt_size he
    have hil : it < s.heap.objs.size := by obtain ⟨_, q, _⟩ := hit; exact Heap.lt_size q
    obtain ⟨op, hop, hpc, np, hpd⟩ := id p
    have hia : a ≠ it := fun z => by
      obtain ⟨_, q, qc, _⟩ := hit
      rw [← z, hop] at q
      cases q
      rw [hpc] at qc
      exact absurd qc (by decide)
    have hea : e ≠ a := fun z => by
      have he' : s.heap.get? e = some _ := he
      rw [z, hop] at he'
      cases he'
      have hpc : Value.type "enumerate" = Value.type "tuple" := hpc
      exact absurd hpc (by decide)
    have D := Draws.tuple (prog := X.prog) (w := X.w) (A := X.A.in1) (show X.A.in1.handled = none from I.ok.hd hc) it a hia its.toArray
    have hlt : i < its.toArray.size := by
      have := (List.getElem?_eq_some_iff.mp hu).1
      simpa using this
    have hef : e ∉ [it, a] := by
      intro z
      rcases List.mem_cons.mp z with z | z
      · exact hne z
      · exact hea (List.mem_singleton.mp z)
    refine wpAny_pyNext_enum_itemD D he ⟨hit, p⟩ hlt hne hef fun y h' tk hy ho hit' hT hsz hk => ?_
    have hyu : y = u := by
      have e1 : its.toArray[i]? = some u := by simpa using hu
      rw [e1] at hy
      exact (Option.some.inj hy).symm
    subst hyu
    refine ⟨_, rfl, wpAny_letOwnedTupleGo_enum (s := { s with heap := h', toks := tk + 1 }) ho fun h'' he' sb => ?_⟩
    have hT2 : h''.get? s.heap.objs.size = some { cls := .type "tuple", data := .seq #[.int i tk, y] } := (sb.2 _ (Nat.ne_of_gt hel)).trans hT
    have new : ObjOk X.prog X.w (upd H s.heap.objs.size (.tup [.int (i : Nat), x])) h'' s.heap.objs.size (.tup [.int (i : Nat), x]) :=
      ⟨by show 2 ≤ sizeLine; decide, [.int i tk, y], .cons ⟨_, rfl⟩ (.cons ru .nil), ⟨_, hT2, rfl, _, rfl⟩⟩
    have I1 : Inv X pins σ (upd H s.heap.objs.size (.tup [.int (i : Nat), x])) { s with heap := h'', toks := tk + 1 } :=
      I.turnedNew (ch := [e, it]) (fun b ob hb q => (sb.2 b (fun z => hb (by simp [z]))).trans (hk b ob (fun z => hb (by simp [z])) (fun z => hb (by simp [z])) q)) hf (Nat.le_refl _) new
    refine ⟨.ref s.heap.objs.size, _, I1, rfl, ⟨_, x, rfl, I.hok.fresh (Nat.le_refl _), rfl, fun ys hy => by rw [I.tuple_inj hy hq]; exact hx⟩, ⟨⟨y, ?_⟩, hit'.1.at fun o q => (sb.2 it (Ne.symm hne)).trans q, hne⟩, fun b hb => ?_⟩
    · have e1 : ((i + 1 : Nat) : Int) = (i : Int) + 1 := by omega
      rw [e1]; exact he'
    · have hb' : b < s.heap.objs.size := by
        have e' : b = e ∨ b = it := by simpa using hb
        rcases e' with z | z
        · rw [z]; exact hel
        · rw [z]; exact hil
      rw [upd_ne (Nat.ne_of_lt hb')]
      exact (hf b hb).1
  done := by
    intro X hP hw hK hc i pins s σ H E I hf st hg
    subst hP hw hK
    obtain ⟨⟨old, he⟩, hit, hne⟩ := st
    obtain ⟨xs, hq, hx⟩ := hg
    obtain ⟨its, rv, p, hz⟩ := I.tuple hq
    obtain ⟨f0, f1, f2, f3, f4, f5⟩ := hf it (by simp)
    have hl := rv.length
    obtain ⟨op, hop, hpc, np, hpd⟩ := id p
    have hia : a ≠ it := fun z => by
      obtain ⟨_, q, qc, _⟩ := hit
      rw [← z, hop] at q
      cases q
      rw [hpc] at qc
      exact absurd qc (by decide)
    have hi : its.toArray[i]? = none := by
      rw [Array.getElem?_eq_none_iff, List.size_toArray]; omega
    have hT : s.TypeIs (.ref e) "enumerate" := ⟨_, he, rfl⟩
    unfold pyNext
    refine wpAny_bind (wpAny_attempt (wpAny_callSpecial?_slot (name := Str.ofString "__next__") hT F.slot_enumerate_next
      (wpAny_call_entry F.slot_enumerate_next hT F.entry_enumerate_next ?_ (F.args_enumerate_next_1 _))))
    show wpAny _ _ (field (.ref e) 2 >>= _) _ _ _
    refine wpAny_bind (wpAny_field he rfl (x := .ref it) rfl ?_)
    refine wpAny_bind (wpAny_nextOf_tuple_end (I.ok.hd hc) hit p hi fun h' x he' hx' => ?_)
    obtain ⟨o, ho, hc'⟩ := hx'
    refine wpAny_bind (wpAny_isInstance (T := "StopIteration") (b := true) ⟨o, ho, hc'⟩ isSubtype_stop ?_)
    exact wpAny_pure ⟨rfl, I.turned (t' := s.toks) (fun b o hb q => he' b o hb q) f0 f1 f3 f4 f5⟩
  self := fun A i s Q E st h => let ⟨⟨_, he⟩, _⟩ := st; wpAny_pyIter_enum he h
/-- enumerate of a list or a tuple -/
def iEnumA (K : PySem.W.Frag) (ta : TA) : TI := fun σ H R => ta σ H fun vs H1 => ∃ a xs, vs = [.ref a] ∧ ((SqL K H1 a xs ∧ R (Ite K a) H1) ∨ (SqT K H1 a xs ∧ R (IteT K a) H1))
theorem pi_enumA {X : Cx} {e : Expr} {ta : TA} {p pos tpos : Pos} {elts : List Expr} {kk : Nat} (hg : Gl X "enumerate") (hm : X.mg "enumerate" = none) (ha : PA X [e] ta) (hs : starEach [e] X.env = [(false, eval e X.env)] := by rfl) :
    PI X (.Tuple elts kk tpos) (.Call (.Name "enumerate" p) [e] [] pos) (iEnumA X.K ta) := by
  refine ⟨fun pins s σ H R I h => ?_⟩
  refine Call_ (ld_blt I hg hm boot_enumerate (PyProof.Rows.callWith_type1 (thn (ha.run pos pins s σ H _ I h) fun us s1 ⟨vs, H1, I1, r1, q1⟩ => ?_) hs rfl))
  obtain ⟨a, xs, ex, q1⟩ := q1
  subst ex
  cases r1 with
  | cons r rr =>
    cases rr
    cases r
    rcases q1 with ⟨hq, q⟩ | ⟨hq, q⟩
    · obtain ⟨its, rv, p', hz⟩ := I1.list hq
      refine call_enumerate_list p'.isList fun h' he hit hsz hk => wpAny_pyIter_enum he ?_
      have I2 : Inv X pins σ H1 { s1 with heap := h' } := I1.kept (t' := s1.toks) hk
      refine ⟨s1.heap.objs.size + 1, [s1.heap.objs.size + 1, s1.heap.objs.size], _, _, H1, rfl, I2, turn_enum a (s1.heap.objs.size + 1) s1.heap.objs.size, ⟨⟨.none, he⟩, hit, Nat.succ_ne_self _⟩, fun b hb => ?_, q⟩
      have e' : b = s1.heap.objs.size + 1 ∨ b = s1.heap.objs.size := by simpa using hb
      have hle : s1.heap.objs.size ≤ b := by
        rcases e' with z | z
        · rw [z]; exact Nat.le_add_right _ _
        · rw [z]; exact Nat.le_refl _
      exact I1.fpOk hle (I1.hok.fresh hle)
    · obtain ⟨its, rv, p', hz⟩ := I1.tuple hq
      refine call_enumerate_tup (show s1.heap.IsTuple a its.toArray from p') fun h' he hit hsz hk => wpAny_pyIter_enum he ?_
      have I2 : Inv X pins σ H1 { s1 with heap := h' } := I1.kept (t' := s1.toks) hk
      refine ⟨s1.heap.objs.size + 1, [s1.heap.objs.size + 1, s1.heap.objs.size], _, _, H1, rfl, I2, turn_enumT a (s1.heap.objs.size + 1) s1.heap.objs.size its.toArray, ⟨⟨.none, he⟩, hit, Nat.succ_ne_self _⟩, fun b hb => ?_, q⟩
      have e' : b = s1.heap.objs.size + 1 ∨ b = s1.heap.objs.size := by simpa using hb
      have hle : s1.heap.objs.size ≤ b := by
        rcases e' with z | z
        · rw [z]; exact Nat.le_add_right _ _
        · rw [z]; exact Nat.le_refl _
      exact I1.fpOk hle (I1.hok.fresh hle)

/-! ### ranges as values -/
theorem cr_range1 {X : Cx} : CallR X (.type "range") (fun vs H Q => ∃ i, vs = [V.int i] ∧ ∀ p, H p = none → Q (.ref p) (upd H p (.rng 0 i))) := by
  intro pins s σ H vs us Q I r h
  obtain ⟨i, rfl, q⟩ := h
  obtain ⟨u1, rfl, ri⟩ := vals1 r
  obtain ⟨t, rfl⟩ := ri
  refine call_range_1 ⟨.ref s.heap.objs.size, upd H s.heap.objs.size (.rng 0 i), I.laid (t' := s.toks + 1 + 1) (fun b o e => Heap.get?_push_of_some _ e) (Nat.le_refl _) ?_, rfl, q _ (I.hok.fresh (Nat.le_refl _))⟩
  exact ⟨s.toks, t, s.toks + 1, Heap.get?_push_size _ rfl⟩
def iRngV (te : TE) : TI := fun σ H R => te σ H fun x H1 => ∃ a lo hi, x = .ref a ∧ H1 a = some (.rng lo hi) ∧ (-(2 ^ 62) ≤ lo ∧ lo < 2 ^ 62 ∧ -(2 ^ 62) ≤ hi ∧ hi < 2 ^ 62) ∧ R (Itr lo (hi - lo).toNat) H1
theorem pi_rngV {X : Cx} {tg e : Expr} {te : TE} (he : PE X e te) : PI X tg e (iRngV te) := by
  refine ⟨fun pins s σ H R I h => ?_⟩
  refine thn (he.run pins s σ H _ I h) fun v s1 ⟨x, H1, I1, r1, q1⟩ => ?_
  obtain ⟨a, lo, hi, ex, ha, ⟨b1, b2, b3, b4⟩, q⟩ := q1
  subst ex
  cases r1
  obtain ⟨t1, t2, t3, ho⟩ := I1.hok a _ ha
  refine wpAny_pyIter_range (a := lo) (b := hi) (c := 1) (t := t1) (u := t2) (v := t3) ho (small_one b1 b2 b3 b4) ?_
  refine pi_one (tk := s1.toks) I1 _ (turn_range _ lo (hi - lo).toNat) ?_ q
  have e1 : lo + ((0 : Nat) : Int) * 1 = lo := by simp
  have e2 : (((hi - lo).toNat : Nat) : Int) - ((0 : Nat) : Int) = Builtin.Range.rangeSize lo hi 1 := by rw [rangeSize_one]; split <;> omega
  show IsRangeIter _ _ (lo + ((0 : Nat) : Int) * 1) ((((hi - lo).toNat : Nat) : Int) - ((0 : Nat) : Int)) 1
  rw [e1, e2]
  exact Heap.get?_push_size _ rfl
section
variable {K : PySem.W.Frag}
abbrev rRange1 : List V → Hp → VK → Prop := fun vs H Q => ∃ i, vs = [V.int i] ∧ ∀ p, H p = none → Q (.ref p) (upd H p (.rng 0 i))
def xRange1 : X1s := one1 fun d R => match d with
  | .int i => R (.rng 0 i)
  | _ => False
theorem rb_range1 : RfB K rRange1 xRange1 := fun B H0 H al E σ f ds vs ra Q R hx k => by
  unfold xRange1 one1 at hx
  split at hx
  · rename_i d
    obtain ⟨v, rfl, r⟩ := repl_one ra
    cases d with
    | int i =>
      cases (show v = V.int i from r)
      refine ⟨i, rfl, fun l hl => ?_⟩
      have e := Ex.new (o := .rng 0 i) (f.wd.ex.free hl)
      exact k _ (.rng 0 i) _ _ ⟨f.wd.new hl, f.sg.mono e⟩ e ⟨l, rfl, upd_same⟩ hx
    | _ => exact (show False from hx).elim
  · exact hx.elim
def xiRV (x : XE) : XI := fun E R => x E fun d E1 => match d with
  | .rng lo hi => Sm lo ∧ Sm hi ∧ R (rgD lo (hi - lo).toNat) E1
  | _ => False
theorem ri_rngV {t : TE} {x : XE} (h : Rf K t x) : RfI K (iRngV t) (xiRV x) := fun B H0 H al E σ f Q R hx k =>
  h B H0 H al E σ f _ _ hx fun v d E' H0' H' f' e r q => by
    cases d with
    | rng lo hi =>
      obtain ⟨a, rfl, ha⟩ := (show ∃ a, v = .ref a ∧ H0' a = some (.rng lo hi) from r)
      exact ⟨a, lo, hi, rfl, f'.wd.ex _ _ ha, ⟨q.1.1, q.1.2, q.2.1.1, q.2.1.2⟩, k _ _ E' H0' H' f' e jok_rng q.2.2⟩
    | _ => exact (show False from q).elim
/-! ### enumerate, zip, reversed -/
def enumD : Nat → List D → List D
  | _, [] => []
  | n, d :: r => .tup [.int (n : Nat), d] :: enumD (n + 1) r
theorem enumD_get : ∀ {ds : List D} {n i : Nat} {d : D}, (enumD n ds)[i]? = some d → ∃ e, ds[i]? = some e ∧ d = .tup [.int ((n + i : Nat) : Int), e]
  | [], _, _, _, h => by simp [enumD] at h
  | e :: r, n, 0, d, h => by
    have h : some (D.tup [.int (n : Nat), e]) = some d := h
    cases h
    exact ⟨e, rfl, rfl⟩
  | e :: r, n, i + 1, d, h => by
    obtain ⟨z, h1, h2⟩ := enumD_get (ds := r) (n := n + 1) (i := i) h
    refine ⟨z, h1, ?_⟩
    rw [h2, show n + 1 + i = n + (i + 1) by omega]
theorem enumD_length : ∀ (ds : List D) (n : Nat), (enumD n ds).length = ds.length
  | [], _ => rfl
  | e :: r, n => by show (enumD (n + 1) r).length + 1 = _; rw [enumD_length r (n + 1)]; rfl
theorem newTup {B : Bs} {H0 H : Hp} {al : Nat → List Addr} {E : List Sl} {σ : L2.St} {T : Addr} {vs : List V} {ds : List D} (f : Fr K B H0 H al E σ) (hT : H T = none) (r : RepL K H0 ds vs) :
    ∃ H0'', Fr K B H0'' (upd H T (.tup vs)) al E σ ∧ Ex H0 H0'' ∧ Rep K H0'' (.tup ds) (.ref T) ∧ ∀ b o, H b = some o → (upd H T (.tup vs)) b = some o := by
  have e := Ex.new (o := .tup vs) (f.wd.ex.free hT)
  exact ⟨_, ⟨f.wd.new hT, f.sg.mono e⟩, e, ⟨T, vs, rfl, upd_same, r.mono e⟩, fun b o h => Ex.new hT b o h⟩
theorem jok_enumL {H0 : Hp} {a : Addr} {xs : List V} {ds : List D} (hq : SqL K H0 a xs) (r : RepL K H0 ds xs) : JOk K (Ite K a) H0 (enumD 0 ds) where
  step := fun B H0' H' al' E' σ' i d e f hd => by
    obtain ⟨c, hc, ed⟩ := enumD_get hd
    obtain ⟨v, hv, rv⟩ := r.get hc
    have hq' := ex_l f.wd.ex (ex_l e hq)
    refine ⟨⟨xs, v, hq', hv⟩, fun x H'' hy => ?_⟩
    obtain ⟨T, x', rfl, hT, rfl, h⟩ := hy
    have := h xs hq'
    rw [hv] at this
    cases this
    rw [Nat.zero_add] at ed
    subst ed
    exact newTup f hT (ds := [.int (i : Nat), c]) ⟨.int (i : Nat), [v], rfl, rfl, .one (rv.mono e)⟩
  stop := fun H0' H' e e' => ⟨xs, ex_l e' (ex_l e hq), by rw [r.length, enumD_length]; exact Nat.le_refl _⟩
theorem jok_enumT {H0 : Hp} {a : Addr} {xs : List V} {ds : List D} (hq : SqT K H0 a xs) (r : RepL K H0 ds xs) : JOk K (IteT K a) H0 (enumD 0 ds) where
  step := fun B H0' H' al' E' σ' i d e f hd => by
    obtain ⟨c, hc, ed⟩ := enumD_get hd
    obtain ⟨v, hv, rv⟩ := r.get hc
    have hq' := ex_t f.wd.ex (ex_t e hq)
    refine ⟨⟨xs, v, hq', hv⟩, fun x H'' hy => ?_⟩
    obtain ⟨T, x', rfl, hT, rfl, h⟩ := hy
    have := h xs hq'
    rw [hv] at this
    cases this
    rw [Nat.zero_add] at ed
    subst ed
    exact newTup f hT (ds := [.int (i : Nat), c]) ⟨.int (i : Nat), [v], rfl, rfl, .one (rv.mono e)⟩
  stop := fun H0' H' e e' => ⟨xs, ex_t e' (ex_t e hq), by rw [r.length, enumD_length]; exact Nat.le_refl _⟩
def xiEnum (x : XE) : XI := fun E R => x E fun d E1 => match d with
  | .lst ds => R (enumD 0 ds) E1
  | .tup ds => R (enumD 0 ds) E1
  | _ => False
theorem ri_enum {t : TE} {x : XE} (h : Rf K t x) : RfI K (iEnumA K (tCons t tNil)) (xiEnum x) := fun B H0 H al E σ f Q R hx k =>
  h B H0 H al E σ f _ _ hx fun v d E' H0' H' f' e r q => by
    cases d with
    | lst ds =>
      obtain ⟨a, ws, rfl, hq, rl⟩ := (show ∃ a xs, v = .ref a ∧ H0' a = some (.lst xs) ∧ RepL K H0' ds xs from r)
      exact ⟨a, ws, rfl, .inl ⟨SqL.of (f'.wd.ex _ _ hq), k _ _ E' H0' H' f' e (jok_enumL (SqL.of hq) rl) q⟩⟩
    | tup ds =>
      obtain ⟨a, ws, rfl, hq, rl⟩ := (rep_tup r)
      exact ⟨a, ws, rfl, .inr ⟨ex_t f'.wd.ex hq, k _ _ E' H0' H' f' e (jok_enumT hq rl) q⟩⟩
    | _ => exact (show False from q).elim
def zipD : List D → List D → List D
  | a :: r, b :: s => .tup [a, b] :: zipD r s
  | _, _ => []
theorem zipD_get : ∀ {ds es : List D} {i : Nat} {d : D}, (zipD ds es)[i]? = some d → ∃ a b, ds[i]? = some a ∧ es[i]? = some b ∧ d = .tup [a, b]
  | [], _, _, _, h => by simp [zipD] at h
  | _ :: _, [], _, _, h => by simp [zipD] at h
  | a :: r, b :: s, 0, d, h => by
    have h : some (D.tup [a, b]) = some d := h
    cases h
    exact ⟨a, b, rfl, rfl, rfl⟩
  | a :: r, b :: s, i + 1, d, h => by
    obtain ⟨x, y, h1, h2, h3⟩ := zipD_get (ds := r) (es := s) (i := i) h
    exact ⟨x, y, h1, h2, h3⟩
theorem zipD_length : ∀ (ds es : List D), (zipD ds es).length = min ds.length es.length
  | [], _ => by simp [zipD]
  | _ :: _, [] => by simp [zipD]
  | a :: r, b :: s => by
    show (zipD r s).length + 1 = min (r.length + 1) (s.length + 1)
    rw [zipD_length r s]; omega
theorem jok_zipL {H0 : Hp} {a b : Addr} {xs ys : List V} {ds es : List D} (hq : SqL K H0 a xs) (hq2 : SqL K H0 b ys) (r : RepL K H0 ds xs) (r2 : RepL K H0 es ys) : JOk K (Itz K a b) H0 (zipD ds es) where
  step := fun B H0' H' al' E' σ' i d e f hd => by
    obtain ⟨c, c2, hc, hc2, ed⟩ := zipD_get hd
    obtain ⟨v, hv, rv⟩ := r.get hc
    obtain ⟨v2, hv2, rv2⟩ := r2.get hc2
    have hq' := ex_l f.wd.ex (ex_l e hq)
    have hq2' := ex_l f.wd.ex (ex_l e hq2)
    refine ⟨⟨xs, ys, v, v2, hq', hq2', hv, hv2⟩, fun x H'' hy => ?_⟩
    obtain ⟨T, x', y', rfl, hT, rfl, h, h2⟩ := hy
    have e1 := h xs hq'
    have e2 := h2 ys hq2'
    rw [hv] at e1; rw [hv2] at e2
    cases e1; cases e2
    subst ed
    exact newTup f hT (ds := [c, c2]) ⟨v, [v2], rfl, rv.mono e, .one (rv2.mono e)⟩
  stop := fun H0' H' e e' => ⟨xs, ys, ex_l e' (ex_l e hq), ex_l e' (ex_l e hq2), by rw [r.length, r2.length, zipD_length]; omega⟩
theorem jok_zipT {H0 : Hp} {a b : Addr} {xs ys : List V} {ds es : List D} (hq : SqT K H0 a xs) (hq2 : SqT K H0 b ys) (r : RepL K H0 ds xs) (r2 : RepL K H0 es ys) : JOk K (RZ.ItzT K a b) H0 (zipD ds es) where
  step := fun B H0' H' al' E' σ' i d e f hd => by
    obtain ⟨c, c2, hc, hc2, ed⟩ := zipD_get hd
    obtain ⟨v, hv, rv⟩ := r.get hc
    obtain ⟨v2, hv2, rv2⟩ := r2.get hc2
    have hq' := ex_t f.wd.ex (ex_t e hq)
    have hq2' := ex_t f.wd.ex (ex_t e hq2)
    refine ⟨⟨xs, ys, v, v2, hq', hq2', hv, hv2⟩, fun x H'' hy => ?_⟩
    obtain ⟨T, x', y', rfl, hT, rfl, h, h2⟩ := hy
    have e1 := h xs hq'
    have e2 := h2 ys hq2'
    rw [hv] at e1; rw [hv2] at e2
    cases e1; cases e2
    subst ed
    exact newTup f hT (ds := [c, c2]) ⟨v, [v2], rfl, rv.mono e, .one (rv2.mono e)⟩
  stop := fun H0' H' e e' => ⟨xs, ys, ex_t e' (ex_t e hq), ex_t e' (ex_t e hq2), by rw [r.length, r2.length, zipD_length]; omega⟩
def xiZip (x y : XE) : XI := fun E R => x E fun a E1 => y E1 fun b E2 => match a, b with
  | .lst ds, .lst es => R (zipD ds es) E2
  | .tup ds, .tup es => R (zipD ds es) E2
  | _, _ => False
theorem ri_zip {t u : TE} {x y : XE} (h : Rf K t x) (h2 : Rf K u y) : RfI K (RZ.iZipA K (tCons t (tCons u tNil))) (xiZip x y) := fun B H0 H al E σ f Q R hx k =>
  h B H0 H al E σ f _ _ hx fun v a E1 H1 H1' f1 e1 r1 q1 => h2 B H1 H1' al E1 σ f1 _ _ q1 fun w b E2 H2 H2' f2 e2 r2 q2 => by
    have r1' := r1.mono e2
    cases a with
    | lst ds =>
      cases b with
      | lst es =>
        obtain ⟨p, xs, rfl, hp, rp⟩ := (show ∃ a xs, v = .ref a ∧ H2 a = some (.lst xs) ∧ RepL K H2 ds xs from r1')
        obtain ⟨q, ys, rfl, hq, rq⟩ := (show ∃ a xs, w = .ref a ∧ H2 a = some (.lst xs) ∧ RepL K H2 es xs from r2)
        exact ⟨p, q, xs, ys, rfl, .inl ⟨SqL.of (f2.wd.ex _ _ hp), SqL.of (f2.wd.ex _ _ hq), k _ _ E2 H2 H2' f2 (e1.trans e2) (jok_zipL (SqL.of hp) (SqL.of hq) rp rq) q2⟩⟩
      | _ => exact (show False from q2).elim
    | tup ds =>
      cases b with
      | tup es =>
        obtain ⟨p, xs, rfl, hp, rp⟩ := (rep_tup r1')
        obtain ⟨q, ys, rfl, hq, rq⟩ := (rep_tup r2)
        exact ⟨p, q, xs, ys, rfl, .inr ⟨ex_t f2.wd.ex hp, ex_t f2.wd.ex hq, k _ _ E2 H2 H2' f2 (e1.trans e2) (jok_zipT hp hq rp rq) q2⟩⟩
      | _ => exact (show False from q2).elim
    | _ => cases b <;> exact (show False from q2).elim
theorem rev_get {α : Type} {l : List α} {i : Nat} {x : α} (h : l.reverse[i]? = some x) : i < l.length ∧ l[l.length - 1 - i]? = some x := by
  have hi : i < l.length := by
    have := (List.getElem?_eq_some_iff.mp h).1
    simpa using this
  refine ⟨hi, ?_⟩
  rw [List.getElem?_reverse hi] at h
  exact h
def xiRev (x : XE) : XI := fun E R => x E fun d E1 => match d with
  | .lst ds => R ds.reverse E1
  | .tup ds => R ds.reverse E1
  | _ => False
theorem ri_rev {t : TE} {x : XE} (h : Rf K t x) : RfI K (RT.iRevA K t) (xiRev x) := fun B H0 H al E σ f Q R hx k =>
  h B H0 H al E σ f _ _ hx fun v d E' H0' H' f' e r q => by
    cases d with
    | lst ds =>
      obtain ⟨a, xs, rfl, hq, rl⟩ := (show ∃ a xs, v = .ref a ∧ H0' a = some (.lst xs) ∧ RepL K H0' ds xs from r)
      have hl := rl.length
      refine ⟨a, xs, rfl, .inl ⟨SqL.of (f'.wd.ex _ _ hq), k _ _ E' H0' H' f' e ⟨fun B H0' H' al' E' σ' i d e f hd => ?_, fun H0' H' e e' => ?_⟩ q⟩⟩
      · obtain ⟨hi, hd⟩ := rev_get hd
        obtain ⟨v, hv, rv⟩ := rl.get hd
        rw [← hl] at hv hi
        have hq' : SqL K H' a xs := SqL.of (f.wd.ex _ _ (e _ _ hq))
        refine ⟨⟨hi, xs, v, hq', hv⟩, fun x H'' hy => ?_⟩
        obtain ⟨rfl, h⟩ := hy
        have := h xs hq'
        rw [hv] at this
        cases this
        exact ⟨H0', f, Ex.refl _, rv.mono e, fun _ _ h => h⟩
      · show xs.length ≤ ds.reverse.length
        rw [hl, List.length_reverse]; exact Nat.le_refl _
    | tup ds =>
      obtain ⟨a, xs, rfl, hq, rl⟩ := (rep_tup r)
      have hl := rl.length
      refine ⟨a, xs, rfl, .inr ⟨ex_t f'.wd.ex hq, k _ _ E' H0' H' f' e ⟨fun B H0' H' al' E' σ' i d e f hd => ?_, fun H0' H' e e' => ?_⟩ q⟩⟩
      · obtain ⟨hi, hd⟩ := rev_get hd
        obtain ⟨v, hv, rv⟩ := rl.get hd
        rw [← hl] at hv hi
        have hq' : SqT K H' a xs := ex_t f.wd.ex (ex_t e hq)
        refine ⟨⟨hi, xs, v, hq', hv⟩, fun x H'' hy => ?_⟩
        obtain ⟨rfl, h⟩ := hy
        have := h xs hq'
        rw [hv] at this
        cases this
        exact ⟨H0', f, Ex.refl _, rv.mono e, fun _ _ h => h⟩
      · show xs.length ≤ ds.reverse.length
        rw [hl, List.length_reverse]; exact Nat.le_refl _
    | _ => exact (show False from q).elim
end
end Pw
end

section
set_option maxRecDepth 100000
set_option maxHeartbeats 2000000
namespace Pw
open PySem PySem.Spec PyProof.Rows L2
/-! ### defs that are called where no repr is under way -/
structure FnG (P : Program) (w : World) (K : PySem.W.Frag) (mg : Str → Option Value) (base : Heap) (k : Nat) (f : Addr) (fd : FuncData) (ps : List Str) (sp : Sp) : Prop where
  len : ∀ vs H Q E, sp vs H Q E → vs.length = ps.length
  run : ∀ (A : Around) (outer : List Env) (s : Shared) (H : Hp) (args : Args) (us : List Value) (vs : List V) (Q : VK) (E : XK), A.guards = some [] → Room k A → Env0 P w K mg base A outer s H → BindsTo s fd args (ps.zip us) → Vals vs us → sp vs H Q E →
    codeAny (model P w) A (.call (.ref f) args) (CR CX0 outer P w H s Q E) s
section
variable {P : Program} {w : World} {K : PySem.W.Frag} {mg : Str → Option Value} {base : Heap} {k : Nat} {f : Addr} {fd : FuncData} {ps : List Str} {sp : Sp}
theorem toG (F : FnOk P w K mg base CX0 k f fd ps sp) : FnG P w K mg base k f fd ps sp := ⟨F.len, fun A outer s H args us vs Q E _ hr e hb r h => F.run A outer s H args us vs Q E hr e hb r h⟩
theorem FnG.imp {sp' : Sp} (F : FnG P w K mg base k f fd ps sp) (h : ∀ vs H Q E, sp' vs H Q E → sp vs H Q E) : FnG P w K mg base k f fd ps sp' :=
  ⟨fun vs H Q E q => F.len vs H Q E (h _ _ _ _ q), fun A outer s H args us vs Q E hg hr he hb hv hs => F.run A outer s H args us vs Q E hg hr he hb hv (h _ _ _ _ hs)⟩
end
theorem pe_callG {X : Cx} {k : Nat} {f : Addr} {fd : FuncData} {ps : List Str} {sp : Sp} {x : Str} {p pos : Pos} {e : Expr} {es : List Expr} {t : TA} (F : FnG X.prog X.w X.K X.mg X.base k f fd ps sp) (hgu : X.A.guards = some []) (hr : Room k X.A) (hg : Gl X x) (hm : X.mg x = some (.ref f))
    (hk : PySem.W.keepIn X.K (.ref f) = true) (hb : L2.Binds X.K fd ps []) (ha : PA X (e :: es) t) (hdb : (x == ("__debug__" : Str)) = false := by decide) (he : starEach (e :: es) X.env = (false, eval e X.env) :: starEach es X.env := by rfl)
    (hpl : (backTo pos (starEach es X.env)).any (·.1) = false := by rfl) : PE X (.Call (.Name x p) (e :: es) [] pos) (tCall sp [] E0 t) := by
  refine ⟨fun pins s σ H Q I h => wpAny_Call_Name_kw (ld_glob I hg hm (PySem.W.callWith_K (h₀ := X.base) I.ok.mod.kin hk (thn (ha.run pos pins s σ H _ I h) fun us s1 ⟨vs, H1, I1, r, q⟩ => ⟨I1.kIn, ?_⟩) he hpl) hdb)⟩
  have q : sp (vs ++ []) H1 Q E0 := q
  rw [List.append_nil] at q
  have hl : us.length = ps.length := by rw [← r.length]; exact F.len _ _ _ _ q
  have hbt := hb s1 us I1.kIn (by rw [List.append_nil]; exact hl)
  rw [List.append_nil] at hbt
  refine wpAny_call (codeAny_mono (F.run X.A X.stack s1 H1 ⟨us, []⟩ us vs Q E0 hgu hr I1.env0 hbt r q) fun z s' hq => ?_)
  match z, hq with
  | .error _, hq => exact (show False from hq).elim
  | .ok (.ret u), hq => exact I1.after hq
  | .ok .next, hq => exact (show False from hq).elim
  | .ok .brk, hq => exact (show False from hq).elim
  | .ok .cont, hq => exact (show False from hq).elim
section
variable {P : Program} {w : World} {K : PySem.W.Frag} {mg : Str → Option Value} {base : Heap}
theorem fnG_of {x qual : Str} {st : Stmt} {f : Addr} {fd : FuncData} {N ps : List Str} {k : Nat} {sp : Sp} (F : Fun K x qual st f fd) (S : FnScope N ps (defScope st)) (len : ∀ vs H Q E, sp vs H Q E → vs.length = ps.length)
    (hbody : ∀ (cdv : Value) (A : Around) (outer : List Env) (s : Shared) (H : Hp) (vs : List V) (Q : VK) (E : XK), A.guards = some [] → Room k (A.deeper (envOfC qual (defScope st) s.heap.objs.size f cdv)) → sp vs H Q E →
      ∃ t, PSs (cxOf CX0 P w K mg base N qual (defScope st) f cdv A outer s H E).nox (defBody st) t ∧ t { nx := fun _ H' => Q .non H', rt := Q } (L2.start N vs) H) : FnG P w K mg base (k + 1) f fd ps sp := by
  obtain ⟨oc, od, kV, doc, pm, an, cdv, ct, osl, rfl, lk, hcd⟩ := F.ex
  refine ⟨len, fun A outer s H args us vs Q E hgu hr e0 hb r hsp => ?_⟩
  have hl := len _ _ _ _ hsp
  have ext : ∀ b o, base.get? b = some o → s.heap.get? b = some o := fun b o e => (e0.bs b o e).1
  have KX : K.In s.heap := e0.mod.kin.keeps ext
  have lim : s.heap.NoLimit := e0.mod.nolimit.keeps ext
  have hkind : ∀ y ∈ ps.zip us, (defScope st).names.lookup y.1 = some .local ∨ ((defScope st).names.lookup y.1 = some .cell ∧ ((cellsFrom (s.heap.objs.size + 1) (defScope st).names []).lookup y.1).isSome = true) := fun y hy =>
    (S.par y.1 (List.of_mem_zip (a := y.1) (b := y.2) hy).1).imp id fun q => ⟨q, PySem.W.cellsFrom_some _ _ _ (.inl q)⟩
  refine codeAny_call_function hr.depth (KX _ _ lk) rfl S.co S.gen rfl (PySem.W.codeRec_of KX hcd) (hb _ _ _ _ (wpAny_newFunctionEnv_cells S.kind hkind fun env he s1 y => ?_))
  subst he
  refine ⟨lim.keeps y.toInCall.keep, codeAny_func ?_⟩
  obtain ⟨t, ht, hq⟩ := hbody cdv A outer s H vs Q E hgu (hr.deeper _) hsp
  have I0 := inv_start (CX := CX0) (qual := qual) (E := E) S hr.hd e0 hl r y
  refine wpAny_mono (ht.nox.run [] s1 (L2.start N vs) H _ I0 hq) (fun fl s' hs => ?_) fun e s' hs => hs
  match fl, hs with
  | .ret u, ⟨v, σ', H', J, rv, q⟩ => exact ⟨v, H', J.os, J.bare, J.base, J.hok, rv, q⟩
  | .next, ⟨σ', H', J, q⟩ => exact ⟨.non, H', J.os, J.bare, J.base, J.hok, rfl, q⟩
  | .brk, ⟨_, _, _, q⟩ => exact (show False from q).elim
  | .cont, ⟨_, _, _, q⟩ => exact (show False from q).elim
end
section
variable {K : PySem.W.Frag}
theorem fn_wordG {P : Program} {w : World} {mg : Str → Option Value} {base : Heap} {x qual : Str} {st : Stmt} {f : Addr} {fd : FuncData} {N ps : List Str} {k : Nat} {t : TS} {xb : XS} (F : Fun K x qual st f fd) (S : FnScope N ps (defScope st))
    (hb : ∀ (cdv : Value) (A : Around) (outer : List Env) (s : Shared) (H : Hp) (E : XK), A.guards = some [] → Room k (A.deeper (envOfC qual (defScope st) s.heap.objs.size f cdv)) → PSs (cxOf CX0 P w K mg base N qual (defScope st) f cdv A outer s H E).nox (defBody st) t)
    (hr : RfS K t xb) : FnG P w K mg base (k + 1) f fd ps (spOf K ps.length (fnX N.length ps.length xb)) :=
  fnG_of F S (fun vs H Q E h => word_in h) fun cdv A outer s H vs Q E hg hroom h => ⟨t, hb cdv A outer s H E hg hroom, word_body hr h⟩
/-- repr of a list or tuple of plain data -/
def rRepr (K : PySem.W.Frag) : List V → Hp → VK → Prop := fun xs H Q => ∃ a d, xs = [.ref a] ∧ Dp K H (.ref a) d ∧ d.showable = true ∧ d.hasDict = false ∧ d.depth ≤ 60 ∧ d.shown.length ≤ sizeLine ∧ Q (.str d.shown) H
theorem cr_repr {X : Cx} (hg : X.A.guards = some []) (hu : X.A.units + 64 < cLine) : CallR X (.builtin "repr") (rRepr X.K) := by
  intro pins s σ H xs us Q I r h
  obtain ⟨a, d, rfl, hd, h1, h2, h3, h4, q⟩ := h
  obtain ⟨u, rfl, ru⟩ := vals1 r
  obtain ⟨as, rd⟩ := Dp.reads I d (.ref a) u hd ru
  cases ru
  refine repr_of_reads' rd h1 (PyData.noDict_hsm h2) hg (by omega) (fun _ _ e => e) (fun h' u tk hk => ?_) h4
  exact ⟨.str d.shown, H, I.kept (t' := tk) hk, ⟨u, rfl⟩, q⟩
def xRepr : X1s := one1 fun d R => match d with
  | .lst xs => (py (.lst xs)).canLay0 = true ∧ (py (.lst xs)).showable = true ∧ (py (.lst xs)).hasDict = false ∧ (py (.lst xs)).depth ≤ 60 ∧ (py (.lst xs)).shown.length ≤ 16777216 ∧ R (.str (py (.lst xs)).shown)
  | _ => False
theorem pu_repr : PuB K (rRepr K) xRepr := fun H0 H ds vs R e ra hx => by
  unfold xRepr one1 at hx
  split at hx
  · rename_i d
    obtain ⟨v, rfl, r⟩ := repl_one ra
    cases d with
    | lst xs =>
      obtain ⟨c0, c1, c2, c3, c4, c5⟩ := hx
      have hd := Rep.dp e (.lst xs) v r c0
      obtain ⟨a, ys, rfl, _, _⟩ := (show ∃ a ys, v = .ref a ∧ H0 a = some (.lst ys) ∧ RepL K H0 xs ys from r)
      exact ⟨_, .str (py (.lst xs)).shown, c5, fun _ => rfl, fun Q q => ⟨a, _, rfl, hd, c1, c2, c3, sz_le c4, q⟩⟩
    | _ => exact (show False from hx).elim
  · exact hx.elim
end
end Pw
end

section
set_option maxRecDepth 100000
set_option maxHeartbeats 2000000
namespace Pw
open PySem PySem.Spec PyProof.Rows L2
/-- the law's call at the heap behind the top, with the script known and nothing else -/
theorem law_callG {P : Program} {w : World} {K : PySem.W.Frag} {mg mb : Str → Option Value} {k : Nat} {fa a : Addr} {fd : FuncData} {s₁ : Shared} {vs : List Value} {ns : List Int}
    (KX : K.In s₁.heap) (hns : s₁.heap.Ns mainGlobals mg) (hb : s₁.heap.Ns builtinsNs mb) (hbb : ∀ x : Str, x ≠ "__name__" → mb x = bootBuiltins x) (hlim : s₁.heap.NoLimit) (hg : s₁.gens = #[])
    (ha : s₁.heap.get? a = some { cls := .type "list", data := .seq vs.toArray }) (hi : IntsAre vs ns) (h63 : ns.length ≤ 63) (hl : ns.length ≤ sizeLine) (hr : Room k callerA)
    (hT : Tb K = []) (F : ∀ base : Heap, K.In base → base.Ns mainGlobals mg → FnG P w K mg base k fa fd ["script"] (spLaw K)) (hbind : ∀ (s : Shared) (u : Value), BindsTo s fd ⟨[u], []⟩ [("script", u)]) :
    codeAny (model P w) callerA (.call (.ref fa) ⟨[.ref a], []⟩) (fun r s' => r = .ok (.ret (.bool true)) ∧ OldK s₁.heap s'.heap ∧ s'.os = s₁.os ∧ AllBare s'.gens) s₁ := by
  have lenV := hi.length
  have rv := vals_ints hi
  have main : ∀ H : Hp, Only H → SqL K H a (ns.map V.int) → HOk P w H s₁.heap → (∀ b u, H b = some u → b = a ∧ K.lookup a = none) →
      codeAny (model P w) callerA (.call (.ref fa) ⟨[.ref a], []⟩) (fun r s' => r = .ok (.ret (.bool true)) ∧ OldK s₁.heap s'.heap ∧ s'.os = s₁.os ∧ AllBare s'.gens) s₁ := by
    intro H hO hS hok hA
    have inB : ∀ {b : Addr} {o : Obj}, s₁.heap.get? b = some o → H b = none → (hidT s₁.heap H).get? b = some o := fun e n => hidT_get e n
    have nsB : ∀ {b : Addr} {m : Str → Option Value}, s₁.heap.Ns b m → (hidT s₁.heap H).Ns b m := fun {b m} ⟨o, es, ep, e, d, r⟩ => by
      refine ⟨o, es, ep, inB e ?_, d, r⟩
      match q : H b with
      | none => rfl
      | some u =>
        have z := (hA b u q).1
        subst z
        rw [ha] at e
        cases e
        exact absurd (show Data.seq vs.toArray _ = Data.dict es ep from d) (by intro z; cases z)
    have kB : K.In (hidT s₁.heap H) := fun b o e => inB (KX b o e) (by
      match q : H b with
      | none => rfl
      | some u =>
        obtain ⟨z, z2⟩ := hA b u q
        rw [z, z2] at e
        cases e)
    obtain ⟨mc, l1, l2⟩ := hlim
    have e0 : Env0 P w K mg (hidT s₁.heap H) callerA [] s₁ H :=
      ⟨rfl, ⟨kB, nsB hns, ⟨mb, nsB hb, hbb⟩, ⟨mc, nsB l1, l2⟩⟩, fun b o e => of_hidT e, Nat.le_of_eq (hidT_size _ _), trivial, fun b hb => absurd (show b ∈ ([] : List Addr) from hb) (by simp), hok, .of_eq hg⟩
    have hrun := (F _ kB (nsB hns)).run callerA [] s₁ H ⟨[.ref a], []⟩ [.ref a] [.ref a] (fun v _ => v = .bl true) (fun _ _ _ => False) rfl hr e0 (hbind s₁ (.ref a)) (.cons rfl .nil) ⟨a, ns, rfl, hS, h63, (by rw [hT]; intro p hp; cases hp), fun _ => rfl⟩
    refine codeAny_mono hrun fun r s' h => ?_
    match r, h with
    | .error _, h => exact (show False from h).elim
    | .ok .next, h => exact (show False from h).elim
    | .ok .brk, h => exact (show False from h).elim
    | .ok .cont, h => exact (show False from h).elim
    | .ok (.ret u), ⟨v, H', os, bare, un, hok', r', q⟩ =>
      have q : v = .bl true := q
      subst q
      obtain rfl : u = Value.bool true := r'
      refine ⟨rfl, OldK.of_keep fun b o e => ?_, os, bare⟩
      rcases hO b with z | ⟨ob, xs, z⟩
      · exact un.keep b o e z (by intro y; exact absurd (show b ∈ ([] : List Addr) from y) (by simp)) (by simp)
      · have e1 := (hok b _ z).1
        have e2 := (hok' b _ (un.frzs b ob _ z)).1
        rw [e] at e1
        cases e1
        exact e2
  match hk : K.lookup a with
  | some o =>
    have e := KX a o hk
    rw [ha] at e
    cases e
    exact main (fun _ => none) (fun _ => .inl rfl) (.inr ⟨_, vs.toArray, _, hk, rfl, rfl, rfl, by rw [List.size_toArray, lenV]; exact hl, by simpa using rv⟩) (fun b u z => absurd z (by intro z; cases z)) fun b u z => absurd z (by intro z; cases z)
  | none =>
    have at1 : ∀ {b : Addr} {u : HO}, (if b = a then some (HO.frz { cls := .type "list", data := .seq vs.toArray } (.lst (ns.map V.int))) else none) = some u → b = a ∧ u = HO.frz { cls := .type "list", data := .seq vs.toArray } (.lst (ns.map V.int)) := fun {b u} z => by
      by_cases hba : b = a
      · rw [if_pos hba] at z; cases z; exact ⟨hba, rfl⟩
      · rw [if_neg hba] at z; cases z
    refine main (fun b => if b = a then some (HO.frz { cls := .type "list", data := .seq vs.toArray } (.lst (ns.map V.int))) else none) (fun b => ?_) (.inl (.inr ⟨_, if_pos rfl⟩)) (fun b u z => ?_) fun b u z => ⟨(at1 z).1, hk⟩
    · by_cases hba : b = a
      · exact .inr ⟨_, _, if_pos hba⟩
      · exact .inl (if_neg hba)
    · obtain ⟨z1, z2⟩ := at1 z
      subst z1 z2
      exact ⟨ha, by rw [List.length_map]; exact hl, vs, _, rv, ha⟩
theorem walk_ofG {l : PySem.W.OpenLaw} {k : Nat} {q : Program} {loose : List Str} {XP : (Str → Option Value) → Heap → Prop} {YP : World → Heap → Prop} {d : DefRec} {K : Params → PySem.W.Frag}
    (hn : l.most = some 63) (hdf : d.params.defaults = []) (hr : Room k callerA) (hY : ∀ (w : World) (h : Heap), YP w h → (K w.params).In h)
    (F : ∀ (w : World) (mg : Str → Option Value) (fa : Addr) (h : Heap), (K w.params).In h → h.Ns mainGlobals mg → mg d.name = some (.ref fa) →
      Tb (K w.params) = [] ∧ ∃ fd : FuncData, (∀ (s : Shared) (u : Value), BindsTo s fd ⟨[u], []⟩ [("script", u)]) ∧ ∀ base : Heap, (K w.params).In base → base.Ns mainGlobals mg → FnG l.prog w (K w.params) mg base k fa fd ["script"] (spLaw (K w.params))) :
    PySem.W.WalkO q loose XP YP l.row.toRowW d [] (fun f vs => PySem.call f vs) := by
  refine Att.attach_call hn hdf fun w s₀ s₁ mg mb fa o pm cd doc a vs ns G Y ho hd hcd hmg hobj hints hlen hg => ?_
  obtain ⟨hT, fd, hb, hF⟩ := F w mg fa _ (hY w _ Y) G.T.g hmg
  exact law_callG (hY w _ Y) G.T.g G.T.b G.T.builtins G.T.nolimit hg hobj hints hlen (Nat.le_trans hlen (by rw [sizeLine_eq]; decide)) hr hT hF hb
theorem law_wordG {P : Program} {w : World} {K : PySem.W.Frag} {mg : Str → Option Value} {base : Heap} {k : Nat} {f : Addr} {fd : FuncData} {x : XF} (h : FnG P w K mg base k f fd ["script"] (spOf K 1 x))
    (hx : ∀ ns : List Int, ns.length ≤ 63 → x [.val (.fro ns)] fun d _ => d = .bl true) : FnG P w K mg base k f fd ["script"] (spLaw K) := by
  refine h.imp fun vs H Q E ⟨a, ns, e, hq, hl, ht, q⟩ => ?_
  subst e
  have n0 : ∀ i, nth [Sl.val (.fro ns)] (i + 1) = .un := fun i => rfl
  refine ⟨cutT H, fun _ => [], [.val (.fro ns)], _, rfl, ⟨⟨cutT_ex, fun i io d h => ?_, fun i j io jo d e b h _ _ _ => ?_, fun b o h _ _ => h, Ex.refl _, fun b o h => .inl h, fun b h => h, fun j a h => ?_, ht, fun b ps => cutT_no⟩, rfl, fun i d h => ?_, fun i io d h => ?_⟩, hx ns hl, ?_⟩
  · match i, h with
    | 0, h => cases h
    | i + 1, h => cases h
  · match i, h with
    | 0, h => cases h
    | i + 1, h => cases h
  · match j, h with
    | 0, h => cases h
    | j + 1, h => cases h
  · match i, h with
    | 0, h => cases h; exact ⟨.ref a, rfl, a, rfl, cutT_l hq⟩
    | i + 1, h => cases h
  · match i, h with
    | 0, h => cases h
    | i + 1, h => cases h
  · intro v d os H0' H' hd _ _ r _ _ _ _ _ _
    subst hd
    have r : v = .bl true := r
    subst r
    exact q H'
end Pw
end

section
set_option maxRecDepth 100000
set_option maxHeartbeats 2000000
namespace Pw
open PySem PySem.Spec PyProof.Rows L2
/-! ### walks of a list, a tuple or a range that a value is -/
def iAny (K : PySem.W.Frag) (tl : TE) : TI := fun σ H R => tl σ H fun x H1 => ∃ a, x = .ref a ∧ (((∃ xs, SqL K H1 a xs) ∧ R (Itl K a) H1) ∨ ((∃ xs, SqT K H1 a xs) ∧ R (Itt K a) H1) ∨
  ∃ lo hi, H1 a = some (.rng lo hi) ∧ (-(2 ^ 62) ≤ lo ∧ lo < 2 ^ 62 ∧ -(2 ^ 62) ≤ hi ∧ hi < 2 ^ 62) ∧ R (Itr lo (hi - lo).toNat) H1)
theorem pi_any {X : Cx} {tg l : Expr} {tl : TE} (hl : PE X l tl) : PI X tg l (iAny X.K tl) := by
  refine ⟨fun pins s σ H R I h => thn (hl.run pins s σ H _ I h) fun v s1 ⟨x, H1, I1, r1, a, e, q⟩ => ?_⟩
  subst e
  cases r1
  rcases q with ⟨⟨xs, hq⟩, q⟩ | ⟨⟨xs, hq⟩, q⟩ | ⟨lo, hi, ha, ⟨b1, b2, b3, b4⟩, q⟩
  · obtain ⟨its, rv, p, hz⟩ := I1.list hq
    exact wpAny_pyIter_list p.isList (pi_one (tk := s1.toks) I1 _ (turn_list a _) ⟨_, Heap.get?_push_size _ rfl, rfl, rfl⟩ q)
  · obtain ⟨its, rv, p, hz⟩ := I1.tuple hq
    exact wpAny_pyIter_tuple (show s1.heap.IsTuple a its.toArray from p) (pi_one (tk := s1.toks) I1 _ (turn_tuple a _) ⟨_, Heap.get?_push_size _ rfl, rfl, rfl⟩ q)
  · obtain ⟨t1, t2, t3, ho⟩ := I1.hok a _ ha
    refine wpAny_pyIter_range (a := lo) (b := hi) (c := 1) (t := t1) (u := t2) (v := t3) ho (small_one b1 b2 b3 b4) (pi_one (tk := s1.toks) I1 _ (turn_range _ lo (hi - lo).toNat) ?_ q)
    have e1 : lo + ((0 : Nat) : Int) * 1 = lo := by simp
    have e2 : (((hi - lo).toNat : Nat) : Int) - ((0 : Nat) : Int) = Builtin.Range.rangeSize lo hi 1 := by rw [rangeSize_one]; split <;> omega
    show IsRangeIter _ _ (lo + ((0 : Nat) : Int) * 1) ((((hi - lo).toNat : Nat) : Int) - ((0 : Nat) : Int)) 1
    rw [e1, e2]
    exact Heap.get?_push_size _ rfl
section
variable {K : PySem.W.Frag}
def xiAny (x : XE) : XI := fun E R => x E fun d E1 => match d with
  | .lst ds => R ds E1
  | .tup ds => R ds E1
  | .ftup ds => R ds E1
  | .rng lo hi => Sm lo ∧ Sm hi ∧ R (rgD lo (hi - lo).toNat) E1
  | _ => False
theorem ri_any {t : TE} {x : XE} (h : Rf K t x) : RfI K (iAny K t) (xiAny x) := fun B H0 H al E σ f Q R hx k =>
  h B H0 H al E σ f _ _ hx fun v d E' H0' H' f' e r q => by
    cases d with
    | lst ds =>
      obtain ⟨a, ws, rfl, hq, rl⟩ := (show ∃ a xs, v = .ref a ∧ H0' a = some (.lst xs) ∧ RepL K H0' ds xs from r)
      exact ⟨a, rfl, .inl ⟨⟨ws, SqL.of (f'.wd.ex _ _ hq)⟩, k _ ds E' H0' H' f' e (jok_list (SqL.of hq) rl) q⟩⟩
    | tup ds =>
      obtain ⟨a, ws, rfl, hq, rl⟩ := (rep_tup r)
      exact ⟨a, rfl, .inr (.inl ⟨⟨ws, ex_t f'.wd.ex hq⟩, k _ ds E' H0' H' f' e (jok_tup hq rl) q⟩)⟩
    | ftup ds =>
      obtain ⟨a, ws, o, rfl, hq, _, rl⟩ := (show ∃ a ws o, v = .ref a ∧ H0' a = some (.frz o (.tup ws)) ∧ o.dict = none ∧ RepL K H0' ds ws from r)
      have hq : SqT K H0' a ws := .inl (.inr ⟨o, hq⟩)
      exact ⟨a, rfl, .inr (.inl ⟨⟨ws, ex_t f'.wd.ex hq⟩, k _ ds E' H0' H' f' e (jok_tup hq rl) q⟩)⟩
    | rng lo hi =>
      obtain ⟨a, rfl, ha⟩ := (show ∃ a, v = .ref a ∧ H0' a = some (.rng lo hi) from r)
      exact ⟨a, rfl, .inr (.inr ⟨lo, hi, f'.wd.ex _ _ ha, ⟨q.1.1, q.1.2, q.2.1.1, q.2.1.2⟩, k _ _ E' H0' H' f' e jok_rng q.2.2⟩)⟩
    | _ => exact (show False from q).elim
end
/-! ### what stands where -/
/-- a def of the text keeps its word -/
structure Gd (P : Program) (w : World) (K : PySem.W.Frag) (mg : Str → Option Value) (base : Heap) (k : Nat) (name : Str) (ps : List Str) (x : XF) : Prop where
  ex : ∃ (f : Addr) (fd : FuncData), mg name = some (.ref f) ∧ PySem.W.keepIn K (.ref f) = true ∧ L2.Binds K fd ps [] ∧ FnOk P w K mg base CX0 k f fd ps (spOf K ps.length x)
structure GdG (P : Program) (w : World) (K : PySem.W.Frag) (mg : Str → Option Value) (base : Heap) (k : Nat) (name : Str) (ps : List Str) (x : XF) : Prop where
  ex : ∃ (f : Addr) (fd : FuncData), mg name = some (.ref f) ∧ PySem.W.keepIn K (.ref f) = true ∧ L2.Binds K fd ps [] ∧ FnG P w K mg base k f fd ps (spOf K ps.length x)
/-- where a def stands -/
structure At (K : PySem.W.Frag) (mg : Str → Option Value) (name : Str) (st : Stmt) (ps : List Str) (f : Addr) (fd : FuncData) : Prop where
  m : mg name = some (.ref f)
  F : Fun K name name st f fd
  b : L2.Binds K fd ps []
theorem Gd.mk' {P : Program} {w : World} {K : PySem.W.Frag} {mg : Str → Option Value} {base : Heap} {k : Nat} {name : Str} {st : Stmt} {ps : List Str} {f : Addr} {fd : FuncData} {x : XF} (a : At K mg name st ps f fd)
    (h : FnOk P w K mg base CX0 k f fd ps (spOf K ps.length x)) : Gd P w K mg base k name ps x := ⟨f, fd, a.m, a.F.kp, a.b, h⟩
theorem GdG.mk' {P : Program} {w : World} {K : PySem.W.Frag} {mg : Str → Option Value} {base : Heap} {k : Nat} {name : Str} {st : Stmt} {ps : List Str} {f : Addr} {fd : FuncData} {x : XF} (a : At K mg name st ps f fd)
    (h : FnG P w K mg base k f fd ps (spOf K ps.length x)) : GdG P w K mg base k name ps x := ⟨f, fd, a.m, a.F.kp, a.b, h⟩
end Pw
end

section
set_option maxRecDepth 100000
set_option maxHeartbeats 2000000
namespace Pw
open PySem PySem.Spec PyProof.Rows L2
section
variable {prog : Program} {w : World} {A : Around} {E : Value → Shared → Prop} {s : Shared}
theorem slice_back {sl : Addr} {t : Tok} {n : Nat} {Q : Int × Int × Nat → Shared → Prop} (hs : s.heap.IsSliceOf sl .none .none (.int (-1) t)) (h : Q ((n : Int) - 1, -1, n) s) :
    wpAny (model prog w) A (Builtin.Slice.sliceApplied (.ref sl) (pure (n : Int))) Q E s := by
  obtain ⟨os, hos, hcs, hds⟩ := id hs
  unfold Builtin.Slice.sliceApplied Builtin.Slice.sliceFields
  refine wpAny_bind (wpAny_bind (wpAny_field hos hds (x := .none) rfl (wpAny_bind (wpAny_field hos hds (x := .none) rfl (wpAny_bind (wpAny_field hos hds (x := .int (-1) t) rfl (wpAny_pure ?_)))))))
  refine wpAny_bind (HT.slicePart_ (.int (-1) t) ?_)
  show wpAny _ _ (if ((-1 : Int) == 0) = true then _ else _) _ _ s
  rw [if_neg (by decide)]
  refine wpAny_bind (HT.slicePart_ .none (wpAny_bind (HT.slicePart_ .none (wpAny_bind (wpAny_pure ?_)))))
  have e1 : Builtin.Slice.sliceAdjust none none (-1) (n : Int) = ((n : Int) - 1, -1) := by
    unfold Builtin.Slice.sliceAdjust
    simp
  have e2 : Builtin.Slice.slicePlaces ((n : Int) - 1) (-1) (-1) = n := by
    unfold Builtin.Slice.slicePlaces
    simp
    omega
  show wpAny _ _ (match Builtin.Slice.sliceAdjust none none (-1) (n : Int) with | (lo, hi) => pure (lo, (-1 : Int), Builtin.Slice.slicePlaces lo hi (-1))) _ _ s
  rw [e1]
  show wpAny _ _ (pure ((n : Int) - 1, (-1 : Int), Builtin.Slice.slicePlaces ((n : Int) - 1) (-1) (-1))) _ _ s
  rw [e2]
  exact wpAny_pure h
theorem pick_back (xs : Array Value) : ((List.range xs.size).filterMap fun (m : Nat) => xs[(((xs.size : Int) - 1) + (m : Int) * (-1)).toNat]?).toArray = xs.toList.reverse.toArray := by
  congr 1
  have e : (List.range xs.size).filterMap (fun (m : Nat) => xs[(((xs.size : Int) - 1) + (m : Int) * (-1)).toNat]?) = (List.range xs.size).filterMap fun m => xs.toList.reverse[m]? := by
    have congr1 : ∀ (l : List Nat) (f g : Nat → Option Value), (∀ m ∈ l, f m = g m) → l.filterMap f = l.filterMap g := by
      intro l f g h
      induction l with
      | nil => rfl
      | cons a r ih =>
        rw [List.filterMap_cons, List.filterMap_cons, h a List.mem_cons_self, ih fun m hm => h m (List.mem_cons_of_mem _ hm)]
    refine congr1 _ _ _ fun m hm => ?_
    have hm : m < xs.size := List.mem_range.mp hm
    rw [List.getElem?_reverse (by simpa using hm), Array.length_toList]
    have : (((xs.size : Int) - 1) + (m : Int) * (-1)).toNat = xs.size - 1 - m := by omega
    rw [this]
    simp
  rw [e]
  have key : ∀ (l : List Value), (List.range l.length).filterMap (fun m => l[m]?) = l := by
    intro l
    induction l with
    | nil => rfl
    | cons a r ih =>
      rw [List.length_cons, List.range_succ_eq_map, List.filterMap_cons, List.filterMap_map]
      show a :: (List.range r.length).filterMap (fun m => (a :: r)[m + 1]?) = a :: r
      rw [show (fun m => (a :: r)[m + 1]?) = fun m => r[m]? from funext fun m => by simp, ih]
  have := key xs.toList.reverse
  rw [List.length_reverse, Array.length_toList] at this
  exact this
theorem getItem_tuple_back {t sl : Addr} {k : Tok} {items : Array Value} {Q : Value → Shared → Prop} (ht : PyProof.Rows.IsTup s.heap t items) (hs : s.heap.IsSliceOf sl .none .none (.int (-1) k))
    (h : Q (.ref s.heap.objs.size) { s with heap := s.heap.push { cls := .type "tuple", data := .seq items.toList.reverse.toArray } }) (hsz : items.size ≤ sizeLine) : wpAny (model prog w) A (getItem (.ref t) (.ref sl)) Q E s := by
  obtain ⟨os, hos, hcs, hds⟩ := id hs
  have hTs : s.TypeIs (.ref sl) "slice" := ⟨os, hos, hcs⟩
  have hso : sizeOk (.seq items.toList.reverse.toArray) := by
    show items.toList.reverse.toArray.size ≤ sizeLine
    rw [List.size_toArray, List.length_reverse, Array.length_toList]
    exact hsz
  unfold getItem
  try with_reducible refine wpAny_holding ?_
  first | refine wpAny_bind (wpAny_pure ?_) | skip
  refine wpAny_bind (wpAny_sequenceKey ht.typeIs (by decide) (wpAny_bind (wpAny_callSpecial?_slot (name := Str.ofString "__getitem__") ht.typeIs PyProof.Rows.slot_tuple_getitem
    (wpAny_call_entry PyProof.Rows.slot_tuple_getitem ht.typeIs PyProof.Rows.entry_tuple_getitem ?_ (PyProof.Rows.args_tuple_getitem _ _)))))
  show wpAny _ _ (Builtin.Tuple.tupleItemsOf (.ref t) >>= _) _ _ s
  refine wpAny_bind (PyProof.Rows.tupleItemsOf_ ht (wpAny_bind (wpAny_typeOf hTs ?_)))
  rw [if_pos (by decide)]
  refine wpAny_bind (slice_back hs ?_)
  have hno : ¬ ((((items.size : Int) - 1) == 0 && (-1 : Int) == 1 && items.size == items.size) = true) := by simp
  show wpAny _ _ (if (((items.size : Int) - 1) == 0 && (-1 : Int) == 1 && items.size == items.size) = true then _ else _) _ _ s
  rw [if_neg hno, pick_back]
  first
    | exact wpAny_bind (m := Builtin.Tuple.tupleExact _) (wpAny_newObj_type (wpAny_pure ⟨_, rfl, wpAny_pure h⟩) hso)
    | exact wpAny_bind (m := Builtin.Tuple.tupleExact _) (wpAny_newObj_type (wpAny_bind (wpAny_pure (wpAny_pure ⟨_, rfl, wpAny_pure h⟩))) hso)
    | exact wpAny_bind (wpAny_bind (m := Builtin.Tuple.tupleExact _) (wpAny_newObj_type (wpAny_pure (wpAny_pure ⟨_, rfl, wpAny_pure h⟩)) hso))
    | exact wpAny_bind (wpAny_bind (m := Builtin.Tuple.tupleExact _) (wpAny_newObj_type (wpAny_pure ⟨_, rfl, wpAny_pure h⟩) hso))
end
/-- x[::-1], x a list or a tuple -/
def tRevA (K : PySem.W.Frag) (te : TE) : TE := fun σ H Q => te σ H fun x H1 => ∃ a xs, x = .ref a ∧ ((SqL K H1 a xs ∧ ∀ p, H1 p = none → Q (.ref p) (upd H1 p (.lst xs.reverse))) ∨ (SqT K H1 a xs ∧ ∀ p, H1 p = none → Q (.ref p) (upd H1 p (.tup xs.reverse))))
theorem pe_revA {X : Cx} {e : Expr} {te : TE} {k : Nat} {p1 p2 p3 pos : Pos} (he : PE X e te) : PE X (.Subscript e (.Slice none none (some (.UnaryOp .USub (.Constant (.int 1) k p1) p2)) p3) pos) (tRevA X.K te) := by
  refine ⟨fun pins s σ H Q I h => ?_⟩
  refine Subscript_ (thn (he.run pins s σ H _ I h) fun v s1 ⟨x, H1, I1, r1, q1⟩ => ?_)
  obtain ⟨a, xs, ex, q⟩ := q1
  subst ex
  cases r1
  have hst : PO X (some (.UnaryOp .USub (.Constant (.int 1) k p1) p2)) (tPart (tUn (rU fun i => .int (-i)) (tC (.int 1)))) := po_some (pe_un un_neg pe_int)
  refine wpAny_Slice ?_
  rw [evalPart_none]
  refine wpAny_pure (wpAny_pure (thn (hst.run pins s1 σ H1 (fun o H4 => o = some (-1) ∧ H4 = H1) I1 ⟨1, rfl, -1, rfl, rfl, rfl⟩) fun vs s4 ⟨o, H4, I4, ps, eo, e4⟩ => ?_))
  subst eo e4
  have I5 : Inv X pins σ H4 { s4 with heap := s4.heap.push { cls := .type "slice", data := .fields #[.none, .none, vs] } } := I4.kept (t' := s4.toks) fun b ob q => Heap.get?_push_of_some _ q
  show wpAny (model X.prog X.w) X.A (subscriptTail e (.Slice none none (some (.UnaryOp .USub (.Constant (.int 1) k p1) p2)) p3) (.ref a) (.ref s4.heap.objs.size)) (EP X pins σ Q) X.xe { s4 with heap := s4.heap.push { cls := .type "slice", data := .fields #[.none, .none, vs] } }
  rcases q with ⟨hx, q⟩ | ⟨hx, q⟩
  · obtain ⟨its, r, ht, hz⟩ := I5.list hx
    have hlen : its.toArray.size ≤ sizeLine := by rw [List.size_toArray, ← r.length]; exact hz
    refine tail_any (ops := [.ref a, .ref s4.heap.objs.size]) ht.isList.typeIs (PySem.slot_list_getitem.lookup) ?_ (by with_unfolding_all rfl)
    refine wpAny_getItem_list_slice ht.isList (Heap.IsSliceOf.new _ .none .none vs) .none .none ps (by decide) ?_ hlen
    rw [PySem.W.krv_pick]
    refine ⟨.ref _, _, I5.laid (t' := s4.toks) (o := .lst xs.reverse) (fun b ob q => Heap.get?_push_of_some _ q) (Nat.le_refl _) ?_, rfl, q _ (I5.hok.fresh (Nat.le_refl _))⟩
    exact ⟨by rw [List.length_reverse]; exact hz, its.reverse, 0, r.reverse, by rw [Heap.get?_push_size _ rfl]⟩
  · obtain ⟨its, r, ht, hz⟩ := I5.tuple hx
    have hlen : its.toArray.size ≤ sizeLine := by rw [List.size_toArray, ← r.length]; exact hz
    cases ps with
    | int i t =>
      refine tail_any (ops := [.ref a, .ref s4.heap.objs.size]) ht.typeIs (PyProof.Rows.slot_tuple_getitem.lookup) ?_ (by with_unfolding_all rfl)
      refine getItem_tuple_back ht (Heap.IsSliceOf.new _ .none .none _) ?_ hlen
      refine ⟨.ref _, _, I5.laid (t' := s4.toks) (o := .tup xs.reverse) (fun b ob q => Heap.get?_push_of_some _ q) (Nat.le_refl _) ?_, rfl, q _ (I5.hok.fresh (Nat.le_refl _))⟩
      exact ⟨by rw [List.length_reverse]; exact hz, its.reverse, r.reverse, _, Heap.get?_push_size _ rfl, rfl, 0, rfl⟩
section
variable {K : PySem.W.Frag}
def xRevE (x : XE) : XE := fun E R => x E fun d E1 => match d with
  | .lst ds => R (.lst ds.reverse) E1
  | .tup ds => R (.tup ds.reverse) E1
  | _ => False
theorem rf_revE {t : TE} {x : XE} (h : Rf K t x) : Rf K (tRevA K t) (xRevE x) := fun B H0 H al E σ f Q R hx k =>
  h B H0 H al E σ f _ _ hx fun v d E' H0' H' f' e r q => by
    cases d with
    | lst ds =>
      obtain ⟨a, ws, rfl, hq, rl⟩ := (show ∃ a xs, v = .ref a ∧ H0' a = some (.lst xs) ∧ RepL K H0' ds xs from r)
      refine ⟨a, ws, rfl, .inl ⟨SqL.of (f'.wd.ex _ _ hq), fun p hp => ?_⟩⟩
      have e2 := Ex.new (o := .lst ws.reverse) (f'.wd.ex.free hp)
      exact k _ (.lst ds.reverse) E' _ _ ⟨f'.wd.new hp, f'.sg.mono e2⟩ (e.trans e2) ⟨p, _, rfl, upd_same, rl.reverse.mono e2⟩ q
    | tup ds =>
      obtain ⟨a, ws, rfl, hq, rl⟩ := (rep_tup r)
      refine ⟨a, ws, rfl, .inr ⟨ex_t f'.wd.ex hq, fun p hp => ?_⟩⟩
      have e2 := Ex.new (o := .tup ws.reverse) (f'.wd.ex.free hp)
      exact k _ (.tup ds.reverse) E' _ _ ⟨f'.wd.new hp, f'.sg.mono e2⟩ (e.trans e2) ⟨p, _, rfl, upd_same, rl.reverse.mono e2⟩ q
    | _ => exact (show False from q).elim
end
end Pw
end

set_option maxRecDepth 100000
set_option maxHeartbeats 2000000
namespace Pw
open PySem L2
/-! ### the words, step by step -/
theorem nth_nil {i : Nat} : nth [] i = .un := rfl
theorem nth_zero {e : Sl} {r : List Sl} : nth (e :: r) 0 = e := rfl
theorem nth_succ {e : Sl} {r : List Sl} {n : Nat} : nth (e :: r) (n + 1) = nth r n := rfl
theorem put_zero {e x : Sl} {r : List Sl} : put (e :: r) 0 x = x :: r := rfl
theorem put_succ {e x : Sl} {r : List Sl} {n : Nat} : put (e :: r) (n + 1) x = e :: put r n x := rfl
theorem shr_lst {ds : List D} : shr (.lst ds) = .lst ds := rfl
theorem shr_dK {ks : List Key} {ds : List D} : shr (.dK ks ds) = .dK ks ds := rfl
theorem shr_dT {ks : List (List Key)} {ds : List D} : shr (.dT ks ds) = .dT ks ds := rfl
theorem shr_lls {dss : List (List D)} : shr (.lls dss) = .lst (dss.map .lst) := rfl
/-- by what a slot is -/
def selS (s : Sl) (v : D → Prop) (o : Bool → D → Prop) : Prop := match s with
  | .val d => v d
  | .own io d => o io d
  | .un => False
theorem selS_val {d : D} {v : D → Prop} {o : Bool → D → Prop} : selS (.val d) v o = v d := rfl
theorem selS_own {io : Bool} {d : D} {v : D → Prop} {o : Bool → D → Prop} : selS (.own io d) v o = o io d := rfl
/-- by a test, each way with its own ends -/
def kS (x : XS) (XD : XEnds) (E : List Sl) : Unit → Prop := fun _ => x XD E
theorem kS_ap {x : XS} {XD : XEnds} {E : List Sl} {u : Unit} : kS x XD E u = x XD E := rfl
def kX (x : XE) (E : List Sl) (R : D → List Sl → Prop) : Unit → Prop := fun _ => x E R
theorem kX_ap {x : XE} {R : D → List Sl → Prop} {E : List Sl} {u : Unit} : kX x E R u = x E R := rfl
def kT (x : XT) (E : List Sl) (R : Bool → List Sl → Prop) : Unit → Prop := fun _ => x E R
theorem kT_ap {x : XT} {R : Bool → List Sl → Prop} {E : List Sl} {u : Unit} : kT x E R u = x E R := rfl
def kRB (b : Bool) (E : List Sl) (R : Bool → List Sl → Prop) : Unit → Prop := fun _ => R b E
theorem kRB_ap {b : Bool} {R : Bool → List Sl → Prop} {E : List Sl} {u : Unit} : kRB b E R u = R b E := rfl
def kRD (d : D) (E : List Sl) (R : D → List Sl → Prop) : Unit → Prop := fun _ => R d E
theorem kRD_ap {d : D} {R : D → List Sl → Prop} {E : List Sl} {u : Unit} : kRD d E R u = R d E := rfl
def kF : Unit → Prop := fun _ => False
theorem kF_ap {u : Unit} : kF u = False := rfl
def selB (b : Bool) (t f : Unit → Prop) : Prop := if b = true then t () else f ()
theorem selB_t {t f : Unit → Prop} : selB true t f = t () := by simp [selB]
theorem selB_f {t f : Unit → Prop} : selB false t f = f () := by simp [selB]
theorem selB_if {b : Bool} {t f : Unit → Prop} (h : (b = true → t ()) ∧ (b = false → f ())) : selB b t f := by
  unfold selB
  cases b
  · exact h.2 rfl
  · exact h.1 rfl
def selBl (d : D) (k : Bool → Prop) : Prop := match d with
  | .bl b => k b
  | _ => False
theorem selBl_bl {b : Bool} {k : Bool → Prop} : selBl (.bl b) k = k b := rfl
def selN (s : Sl) (P : Prop) : Prop := match s with
  | .own true _ => False
  | _ => P
theorem selN_un {P : Prop} : selN .un P = P := rfl
theorem selN_val {P : Prop} {d : D} : selN (.val d) P = P := rfl
theorem selN_own {P : Prop} {d : D} : selN (.own false d) P = P := rfl
theorem noio_sel {E : List Sl} {i : Nat} {P : Prop} : noio E i P = selN (nth E i) P := by
  unfold noio selN
  cases h : nth E i with
  | own io d => cases io <;> rfl
  | _ => rfl
def selI (d : D) (k : Int → Prop) : Prop := match d with
  | .int b => k b
  | _ => False
theorem selI_int {b : Int} {k : Int → Prop} : selI (.int b) k = k b := rfl
def selR (d : D) (k : List D → Prop) (r : Int → Int → Prop) : Prop := match d with
  | .lst ds => k ds
  | .tup ds => k ds
  | .ftup ds => k ds
  | .rng lo hi => r lo hi
  | _ => False
theorem selR_ftup {ds : List D} {k : List D → Prop} {r : Int → Int → Prop} : selR (.ftup ds) k r = k ds := rfl
theorem selR_lst {ds : List D} {k : List D → Prop} {r : Int → Int → Prop} : selR (.lst ds) k r = k ds := rfl
theorem selR_tup {ds : List D} {k : List D → Prop} {r : Int → Int → Prop} : selR (.tup ds) k r = k ds := rfl
theorem selR_rng {lo hi : Int} {k : List D → Prop} {r : Int → Int → Prop} : selR (.rng lo hi) k r = r lo hi := rfl
def selQ (d : D) (k : List D → Prop) : Prop := match d with
  | .lst ds => k ds
  | .tup ds => k ds
  | _ => False
theorem selQ_lst {ds : List D} {k : List D → Prop} : selQ (.lst ds) k = k ds := rfl
theorem selQ_tup {ds : List D} {k : List D → Prop} : selQ (.tup ds) k = k ds := rfl
def revD : D → D
  | .lst ds => .lst ds.reverse
  | .tup ds => .tup ds.reverse
  | d => d
theorem revD_lst {ds : List D} : revD (.lst ds) = .lst ds.reverse := rfl
theorem revD_tup {ds : List D} : revD (.tup ds) = .tup ds.reverse := rfl
def selZ (a b : D) (k : List D → List D → Prop) : Prop := match a, b with
  | .lst ds, .lst es => k ds es
  | .tup ds, .tup es => k ds es
  | _, _ => False
theorem selZ_lst {ds es : List D} {k : List D → List D → Prop} : selZ (.lst ds) (.lst es) k = k ds es := rfl
theorem selZ_tup {ds es : List D} {k : List D → List D → Prop} : selZ (.tup ds) (.tup es) k = k ds es := rfl
def selO (s : Sl) (k : Unit → Prop) : Prop := match s with
  | .own _ _ => False
  | _ => k ()
theorem selO_un {k : Unit → Prop} : selO .un k = k () := rfl
theorem selO_val {d : D} {k : Unit → Prop} : selO (.val d) k = k () := rfl
def nOw (E : List Sl) (k : Unit → Prop) (vs : List Nat) : Prop := noOwn E vs (k ())
def k_now (E : List Sl) (k : Unit → Prop) (vs : List Nat) (_ : Unit) : Prop := nOw E k vs
theorem k_now_ap {E : List Sl} {k : Unit → Prop} {vs : List Nat} {u : Unit} : k_now E k vs u = nOw E k vs := rfl
theorem nOw_nil {E : List Sl} {k : Unit → Prop} : nOw E k [] = k () := rfl
theorem nOw_cons {E : List Sl} {k : Unit → Prop} {v : Nat} {vs : List Nat} : nOw E k (v :: vs) = selO (nth E v) (k_now E k vs) := by
  unfold selO k_now nOw
  rw [noOwn]
  try (cases nth E v <;> rfl)
theorem wipeE_nil {E : List Sl} : wipeE E [] = E := rfl
theorem wipeE_cons {E : List Sl} {v : Nat} {vs : List Nat} : wipeE E (v :: vs) = put (wipeE E vs) v .un := rfl
theorem backE_nil {E0 E : List Sl} : backE E0 [] E = E := rfl
theorem backE_cons {E0 E : List Sl} {v : Nat} {vs : List Nat} : backE E0 (v :: vs) E = put (backE E0 vs E) v (nth E0 v) := rfl
theorem toSl_v {E : List Sl} {d : D} : toSl E (.val d) = .val d := rfl
def ioS : Sl → Sl
  | .own _ d => .own true d
  | _ => .un
theorem ioS_own {io : Bool} {d : D} : ioS (.own io d) = .own true d := rfl
theorem toSl_rf {E : List Sl} {i : Nat} : toSl E (.ref i) = ioS (nth E i) := by
  show (match nth E i with | .own _ d => Sl.own true d | _ => .un) = ioS (nth E i)
  unfold ioS
  cases nth E i <;> rfl
theorem rfs_nil : rfs [] = [] := rfl
theorem rfs_val {d : D} {r : List Ag} : rfs (.val d :: r) = rfs r := rfl
theorem rfs_ref {i : Nat} {r : List Ag} : rfs (.ref i :: r) = i :: rfs r := rfl
def argsOf (E : List Sl) : List Ag → List Sl
  | [] => []
  | a :: r => toSl E a :: argsOf E r
theorem argsOf_eq {E : List Sl} : ∀ {A : List Ag}, A.map (toSl E) = argsOf E A
  | [] => rfl
  | a :: r => by rw [List.map_cons, argsOf_eq]; rfl
theorem argsOf_nil {E : List Sl} : argsOf E [] = [] := rfl
theorem argsOf_cons {E : List Sl} {a : Ag} {r : List Ag} : argsOf E (a :: r) = toSl E a :: argsOf E r := rfl
def selP (a b : Sl) (k : D → Bool → Prop) : Prop := match a, b with
  | .own _ d, .own io _ => k d io
  | _, _ => False
theorem selP_own {i io : Bool} {d e : D} {k : D → Bool → Prop} : selP (.own i d) (.own io e) k = k d io := rfl
theorem isNonD_non : isNonD .non = true := rfl
theorem isNonD_int {i : Int} : isNonD (.int i) = false := rfl
theorem isNonD_str {i : Str} : isNonD (.str i) = false := rfl
theorem isNonD_tup {i : List D} : isNonD (.tup i) = false := rfl
theorem isNonD_lst {i : List D} : isNonD (.lst i) = false := rfl
theorem isNonD_bl {i : Bool} : isNonD (.bl i) = false := rfl
def selIx (s : Sl) (b : D) (R : D → Prop) : Prop := match s with
  | .val a => xIx a b R
  | .own _ (.lst xs) => xIx (.lst xs) b R
  | _ => False
theorem selIx_val {a b : D} {R : D → Prop} : selIx (.val a) b R = xIx a b R := rfl
theorem selIx_own {io : Bool} {xs : List D} {b : D} {R : D → Prop} : selIx (.own io (.lst xs)) b R = xIx (.lst xs) b R := rfl
def selLls (s : Sl) (k : Bool → List (List D) → Prop) : Prop := match s with
  | .own io (.lls dss) => k io dss
  | _ => False
theorem selLls_own {io : Bool} {dss : List (List D)} {k : Bool → List (List D) → Prop} : selLls (.own io (.lls dss)) k = k io dss := rfl
def selVI (s : Sl) (k : Int → Prop) : Prop := match s with
  | .val (.int p) => k p
  | _ => False
theorem selVI_int {p : Int} {k : Int → Prop} : selVI (.val (.int p)) k = k p := rfl
def selX (n : Nat) (i : Int) (k : Nat → Prop) : Prop := match ixN n i with
  | some m => k m
  | none => False
theorem ixN_nat {n i : Nat} (h : i < n) : ixN n (i : Int) = some i := by
  unfold ixN
  rw [if_pos (by omega), if_pos (by omega)]
  simp
theorem ixN_last {n : Nat} : ixN (n + 1) (-1) = some n := by
  unfold ixN
  rw [if_neg (by omega), if_pos (by omega)]
  simp
  omega
theorem selX_nat {n i : Nat} {k : Nat → Prop} (h : i < n) : selX n (i : Int) k = k i := by
  unfold selX
  rw [ixN_nat h]
theorem selX_zero {n : Nat} {k : Nat → Prop} : selX (n + 1) 0 k = k 0 := selX_nat (i := 0) (Nat.succ_pos n)
theorem selX_one {n : Nat} {k : Nat → Prop} : selX (n + 2) 1 k = k 1 := selX_nat (i := 1) (by omega)
theorem selX_last {n : Nat} {k : Nat → Prop} : selX (n + 1) (-1) k = k n := by
  unfold selX
  rw [ixN_last]
def selL (d : D) (k : List D → Prop) : Prop := match d with
  | .lst ds => k ds
  | _ => False
theorem selL_lst {ds : List D} {k : List D → Prop} : selL (.lst ds) k = k ds := rfl
def selSz (s : D) (lo hi : Option Int) (R : D → Prop) : Prop := match s with
  | .tup ds => R (.tup (cutD ds lo hi))
  | .lst ds => R (.lst (cutD ds lo hi))
  | .fro ns => R (.lst ((cutD ns lo hi).map D.int))
  | _ => False
theorem selSz_tup {ds : List D} {lo hi : Option Int} {R : D → Prop} : selSz (.tup ds) lo hi R = R (.tup (cutD ds lo hi)) := rfl
theorem selSz_lst {ds : List D} {lo hi : Option Int} {R : D → Prop} : selSz (.lst ds) lo hi R = R (.lst (cutD ds lo hi)) := rfl
theorem selSz_fro {ns : List Int} {lo hi : Option Int} {R : D → Prop} : selSz (.fro ns) lo hi R = R (.lst ((cutD ns lo hi).map D.int)) := rfl
def selOL (s : Sl) (k : Bool → List D → Prop) : Prop := match s with
  | .own io (.lst ds) => k io ds
  | _ => False
theorem selOL_own {io : Bool} {ds : List D} {k : Bool → List D → Prop} : selOL (.own io (.lst ds)) k = k io ds := rfl

def k_xVar1 (R : D → List Sl → Prop) (E : List Sl) (d : D) : Prop := R d E
theorem k_xVar1_ap {R : D → List Sl → Prop} {E : List Sl} {d : D} : k_xVar1 R E d = (R d E) := rfl
def k_xVar2 (E : List Sl) (ix : Nat) (R : D → List Sl → Prop) (io : Bool) (d : D) : Prop := selB io kF (kRD (shr d) (put E ix (.val (shr d))) R)
theorem k_xVar2_ap {E : List Sl} {ix : Nat} {R : D → List Sl → Prop} {io : Bool} {d : D} : k_xVar2 E ix R io d = (selB io kF (kRD (shr d) (put E ix (.val (shr d))) R)) := rfl
theorem xVar_ap {ix : Nat} {E : List Sl} {R : D → List Sl → Prop} : xVar ix E R = (selS (nth E ix) ((k_xVar1 R E)) ((k_xVar2 E ix R))) := by
  unfold xVar selS
  cases nth E ix with
  | un => rfl
  | val d => rfl
  | own io d => cases io <;> rfl
theorem xC_ap {d : D} {E : List Sl} {R : D → List Sl → Prop} : xC d E R = (R d E) := rfl
def k_xShr1 (R : D → List Sl → Prop) (d : D) (E1 : List Sl) : Prop := R (shr d) E1
theorem k_xShr1_ap {R : D → List Sl → Prop} {d : D} {E1 : List Sl} : k_xShr1 R d E1 = (R (shr d) E1) := rfl
theorem xShr_ap {x : XE} {E : List Sl} {R : D → List Sl → Prop} : xShr x E R = (x E (k_xShr1 R)) := rfl
def k_xOp3 (R : D → List Sl → Prop) (E2 : List Sl) (c : D) : Prop := R c E2
theorem k_xOp3_ap {R : D → List Sl → Prop} {E2 : List Sl} {c : D} : k_xOp3 R E2 c = (R c E2) := rfl
def k_xOp2 (x2 : X2) (a : D) (R : D → List Sl → Prop) (b : D) (E2 : List Sl) : Prop := x2 a b (k_xOp3 R E2)
theorem k_xOp2_ap {x2 : X2} {a : D} {R : D → List Sl → Prop} {b : D} {E2 : List Sl} : k_xOp2 x2 a R b E2 = (x2 a b (k_xOp3 R E2)) := rfl
def k_xOp1 (xb : XE) (x2 : X2) (R : D → List Sl → Prop) (a : D) (E1 : List Sl) : Prop := xb E1 (k_xOp2 x2 a R)
theorem k_xOp1_ap {xb : XE} {x2 : X2} {R : D → List Sl → Prop} {a : D} {E1 : List Sl} : k_xOp1 xb x2 R a E1 = (xb E1 (k_xOp2 x2 a R)) := rfl
theorem xOp_ap {x2 : X2} {xa : XE} {xb : XE} {E : List Sl} {R : D → List Sl → Prop} : xOp x2 xa xb E R = (xa E (k_xOp1 xb x2 R)) := rfl
def k_xUn2 (R : D → List Sl → Prop) (E1 : List Sl) (c : D) : Prop := R c E1
theorem k_xUn2_ap {R : D → List Sl → Prop} {E1 : List Sl} {c : D} : k_xUn2 R E1 c = (R c E1) := rfl
def k_xUn1 (x1 : X1) (R : D → List Sl → Prop) (a : D) (E1 : List Sl) : Prop := x1 a (k_xUn2 R E1)
theorem k_xUn1_ap {x1 : X1} {R : D → List Sl → Prop} {a : D} {E1 : List Sl} : k_xUn1 x1 R a E1 = (x1 a (k_xUn2 R E1)) := rfl
theorem xUn_ap {x1 : X1} {xa : XE} {E : List Sl} {R : D → List Sl → Prop} : xUn x1 xa E R = (xa E (k_xUn1 x1 R)) := rfl
theorem xNext_ap {XD : XEnds} {E : List Sl} : xNext XD E = (XD.nx E) := rfl
theorem xSeq_ap {st : XS} {su : XS} {XD : XEnds} {E : List Sl} : xSeq st su XD E = (st { XD with nx := su XD } E) := rfl
theorem xBreak_ap {XD : XEnds} {E : List Sl} : xBreak XD E = (XD.bk E) := rfl
theorem xCont_ap {XD : XEnds} {E : List Sl} : xCont XD E = (XD.ct E) := rfl
def k_xDrop1 (XD : XEnds) (_ : D) (E1 : List Sl) : Prop := XD.nx E1
theorem k_xDrop1_ap {XD : XEnds} {u0 : D} {E1 : List Sl} : k_xDrop1 XD u0 E1 = (XD.nx E1) := rfl
theorem xDrop_ap {x : XE} {XD : XEnds} {E : List Sl} : xDrop x XD E = (x E (k_xDrop1 XD)) := rfl
theorem xRet_ap {x : XE} {XD : XEnds} {E : List Sl} : xRet x XD E = (x E XD.rt) := rfl
theorem xRetN_ap {XD : XEnds} {E : List Sl} : xRetN XD E = (XD.rt .non E) := rfl
def k_xIfS1 (st : XS) (XD : XEnds) (su : XS) (bb : Bool) (E1 : List Sl) : Prop := selB bb (kS st XD E1) (kS su XD E1)
theorem k_xIfS1_ap {st : XS} {XD : XEnds} {su : XS} {bb : Bool} {E1 : List Sl} : k_xIfS1 st XD su bb E1 = (selB bb (kS st XD E1) (kS su XD E1)) := rfl
theorem xIfS_ap {xt : XT} {st : XS} {su : XS} {XD : XEnds} {E : List Sl} : xIfS xt st su XD E = (xt E (k_xIfS1 st XD su)) := rfl
theorem xNever_ap {XD : XEnds} {E : List Sl} : xNever XD E = (False) := rfl
def k_xB2 (RB : Bool → List Sl → Prop) (E1 : List Sl) (bb : Bool) : Prop := RB bb E1
theorem k_xB2_ap {RB : Bool → List Sl → Prop} {E1 : List Sl} {bb : Bool} : k_xB2 RB E1 bb = (RB bb E1) := rfl
def k_xB1 (RB : Bool → List Sl → Prop) (d : D) (E1 : List Sl) : Prop := selBl d (k_xB2 RB E1)
theorem k_xB1_ap {RB : Bool → List Sl → Prop} {d : D} {E1 : List Sl} : k_xB1 RB d E1 = (selBl d (k_xB2 RB E1)) := rfl
theorem xB_ap {x : XE} {E : List Sl} {RB : Bool → List Sl → Prop} : xB x E RB = (x E (k_xB1 RB)) := rfl
def k_xAnd1 (xu : XT) (RB : Bool → List Sl → Prop) (bb : Bool) (E1 : List Sl) : Prop := selB bb (kT xu E1 RB) (kRB false E1 RB)
theorem k_xAnd1_ap {xu : XT} {RB : Bool → List Sl → Prop} {bb : Bool} {E1 : List Sl} : k_xAnd1 xu RB bb E1 = (selB bb (kT xu E1 RB) (kRB false E1 RB)) := rfl
theorem xAnd_ap {xt : XT} {xu : XT} {E : List Sl} {RB : Bool → List Sl → Prop} : xAnd xt xu E RB = (xt E (k_xAnd1 xu RB)) := rfl
def k_xOr1 (RB : Bool → List Sl → Prop) (xu : XT) (bb : Bool) (E1 : List Sl) : Prop := selB bb (kRB true E1 RB) (kT xu E1 RB)
theorem k_xOr1_ap {RB : Bool → List Sl → Prop} {xu : XT} {bb : Bool} {E1 : List Sl} : k_xOr1 RB xu bb E1 = (selB bb (kRB true E1 RB) (kT xu E1 RB)) := rfl
theorem xOr_ap {xt : XT} {xu : XT} {E : List Sl} {RB : Bool → List Sl → Prop} : xOr xt xu E RB = (xt E (k_xOr1 RB xu)) := rfl
def k_xNot1 (RB : Bool → List Sl → Prop) (bb : Bool) (E1 : List Sl) : Prop := RB (!bb) E1
theorem k_xNot1_ap {RB : Bool → List Sl → Prop} {bb : Bool} {E1 : List Sl} : k_xNot1 RB bb E1 = (RB (!bb) E1) := rfl
theorem xNot_ap {xt : XT} {E : List Sl} {RB : Bool → List Sl → Prop} : xNot xt E RB = (xt E (k_xNot1 RB)) := rfl
def k_xIf1 (xa : XE) (R : D → List Sl → Prop) (xb : XE) (bb : Bool) (E1 : List Sl) : Prop := selB bb (kX xa E1 R) (kX xb E1 R)
theorem k_xIf1_ap {xa : XE} {R : D → List Sl → Prop} {xb : XE} {bb : Bool} {E1 : List Sl} : k_xIf1 xa R xb bb E1 = (selB bb (kX xa E1 R) (kX xb E1 R)) := rfl
theorem xIf_ap {xt : XT} {xa : XE} {xb : XE} {E : List Sl} {R : D → List Sl → Prop} : xIf xt xa xb E R = (xt E (k_xIf1 xa R xb)) := rfl
def k_xAndV2 (xb : XE) (E1 : List Sl) (R : D → List Sl → Prop) (bb : Bool) : Prop := selB bb (kX xb E1 R) (kRD (.bl false) E1 R)
theorem k_xAndV2_ap {xb : XE} {E1 : List Sl} {R : D → List Sl → Prop} {bb : Bool} : k_xAndV2 xb E1 R bb = (selB bb (kX xb E1 R) (kRD (.bl false) E1 R)) := rfl
def k_xAndV1 (xb : XE) (R : D → List Sl → Prop) (d : D) (E1 : List Sl) : Prop := selBl d (k_xAndV2 xb E1 R)
theorem k_xAndV1_ap {xb : XE} {R : D → List Sl → Prop} {d : D} {E1 : List Sl} : k_xAndV1 xb R d E1 = (selBl d (k_xAndV2 xb E1 R)) := rfl
theorem xAndV_ap {xa : XE} {xb : XE} {E : List Sl} {R : D → List Sl → Prop} : xAndV xa xb E R = (xa E (k_xAndV1 xb R)) := rfl
def k_xOrV2 (E1 : List Sl) (R : D → List Sl → Prop) (xb : XE) (bb : Bool) : Prop := selB bb (kRD (.bl true) E1 R) (kX xb E1 R)
theorem k_xOrV2_ap {E1 : List Sl} {R : D → List Sl → Prop} {xb : XE} {bb : Bool} : k_xOrV2 E1 R xb bb = (selB bb (kRD (.bl true) E1 R) (kX xb E1 R)) := rfl
def k_xOrV1 (R : D → List Sl → Prop) (xb : XE) (d : D) (E1 : List Sl) : Prop := selBl d (k_xOrV2 E1 R xb)
theorem k_xOrV1_ap {R : D → List Sl → Prop} {xb : XE} {d : D} {E1 : List Sl} : k_xOrV1 R xb d E1 = (selBl d (k_xOrV2 E1 R xb)) := rfl
theorem xOrV_ap {xa : XE} {xb : XE} {E : List Sl} {R : D → List Sl → Prop} : xOrV xa xb E R = (xa E (k_xOrV1 R xb)) := rfl
def k_xNotV2 (R : D → List Sl → Prop) (E1 : List Sl) (bb : Bool) : Prop := R (.bl (!bb)) E1
theorem k_xNotV2_ap {R : D → List Sl → Prop} {E1 : List Sl} {bb : Bool} : k_xNotV2 R E1 bb = (R (.bl (!bb)) E1) := rfl
def k_xNotV1 (R : D → List Sl → Prop) (d : D) (E1 : List Sl) : Prop := selBl d (k_xNotV2 R E1)
theorem k_xNotV1_ap {R : D → List Sl → Prop} {d : D} {E1 : List Sl} : k_xNotV1 R d E1 = (selBl d (k_xNotV2 R E1)) := rfl
theorem xNotV_ap {xa : XE} {E : List Sl} {R : D → List Sl → Prop} : xNotV xa E R = (xa E (k_xNotV1 R)) := rfl
theorem xYes_ap {E : List Sl} {RB : Bool → List Sl → Prop} : xYes E RB = (RB true E) := rfl
theorem xvNil_ap {E : List Sl} {RL : List D → List Sl → Prop} : xvNil E RL = (RL [] E) := rfl
def k_xvCons2 (RL : List D → List Sl → Prop) (d : D) (ds : List D) (E2 : List Sl) : Prop := RL (d :: ds) E2
theorem k_xvCons2_ap {RL : List D → List Sl → Prop} {d : D} {ds : List D} {E2 : List Sl} : k_xvCons2 RL d ds E2 = (RL (d :: ds) E2) := rfl
def k_xvCons1 (xr : XV) (RL : List D → List Sl → Prop) (d : D) (E1 : List Sl) : Prop := xr E1 (k_xvCons2 RL d)
theorem k_xvCons1_ap {xr : XV} {RL : List D → List Sl → Prop} {d : D} {E1 : List Sl} : k_xvCons1 xr RL d E1 = (xr E1 (k_xvCons2 RL d)) := rfl
theorem xvCons_ap {x : XE} {xr : XV} {E : List Sl} {RL : List D → List Sl → Prop} : xvCons x xr E RL = (x E (k_xvCons1 xr RL)) := rfl
def k_xTup1 (R : D → List Sl → Prop) (ds : List D) (E1 : List Sl) : Prop := ds.length ≤ 16777216 ∧ R (.tup ds) E1
theorem k_xTup1_ap {R : D → List Sl → Prop} {ds : List D} {E1 : List Sl} : k_xTup1 R ds E1 = (ds.length ≤ 16777216 ∧ R (.tup ds) E1) := rfl
theorem xTup_ap {xv : XV} {E : List Sl} {R : D → List Sl → Prop} : xTup xv E R = (xv E (k_xTup1 R)) := rfl
def k_xLst1 (R : D → List Sl → Prop) (ds : List D) (E1 : List Sl) : Prop := ds.length ≤ 16777216 ∧ R (.lst ds) E1
theorem k_xLst1_ap {R : D → List Sl → Prop} {ds : List D} {E1 : List Sl} : k_xLst1 R ds E1 = (ds.length ≤ 16777216 ∧ R (.lst ds) E1) := rfl
theorem xLst_ap {xv : XV} {E : List Sl} {R : D → List Sl → Prop} : xLst xv E R = (xv E (k_xLst1 R)) := rfl
def k_xCB2 (R : D → List Sl → Prop) (E1 : List Sl) (c : D) : Prop := R c E1
theorem k_xCB2_ap {R : D → List Sl → Prop} {E1 : List Sl} {c : D} : k_xCB2 R E1 c = (R c E1) := rfl
def k_xCB1 (xs1 : X1s) (R : D → List Sl → Prop) (ds : List D) (E1 : List Sl) : Prop := xs1 ds (k_xCB2 R E1)
theorem k_xCB1_ap {xs1 : X1s} {R : D → List Sl → Prop} {ds : List D} {E1 : List Sl} : k_xCB1 xs1 R ds E1 = (xs1 ds (k_xCB2 R E1)) := rfl
theorem xCB_ap {xs1 : X1s} {xv : XV} {E : List Sl} {R : D → List Sl → Prop} : xCB xs1 xv E R = (xv E (k_xCB1 xs1 R)) := rfl
def k_pk (dR : D → Prop) (_ : Bool) (d : D) : Prop := dR (shr d)
theorem k_pk_ap {dR : D → Prop} {io : Bool} {d : D} : k_pk dR io d = dR (shr d) := rfl
theorem pk_ap {E : List Sl} {i : Nat} {k : D → Prop} : pk E i k = selS (nth E i) k (k_pk k) := by
  unfold pk selS
  cases nth E i <;> rfl
def k_xOpL3 (R : D → List Sl → Prop) (E1 : List Sl) (c : D) : Prop := R c E1
theorem k_xOpL3_ap {R : D → List Sl → Prop} {E1 : List Sl} {c : D} : k_xOpL3 R E1 c = (R c E1) := rfl
def k_xOpL2 (x2 : X2) (b : D) (R : D → List Sl → Prop) (E1 : List Sl) (a : D) : Prop := x2 a b (k_xOpL3 R E1)
theorem k_xOpL2_ap {x2 : X2} {b : D} {R : D → List Sl → Prop} {E1 : List Sl} {a : D} : k_xOpL2 x2 b R E1 a = (x2 a b (k_xOpL3 R E1)) := rfl
def k_xOpL1 (ix : Nat) (x2 : X2) (R : D → List Sl → Prop) (b : D) (E1 : List Sl) : Prop := pk E1 ix (k_xOpL2 x2 b R E1)
theorem k_xOpL1_ap {ix : Nat} {x2 : X2} {R : D → List Sl → Prop} {b : D} {E1 : List Sl} : k_xOpL1 ix x2 R b E1 = (pk E1 ix (k_xOpL2 x2 b R E1)) := rfl
theorem xOpL_ap {x2 : X2} {ix : Nat} {xb : XE} {E : List Sl} {R : D → List Sl → Prop} : xOpL x2 ix xb E R = (nth E ix ≠ .un ∧ xb E (k_xOpL1 ix x2 R)) := rfl
def k_xOpR3 (R : D → List Sl → Prop) (E1 : List Sl) (c : D) : Prop := R c E1
theorem k_xOpR3_ap {R : D → List Sl → Prop} {E1 : List Sl} {c : D} : k_xOpR3 R E1 c = (R c E1) := rfl
def k_xOpR2 (x2 : X2) (a : D) (R : D → List Sl → Prop) (E1 : List Sl) (b : D) : Prop := x2 a b (k_xOpR3 R E1)
theorem k_xOpR2_ap {x2 : X2} {a : D} {R : D → List Sl → Prop} {E1 : List Sl} {b : D} : k_xOpR2 x2 a R E1 b = (x2 a b (k_xOpR3 R E1)) := rfl
def k_xOpR1 (ix : Nat) (x2 : X2) (R : D → List Sl → Prop) (a : D) (E1 : List Sl) : Prop := pk E1 ix (k_xOpR2 x2 a R E1)
theorem k_xOpR1_ap {ix : Nat} {x2 : X2} {R : D → List Sl → Prop} {a : D} {E1 : List Sl} : k_xOpR1 ix x2 R a E1 = (pk E1 ix (k_xOpR2 x2 a R E1)) := rfl
theorem xOpR_ap {x2 : X2} {xa : XE} {ix : Nat} {E : List Sl} {R : D → List Sl → Prop} : xOpR x2 xa ix E R = (xa E (k_xOpR1 ix x2 R)) := rfl
def k_xCBp2 (R : D → List Sl → Prop) (E : List Sl) (c : D) : Prop := R c E
theorem k_xCBp2_ap {R : D → List Sl → Prop} {E : List Sl} {c : D} : k_xCBp2 R E c = (R c E) := rfl
def k_xCBp1 (xs1 : X1s) (R : D → List Sl → Prop) (E : List Sl) (a : D) : Prop := xs1 [a] (k_xCBp2 R E)
theorem k_xCBp1_ap {xs1 : X1s} {R : D → List Sl → Prop} {E : List Sl} {a : D} : k_xCBp1 xs1 R E a = (xs1 [a] (k_xCBp2 R E)) := rfl
theorem xCBp_ap {xs1 : X1s} {ix : Nat} {E : List Sl} {R : D → List Sl → Prop} : xCBp xs1 ix E R = (pk E ix (k_xCBp1 xs1 R E)) := rfl
theorem xgName_ap {ix : Nat} {d : D} {E : List Sl} {RS : List Sl → Prop} : xgName ix d E RS = (noio E ix (RS (put E ix (.val d)))) := rfl
theorem xgNil_ap {E : List Sl} {RS : List Sl → Prop} : xgNil [] E RS = (RS E) := rfl
def k_xgCons1 (xgs : XGs) (ds : List D) (RS : List Sl → Prop) (E1 : List Sl) : Prop := xgs ds E1 RS
theorem k_xgCons1_ap {xgs : XGs} {ds : List D} {RS : List Sl → Prop} {E1 : List Sl} : k_xgCons1 xgs ds RS E1 = (xgs ds E1 RS) := rfl
theorem xgCons_ap {xg : XG} {xgs : XGs} {d : D} {ds : List D} {E : List Sl} {RS : List Sl → Prop} : xgCons xg xgs (d :: ds) E RS = (xg d E (k_xgCons1 xgs ds RS)) := rfl
theorem xgTup_ap {n : Nat} {xgs : XGs} {ds : List D} {E : List Sl} {RS : List Sl → Prop} : xgTup n xgs (.tup ds) E RS = (ds.length = n ∧ xgs ds E RS) := rfl
def k_xAsg1 (xg : XG) (XD : XEnds) (d : D) (E1 : List Sl) : Prop := xg d E1 XD.nx
theorem k_xAsg1_ap {xg : XG} {XD : XEnds} {d : D} {E1 : List Sl} : k_xAsg1 xg XD d E1 = (xg d E1 XD.nx) := rfl
theorem xAsg_ap {x : XE} {xg : XG} {XD : XEnds} {E : List Sl} : xAsg x xg XD E = (x E (k_xAsg1 xg XD)) := rfl
def k_xAsgO1 (ix : Nat) (XD : XEnds) (d : D) (E1 : List Sl) : Prop := noio E1 ix (XD.nx (put E1 ix (.own false d)))
theorem k_xAsgO1_ap {ix : Nat} {XD : XEnds} {d : D} {E1 : List Sl} : k_xAsgO1 ix XD d E1 = (noio E1 ix (XD.nx (put E1 ix (.own false d)))) := rfl
theorem xAsgO_ap {x : XE} {ix : Nat} {XD : XEnds} {E : List Sl} : xAsgO x ix XD E = (x E (k_xAsgO1 ix XD)) := rfl
def k_xAug2 (f : Int → Int → Int) (p : Int) (ix : Nat) (XD : XEnds) (d : D) (E1 : List Sl) : Prop := selI d fun b => noio E1 ix (XD.nx (put E1 ix (.val (.int (f p b)))))
theorem k_xAug2_ap {f : Int → Int → Int} {p : Int} {ix : Nat} {XD : XEnds} {b : Int} {E1 : List Sl} : k_xAug2 f p ix XD (.int b) E1 = noio E1 ix (XD.nx (put E1 ix (.val (.int (f p b))))) := rfl
theorem xAug_ap {f : Int → Int → Int} {ix : Nat} {x : XE} {XD : XEnds} {E : List Sl} : xAug ix f x XD E = selVI (nth E ix) fun p => x E (k_xAug2 f p ix XD) := by
  unfold xAug selVI
  cases nth E ix with
  | val d => cases d <;> rfl
  | _ => rfl
def k_xFor1 (xg : XG) (st : XS) (XD : XEnds) (ds : List D) (E1 : List Sl) : Prop := xForL xg st XD ds E1
theorem k_xFor1_ap {xg : XG} {st : XS} {XD : XEnds} {ds : List D} {E1 : List Sl} : k_xFor1 xg st XD ds E1 = (xForL xg st XD ds E1) := rfl
theorem xFor_ap {xi : XI} {xg : XG} {st : XS} {XD : XEnds} {E : List Sl} : xFor xi xg st XD E = (xi E (k_xFor1 xg st XD)) := rfl
theorem xForL_nil {g : XG} {xb : XS} {XD : XEnds} {E : List Sl} : xForL g xb XD [] E = XD.nx E := rfl
def k_forL (g : XG) (xb : XS) (XD : XEnds) (ds : List D) (E1 : List Sl) : Prop := xb { nx := xForL g xb XD ds, rt := XD.rt, bk := XD.nx, ct := xForL g xb XD ds } E1
theorem k_forL_ap {g : XG} {xb : XS} {XD : XEnds} {ds : List D} {E : List Sl} : k_forL g xb XD ds E = xb { nx := xForL g xb XD ds, rt := XD.rt, bk := XD.nx, ct := xForL g xb XD ds } E := rfl
theorem xForL_cons {g : XG} {xb : XS} {XD : XEnds} {d : D} {ds : List D} {E : List Sl} : xForL g xb XD (d :: ds) E = g d E (k_forL g xb XD ds) := rfl
def k_xiAny2 (RL : List D → List Sl → Prop) (E1 : List Sl) (ds : List D) : Prop := RL ds E1
theorem k_xiAny2_ap {RL : List D → List Sl → Prop} {E1 : List Sl} {ds : List D} : k_xiAny2 RL E1 ds = (RL ds E1) := rfl
def k_xiAny3 (RL : List D → List Sl → Prop) (E1 : List Sl) (lo : Int) (hi : Int) : Prop := Sm lo ∧ Sm hi ∧ RL (rgD lo (hi - lo).toNat) E1
theorem k_xiAny3_ap {RL : List D → List Sl → Prop} {E1 : List Sl} {lo : Int} {hi : Int} : k_xiAny3 RL E1 lo hi = (Sm lo ∧ Sm hi ∧ RL (rgD lo (hi - lo).toNat) E1) := rfl
def k_xiAny1 (RL : List D → List Sl → Prop) (d : D) (E1 : List Sl) : Prop := selR d ((k_xiAny2 RL E1)) (k_xiAny3 RL E1)
theorem k_xiAny1_ap {RL : List D → List Sl → Prop} {d : D} {E1 : List Sl} : k_xiAny1 RL d E1 = (selR d ((k_xiAny2 RL E1)) (k_xiAny3 RL E1)) := rfl
theorem xiAny_ap {x : XE} {E : List Sl} {RL : List D → List Sl → Prop} : xiAny x E RL = (x E (k_xiAny1 RL)) := by
  rfl
def k_xiRev2 (RL : List D → List Sl → Prop) (E1 : List Sl) (ds : List D) : Prop := RL ds.reverse E1
theorem k_xiRev2_ap {RL : List D → List Sl → Prop} {E1 : List Sl} {ds : List D} : k_xiRev2 RL E1 ds = (RL ds.reverse E1) := rfl
def k_xiRev1 (RL : List D → List Sl → Prop) (d : D) (E1 : List Sl) : Prop := selQ d (k_xiRev2 RL E1)
theorem k_xiRev1_ap {RL : List D → List Sl → Prop} {d : D} {E1 : List Sl} : k_xiRev1 RL d E1 = (selQ d (k_xiRev2 RL E1)) := rfl
theorem xiRev_ap {x : XE} {E : List Sl} {RL : List D → List Sl → Prop} : xiRev x E RL = (x E (k_xiRev1 RL)) := rfl
def k_xRevE (R : D → List Sl → Prop) (d : D) (E1 : List Sl) : Prop := match d with
  | .lst ds => R (.lst ds.reverse) E1
  | .tup ds => R (.tup ds.reverse) E1
  | _ => False
theorem k_xRevE_lst {R : D → List Sl → Prop} {ds : List D} {E1 : List Sl} : k_xRevE R (.lst ds) E1 = R (.lst ds.reverse) E1 := rfl
theorem k_xRevE_tup {R : D → List Sl → Prop} {ds : List D} {E1 : List Sl} : k_xRevE R (.tup ds) E1 = R (.tup ds.reverse) E1 := rfl
theorem xRevE_ap {x : XE} {E : List Sl} {R : D → List Sl → Prop} : xRevE x E R = x E (k_xRevE R) := rfl
def k_xiEnum2 (RL : List D → List Sl → Prop) (E1 : List Sl) (ds : List D) : Prop := RL (enumD 0 ds) E1
theorem k_xiEnum2_ap {RL : List D → List Sl → Prop} {E1 : List Sl} {ds : List D} : k_xiEnum2 RL E1 ds = (RL (enumD 0 ds) E1) := rfl
def k_xiEnum1 (RL : List D → List Sl → Prop) (d : D) (E1 : List Sl) : Prop := selQ d (k_xiEnum2 RL E1)
theorem k_xiEnum1_ap {RL : List D → List Sl → Prop} {d : D} {E1 : List Sl} : k_xiEnum1 RL d E1 = (selQ d (k_xiEnum2 RL E1)) := rfl
theorem xiEnum_ap {x : XE} {E : List Sl} {RL : List D → List Sl → Prop} : xiEnum x E RL = (x E (k_xiEnum1 RL)) := rfl
def k_xiZip3 (RL : List D → List Sl → Prop) (E2 : List Sl) (ds es : List D) : Prop := RL (zipD ds es) E2
theorem k_xiZip3_ap {RL : List D → List Sl → Prop} {E2 : List Sl} {ds es : List D} : k_xiZip3 RL E2 ds es = RL (zipD ds es) E2 := rfl
def k_xiZip2 (RL : List D → List Sl → Prop) (a b : D) (E2 : List Sl) : Prop := selZ a b (k_xiZip3 RL E2)
theorem k_xiZip2_ap {RL : List D → List Sl → Prop} {a b : D} {E2 : List Sl} : k_xiZip2 RL a b E2 = selZ a b (k_xiZip3 RL E2) := rfl
def k_xiZip1 (y : XE) (RL : List D → List Sl → Prop) (a : D) (E1 : List Sl) : Prop := y E1 (k_xiZip2 RL a)
theorem k_xiZip1_ap {y : XE} {RL : List D → List Sl → Prop} {a : D} {E1 : List Sl} : k_xiZip1 y RL a E1 = y E1 (k_xiZip2 RL a) := rfl
theorem xiZip_ap {x y : XE} {E : List Sl} {RL : List D → List Sl → Prop} : xiZip x y E RL = x E (k_xiZip1 y RL) := by
  have h : ∀ a, (fun b E2 => (match a, b with | .lst ds, .lst es => RL (zipD ds es) E2 | .tup ds, .tup es => RL (zipD ds es) E2 | _, _ => False : Prop)) = k_xiZip2 RL a := by
    intro a; funext b E2; cases a <;> cases b <;> rfl
  show x E (fun a E1 => y E1 (fun b E2 => (match a, b with | .lst ds, .lst es => RL (zipD ds es) E2 | .tup ds, .tup es => RL (zipD ds es) E2 | _, _ => False : Prop))) = _
  simp only [h]; rfl
def k_xiR12 (RL : List D → List Sl → Prop) (E1 : List Sl) (j : Int) : Prop := Sm j ∧ RL (rgD 0 j.toNat) E1
theorem k_xiR12_ap {RL : List D → List Sl → Prop} {E1 : List Sl} {j : Int} : k_xiR12 RL E1 j = (Sm j ∧ RL (rgD 0 j.toNat) E1) := rfl
def k_xiR11 (RL : List D → List Sl → Prop) (d : D) (E1 : List Sl) : Prop := selI d (k_xiR12 RL E1)
theorem k_xiR11_ap {RL : List D → List Sl → Prop} {d : D} {E1 : List Sl} : k_xiR11 RL d E1 = (selI d (k_xiR12 RL E1)) := rfl
theorem xiR1_ap {x : XE} {E : List Sl} {RL : List D → List Sl → Prop} : xiR1 x E RL = (x E (k_xiR11 RL)) := rfl
def k_xiR24 (RL : List D → List Sl → Prop) (E2 : List Sl) (i j : Int) : Prop := Sm i ∧ Sm j ∧ RL (rgD i (j - i).toNat) E2
theorem k_xiR24_ap {RL : List D → List Sl → Prop} {E2 : List Sl} {i j : Int} : k_xiR24 RL E2 i j = (Sm i ∧ Sm j ∧ RL (rgD i (j - i).toNat) E2) := rfl
def k_xiR22 (RL : List D → List Sl → Prop) (a b : D) (E2 : List Sl) : Prop := selI a fun i => selI b fun j => k_xiR24 RL E2 i j
theorem k_xiR22_ap {RL : List D → List Sl → Prop} {i j : Int} {E2 : List Sl} : k_xiR22 RL (.int i) (.int j) E2 = k_xiR24 RL E2 i j := rfl
def k_xiR21 (y : XE) (RL : List D → List Sl → Prop) (a : D) (E1 : List Sl) : Prop := y E1 (k_xiR22 RL a)
theorem k_xiR21_ap {y : XE} {RL : List D → List Sl → Prop} {a : D} {E1 : List Sl} : k_xiR21 y RL a E1 = y E1 (k_xiR22 RL a) := rfl
theorem xiR2_ap {x y : XE} {E : List Sl} {RL : List D → List Sl → Prop} : xiR2 x y E RL = x E (k_xiR21 y RL) := by
  have h : ∀ a, (fun b E2 => (match a, b with | .int i, .int j => Sm i ∧ Sm j ∧ RL (rgD i (j - i).toNat) E2 | _, _ => False : Prop)) = k_xiR22 RL a := by
    intro a; funext b E2; cases a <;> cases b <;> rfl
  show x E (fun a E1 => y E1 (fun b E2 => (match a, b with | .int i, .int j => Sm i ∧ Sm j ∧ RL (rgD i (j - i).toNat) E2 | _, _ => False : Prop))) = _
  simp only [h]; rfl
theorem rgD_eq {lo : Int} {n : Nat} : rgD lo n = (List.range n).map fun i => D.int (lo + (i : Nat)) := rfl
theorem rgD_0 {n : Nat} : rgD 0 n = (List.range n).map fun i => D.int (i : Nat) := by
  unfold rgD
  congr; funext i; simp
def k_lcN (g : XG) (xt : XT) (xe : XE) (vs : List Nat) (RL : List D → List Sl → Prop) (ds acc : List D) (E : List Sl) (_ : Unit) : Prop := acc.length < 16777216 ∧ xLcL g xt xe vs RL ds acc E
theorem k_lcN_ap {g : XG} {xt : XT} {xe : XE} {vs : List Nat} {RL : List D → List Sl → Prop} {ds acc : List D} {E : List Sl} {u : Unit} {y : D} : k_lcN g xt xe vs RL ds acc E u = (acc.length < 16777216 ∧ xLcL g xt xe vs RL ds acc E) := rfl
def k_xLc3 (RL : D → List Sl → Prop) (E1 : List Sl) (vs : List Nat) (acc : List D) (E2 : List Sl) : Prop := RL (.lst acc) (backE E1 vs E2)
theorem k_xLc3_ap {RL : D → List Sl → Prop} {E1 : List Sl} {vs : List Nat} {acc : List D} {E2 : List Sl} : k_xLc3 RL E1 vs acc E2 = RL (.lst acc) (backE E1 vs E2) := rfl
def k_xLc2 (g : XG) (xt : XT) (xe : XE) (vs : List Nat) (R : D → List Sl → Prop) (ds : List D) (E1 : List Sl) (_ : Unit) : Prop := xLcL g xt xe vs (k_xLc3 R E1 vs) ds [] (wipeE E1 vs)
theorem k_xLc2_ap {g : XG} {xt : XT} {xe : XE} {vs : List Nat} {R : D → List Sl → Prop} {ds : List D} {E1 : List Sl} {u : Unit} : k_xLc2 g xt xe vs R ds E1 u = xLcL g xt xe vs (k_xLc3 R E1 vs) ds [] (wipeE E1 vs) := rfl
def k_xLc1 (g : XG) (xt : XT) (xe : XE) (vs : List Nat) (R : D → List Sl → Prop) (ds : List D) (E1 : List Sl) : Prop := nOw E1 (k_xLc2 g xt xe vs R ds E1) vs
theorem k_xLc1_ap {g : XG} {xt : XT} {xe : XE} {vs : List Nat} {R : D → List Sl → Prop} {ds : List D} {E1 : List Sl} : k_xLc1 g xt xe vs R ds E1 = nOw E1 (k_xLc2 g xt xe vs R ds E1) vs := rfl
theorem xLc_ap {xi : XI} {g : XG} {xt : XT} {xe : XE} {vs : List Nat} {E : List Sl} {R : D → List Sl → Prop} : xLc xi g xt xe vs E R = xi E (k_xLc1 g xt xe vs R) := rfl
def k_xLcF3 (R : D → List Sl → Prop) (E1 : List Sl) (vs : List Nat) (acc : List (List D)) (E2 : List Sl) : Prop := R (.lls acc) (backE E1 vs E2)
theorem k_xLcF3_ap {R : D → List Sl → Prop} {E1 : List Sl} {vs : List Nat} {acc : List (List D)} {E2 : List Sl} : k_xLcF3 R E1 vs acc E2 = R (.lls acc) (backE E1 vs E2) := rfl
def k_xLcF2 (g : XG) (xt : XT) (xe : XE) (vs : List Nat) (R : D → List Sl → Prop) (ds : List D) (E1 : List Sl) (_ : Unit) : Prop := xLcFL g xt xe vs (k_xLcF3 R E1 vs) ds [] (wipeE E1 vs)
theorem k_xLcF2_ap {g : XG} {xt : XT} {xe : XE} {vs : List Nat} {R : D → List Sl → Prop} {ds : List D} {E1 : List Sl} {u : Unit} : k_xLcF2 g xt xe vs R ds E1 u = xLcFL g xt xe vs (k_xLcF3 R E1 vs) ds [] (wipeE E1 vs) := rfl
def k_xLcF1 (g : XG) (xt : XT) (xe : XE) (vs : List Nat) (R : D → List Sl → Prop) (ds : List D) (E1 : List Sl) : Prop := nOw E1 (k_xLcF2 g xt xe vs R ds E1) vs
theorem k_xLcF1_ap {g : XG} {xt : XT} {xe : XE} {vs : List Nat} {R : D → List Sl → Prop} {ds : List D} {E1 : List Sl} : k_xLcF1 g xt xe vs R ds E1 = nOw E1 (k_xLcF2 g xt xe vs R ds E1) vs := rfl
theorem xLcF_ap {xi : XI} {g : XG} {xt : XT} {xe : XE} {vs : List Nat} {E : List Sl} {R : D → List Sl → Prop} : xLcF xi g xt xe vs E R = xi E (k_xLcF1 g xt xe vs R) := rfl
theorem xaNil_ap {E : List Sl} {RA : List Ag → List Sl → Prop} : xaNil E RA = (RA [] E) := rfl
def k_xaCons2 (RA : List Ag → List Sl → Prop) (d : D) (A : List Ag) (E2 : List Sl) : Prop := RA (.val d :: A) E2
theorem k_xaCons2_ap {RA : List Ag → List Sl → Prop} {d : D} {A : List Ag} {E2 : List Sl} : k_xaCons2 RA d A E2 = (RA (.val d :: A) E2) := rfl
def k_xaCons1 (xar : XA) (RA : List Ag → List Sl → Prop) (d : D) (E1 : List Sl) : Prop := xar E1 (k_xaCons2 RA d)
theorem k_xaCons1_ap {xar : XA} {RA : List Ag → List Sl → Prop} {d : D} {E1 : List Sl} : k_xaCons1 xar RA d E1 = (xar E1 (k_xaCons2 RA d)) := rfl
theorem xaCons_ap {x : XE} {xar : XA} {E : List Sl} {RA : List Ag → List Sl → Prop} : xaCons x xar E RA = (x E (k_xaCons1 xar RA)) := rfl
def k_xaRef3 (ix : Nat) (RA : List Ag → List Sl → Prop) (A : List Ag) (E2 : List Sl) (_ : Bool) (_ : D) : Prop := RA (.ref ix :: A) E2
theorem k_xaRef3_ap {ix : Nat} {RA : List Ag → List Sl → Prop} {A : List Ag} {E2 : List Sl} {io : Bool} {d : D} : k_xaRef3 ix RA A E2 io d = RA (.ref ix :: A) E2 := rfl
def kF1 : D → Prop := fun _ => False
theorem kF1_ap {d : D} : kF1 d = False := rfl
def k_xaRef2 (ix : Nat) (RA : List Ag → List Sl → Prop) (A : List Ag) (E2 : List Sl) : Prop := selS (nth E2 ix) kF1 (k_xaRef3 ix RA A E2)
theorem k_xaRef2_ap {ix : Nat} {RA : List Ag → List Sl → Prop} {A : List Ag} {E2 : List Sl} : k_xaRef2 ix RA A E2 = selS (nth E2 ix) kF1 (k_xaRef3 ix RA A E2) := rfl
def k_xaRef1 (ix : Nat) (xr : XA) (E : List Sl) (RA : List Ag → List Sl → Prop) (_ : Bool) (_ : D) : Prop := xr E (k_xaRef2 ix RA)
theorem k_xaRef1_ap {ix : Nat} {xr : XA} {E : List Sl} {RA : List Ag → List Sl → Prop} {io : Bool} {d : D} : k_xaRef1 ix xr E RA io d = xr E (k_xaRef2 ix RA) := rfl
theorem isOwn_sel {E : List Sl} {i : Nat} {R : Prop} : isOwn E i R = selS (nth E i) kF1 (fun _ _ => R) := by
  unfold isOwn selS
  cases nth E i <;> rfl
theorem xaRef_ap {i : Nat} {xr : XA} {E : List Sl} {RA : List Ag → List Sl → Prop} : xaRef i xr E RA = selS (nth E i) kF1 (k_xaRef1 i xr E RA) := by
  unfold xaRef
  simp only [isOwn_sel]
  rfl
theorem putBack_nil {os : List Sl} {j : Nat} {E : List Sl} {R : List Sl → Prop} : putBack os j [] E R = R E := rfl
theorem putBack_val {os : List Sl} {j : Nat} {d : D} {as : List Ag} {E : List Sl} {R : List Sl → Prop} : putBack os j (.val d :: as) E R = putBack os (j + 1) as E R := rfl
def k_putBack (os : List Sl) (j i : Nat) (as : List Ag) (E : List Sl) (R : List Sl → Prop) (d : D) (io : Bool) : Prop := putBack os (j + 1) as (put E i (.own io d)) R
theorem k_putBack_ap {os : List Sl} {j i : Nat} {as : List Ag} {E : List Sl} {R : List Sl → Prop} {d : D} {io : Bool} : k_putBack os j i as E R d io = putBack os (j + 1) as (put E i (.own io d)) R := rfl
theorem putBack_ref {os : List Sl} {j i : Nat} {as : List Ag} {E : List Sl} {R : List Sl → Prop} : putBack os j (.ref i :: as) E R = selP (nth os j) (nth E i) (k_putBack os j i as E R) := by
  rw [putBack]
  unfold selP
  cases nth os j <;> cases nth E i <;> rfl
def k_xCall2 (A : List Ag) (E1 : List Sl) (R : D → List Sl → Prop) (d : D) (os : List Sl) : Prop := putBack os 0 A E1 (R d)
theorem k_xCall2_ap {A : List Ag} {E1 : List Sl} {R : D → List Sl → Prop} {d : D} {os : List Sl} : k_xCall2 A E1 R d os = (putBack os 0 A E1 (R d)) := rfl
def k_xCall1 (n : Nat) (xf : XF) (R : D → List Sl → Prop) (A : List Ag) (E1 : List Sl) : Prop := A.length = n ∧ (rfs A).Nodup ∧ xf (A.map (toSl E1)) (k_xCall2 A E1 R)
theorem k_xCall1_ap {n : Nat} {xf : XF} {R : D → List Sl → Prop} {A : List Ag} {E1 : List Sl} : k_xCall1 n xf R A E1 = (A.length = n ∧ (rfs A).Nodup ∧ xf (A.map (toSl E1)) (k_xCall2 A E1 R)) := rfl
theorem xCall_ap {n : Nat} {xf : XF} {xar : XA} {E : List Sl} {R : D → List Sl → Prop} : xCall n xf xar E R = (xar E (k_xCall1 n xf R)) := rfl
def k_fnNx (n : Nat) (R : D → List Sl → Prop) (E : List Sl) : Prop := R .non (E.take n)
theorem k_fnNx_ap {n : Nat} {R : D → List Sl → Prop} {E : List Sl} : k_fnNx n R E = R .non (E.take n) := rfl
def k_fnRt (n : Nat) (R : D → List Sl → Prop) (d : D) (E : List Sl) : Prop := R d (E.take n)
theorem k_fnRt_ap {n : Nat} {R : D → List Sl → Prop} {d : D} {E : List Sl} : k_fnRt n R d E = R d (E.take n) := rfl
def kNo : List Sl → Prop := fun _ => False
theorem kNo_ap {E : List Sl} : kNo E = False := rfl
theorem fnX_ap {nl n : Nat} {xb : XS} {args : List Sl} {R : D → List Sl → Prop} : fnX nl n xb args R = xb { nx := k_fnNx n R, rt := k_fnRt n R, bk := kNo, ct := kNo } (args ++ List.replicate (nl - n) .un) := rfl
theorem xI_ap {g : Int → Int → D} {i j : Int} {R : D → Prop} : xI g (.int i) (.int j) R = R (g i j) := rfl
theorem xIC_ap {C : Int → Int → Prop} {g : Int → Int → D} {i j : Int} {R : D → Prop} : xIC C g (.int i) (.int j) R = (C i j ∧ R (g i j)) := rfl
theorem xNeg_ap {i : Int} {R : D → Prop} : xNeg (.int i) R = R (.int (-i)) := rfl
theorem xIsN_ap {a : D} {R : D → Prop} : xIsN a .non R = R (.bl (isNonD a)) := rfl
theorem xNotN_ap {a : D} {R : D → Prop} : xNotN a .non R = R (.bl (!isNonD a)) := rfl
theorem xAdd_int {i j : Int} {R : D → Prop} : xAdd (.int i) (.int j) R = R (.int (i + j)) := rfl
theorem xAdd_str {i j : Str} {R : D → Prop} : xAdd (.str i) (.str j) R = (i.length + j.length ≤ 16777216 ∧ R (.str (i ++ j))) := rfl
theorem xAdd_tup {i j : List D} {R : D → Prop} : xAdd (.tup i) (.tup j) R = (i.length + j.length ≤ 16777216 ∧ R (.tup (i ++ j))) := rfl
theorem xAdd_lst {i j : List D} {R : D → Prop} : xAdd (.lst i) (.lst j) R = (i.length + j.length ≤ 16777216 ∧ R (.lst (i ++ j))) := rfl
theorem xEqC_int {n : Bool} {i j : Int} {R : D → Prop} : xEqC n (.int i) (.int j) R = R (.bl (n ^^ decide (i = j))) := rfl
theorem xEqC_str {n : Bool} {i j : Str} {R : D → Prop} : xEqC n (.str i) (.str j) R = R (.bl (n ^^ decide (i = j))) := rfl
theorem xEqC_bl {n : Bool} {i j : Bool} {R : D → Prop} : xEqC n (.bl i) (.bl j) R = R (.bl (n ^^ decide (i = j))) := rfl
theorem xEqC_non {n : Bool} {R : D → Prop} : xEqC n .non .non R = R (.bl (n ^^ true)) := rfl
theorem xEqC_ni {n : Bool} {i : Int} {R : D → Prop} : xEqC n .non (.int i) R = R (.bl n) := rfl
theorem xEqC_in {n : Bool} {i : Int} {R : D → Prop} : xEqC n (.int i) .non R = R (.bl n) := rfl
theorem xEqC_tup {n : Bool} {xs ys : List D} {R : D → Prop} : xEqC n (.tup xs) (.tup ys) R = (SeqAt.shaped (.tuple (pys xs)) = true ∧ SeqAt.shaped (.tuple (pys ys)) = true ∧ R (.bl (n ^^ PyData.eqvAll (pys xs) (pys ys)))) := rfl
theorem xEqC_lst {n : Bool} {xs ys : List D} {R : D → Prop} : xEqC n (.lst xs) (.lst ys) R = (SeqAt.shaped (.list (pys xs)) = true ∧ SeqAt.shaped (.list (pys ys)) = true ∧ R (.bl (n ^^ PyData.eqvAll (pys xs) (pys ys)))) := rfl
def k_xCh5 (R : D → List Sl → Prop) (E : List Sl) (d : D) : Prop := R d E
theorem k_xCh5_ap {R : D → List Sl → Prop} {E : List Sl} {d : D} : k_xCh5 R E d = R d E := rfl
def k_xCh4 (x3 : X2) (b : D) (R : D → List Sl → Prop) (c : D) (E3 : List Sl) : Prop := x3 b c (k_xCh5 R E3)
theorem k_xCh4_ap {x3 : X2} {b : D} {R : D → List Sl → Prop} {c : D} {E3 : List Sl} : k_xCh4 x3 b R c E3 = x3 b c (k_xCh5 R E3) := rfl
def k_xCh3 (x3 : X2) (xc : XE) (b : D) (E2 : List Sl) (R : D → List Sl → Prop) (k : Bool) : Prop := selB k (kX xc E2 (k_xCh4 x3 b R)) (kRD (.bl false) E2 R)
theorem k_xCh3_ap {x3 : X2} {xc : XE} {b : D} {E2 : List Sl} {R : D → List Sl → Prop} {k : Bool} : k_xCh3 x3 xc b E2 R k = selB k (kX xc E2 (k_xCh4 x3 b R)) (kRD (.bl false) E2 R) := rfl
def k_xCh2b (x3 : X2) (xc : XE) (b : D) (E2 : List Sl) (R : D → List Sl → Prop) (d : D) : Prop := selBl d (k_xCh3 x3 xc b E2 R)
theorem k_xCh2b_ap {x3 : X2} {xc : XE} {b : D} {E2 : List Sl} {R : D → List Sl → Prop} {d : D} : k_xCh2b x3 xc b E2 R d = selBl d (k_xCh3 x3 xc b E2 R) := rfl
def k_xCh2 (x2 x3 : X2) (xc : XE) (R : D → List Sl → Prop) (a b : D) (E2 : List Sl) : Prop := x2 a b (k_xCh2b x3 xc b E2 R)
theorem k_xCh2_ap {x2 x3 : X2} {xc : XE} {R : D → List Sl → Prop} {a b : D} {E2 : List Sl} : k_xCh2 x2 x3 xc R a b E2 = x2 a b (k_xCh2b x3 xc b E2 R) := rfl
def k_xCh1 (x2 x3 : X2) (xb xc : XE) (R : D → List Sl → Prop) (a : D) (E1 : List Sl) : Prop := xb E1 (k_xCh2 x2 x3 xc R a)
theorem k_xCh1_ap {x2 x3 : X2} {xb xc : XE} {R : D → List Sl → Prop} {a : D} {E1 : List Sl} : k_xCh1 x2 x3 xb xc R a E1 = xb E1 (k_xCh2 x2 x3 xc R a) := rfl
theorem xChain_ap {x2 x3 : X2} {xa xb xc : XE} {E : List Sl} {R : D → List Sl → Prop} : xChain x2 x3 xa xb xc E R = xa E (k_xCh1 x2 x3 xb xc R) := rfl
theorem xIx_lst {xs : List D} {i : Int} {R : D → Prop} : xIx (.lst xs) (.int i) R = getD xs i R := rfl
theorem xIx_tup {xs : List D} {i : Int} {R : D → Prop} : xIx (.tup xs) (.int i) R = getD xs i R := rfl
def k_xIxP2 (R : D → List Sl → Prop) (E1 : List Sl) (c : D) : Prop := R c E1
theorem k_xIxP2_ap {R : D → List Sl → Prop} {E1 : List Sl} {c : D} : k_xIxP2 R E1 c = (R c E1) := rfl
def k_xIxP1 (ix : Nat) (R : D → List Sl → Prop) (b : D) (E1 : List Sl) : Prop := selIx (nth E1 ix) b (k_xIxP2 R E1)
theorem k_xIxP1_ap {ix : Nat} {R : D → List Sl → Prop} {b : D} {E1 : List Sl} : k_xIxP1 ix R b E1 = (selIx (nth E1 ix) b (k_xIxP2 R E1)) := rfl
theorem xIxP_ap {ix : Nat} {xb : XE} {E : List Sl} {R : D → List Sl → Prop} : xIxP ix xb E R = (nth E ix ≠ .un ∧ xb E (k_xIxP1 ix R)) := rfl
def k_xIx2V5 (R : D → List Sl → Prop) (E : List Sl) (c : D) : Prop := R c E
theorem k_xIx2V5_ap {R : D → List Sl → Prop} {E : List Sl} {c : D} : k_xIx2V5 R E c = (R c E) := rfl
def k_xIx2V4 (q : Int) (R : D → List Sl → Prop) (E : List Sl) (n : Nat) (ds : List D) : Prop := getD ds q (k_xIx2V5 R E)
theorem k_xIx2V4_ap {q : Int} {R : D → List Sl → Prop} {E : List Sl} {n : Nat} {ds : List D} : k_xIx2V4 q R E n ds = (getD ds q (k_xIx2V5 R E)) := rfl
def k_xIx2V3 (dss : List (List D)) (p : Int) (R : D → List Sl → Prop) (E : List Sl) (q : Int) : Prop := rowD dss p (k_xIx2V4 q R E)
theorem k_xIx2V3_ap {dss : List (List D)} {p : Int} {R : D → List Sl → Prop} {E : List Sl} {q : Int} : k_xIx2V3 dss p R E q = (rowD dss p (k_xIx2V4 q R E)) := rfl
def k_xIx2V2 (E : List Sl) (jx : Nat) (dss : List (List D)) (R : D → List Sl → Prop) (p : Int) : Prop := selVI (nth E jx) (k_xIx2V3 dss p R E)
theorem k_xIx2V2_ap {E : List Sl} {jx : Nat} {dss : List (List D)} {R : D → List Sl → Prop} {p : Int} : k_xIx2V2 E jx dss R p = (selVI (nth E jx) (k_xIx2V3 dss p R E)) := rfl
def k_xIx2V1 (E : List Sl) (k : Nat) (jx : Nat) (R : D → List Sl → Prop) (io : Bool) (dss : List (List D)) : Prop := selVI (nth E k) (k_xIx2V2 E jx dss R)
theorem k_xIx2V1_ap {E : List Sl} {k : Nat} {jx : Nat} {R : D → List Sl → Prop} {io : Bool} {dss : List (List D)} : k_xIx2V1 E k jx R io dss = (selVI (nth E k) (k_xIx2V2 E jx dss R)) := rfl
theorem xIx2V_ap {ix : Nat} {k : Nat} {jx : Nat} {E : List Sl} {R : D → List Sl → Prop} : xIx2V ix k jx E R = (selLls (nth E ix) (k_xIx2V1 E k jx R)) := rfl
def k_xSet26 (XD : XEnds) (E1 : List Sl) (ix : Nat) (io : Bool) (dss : List (List D)) (n : Nat) (ds : List D) (d : D) (m : Nat) : Prop := XD.nx (put E1 ix (.own io (.lls (dss.set n (ds.set m d)))))
theorem k_xSet26_ap {XD : XEnds} {E1 : List Sl} {ix : Nat} {io : Bool} {dss : List (List D)} {n : Nat} {ds : List D} {d : D} {m : Nat} : k_xSet26 XD E1 ix io dss n ds d m = (XD.nx (put E1 ix (.own io (.lls (dss.set n (ds.set m d)))))) := rfl
def k_xSet25 (q : Int) (XD : XEnds) (E1 : List Sl) (ix : Nat) (io : Bool) (dss : List (List D)) (d : D) (n : Nat) (ds : List D) : Prop := selX ds.length q (k_xSet26 XD E1 ix io dss n ds d)
theorem k_xSet25_ap {q : Int} {XD : XEnds} {E1 : List Sl} {ix : Nat} {io : Bool} {dss : List (List D)} {d : D} {n : Nat} {ds : List D} : k_xSet25 q XD E1 ix io dss d n ds = (selX ds.length q (k_xSet26 XD E1 ix io dss n ds d)) := rfl
def k_xSet24 (dss : List (List D)) (p : Int) (XD : XEnds) (E1 : List Sl) (ix : Nat) (io : Bool) (d : D) (q : Int) : Prop := rowD dss p (k_xSet25 q XD E1 ix io dss d)
theorem k_xSet24_ap {dss : List (List D)} {p : Int} {XD : XEnds} {E1 : List Sl} {ix : Nat} {io : Bool} {d : D} {q : Int} : k_xSet24 dss p XD E1 ix io d q = (rowD dss p (k_xSet25 q XD E1 ix io dss d)) := rfl
def k_xSet23 (E1 : List Sl) (jx : Nat) (dss : List (List D)) (XD : XEnds) (ix : Nat) (io : Bool) (d : D) (p : Int) : Prop := selVI (nth E1 jx) (k_xSet24 dss p XD E1 ix io d)
theorem k_xSet23_ap {E1 : List Sl} {jx : Nat} {dss : List (List D)} {XD : XEnds} {ix : Nat} {io : Bool} {d : D} {p : Int} : k_xSet23 E1 jx dss XD ix io d p = (selVI (nth E1 jx) (k_xSet24 dss p XD E1 ix io d)) := rfl
def k_xSet22 (E1 : List Sl) (k : Nat) (jx : Nat) (XD : XEnds) (ix : Nat) (d : D) (io : Bool) (dss : List (List D)) : Prop := selVI (nth E1 k) (k_xSet23 E1 jx dss XD ix io d)
theorem k_xSet22_ap {E1 : List Sl} {k : Nat} {jx : Nat} {XD : XEnds} {ix : Nat} {d : D} {io : Bool} {dss : List (List D)} : k_xSet22 E1 k jx XD ix d io dss = (selVI (nth E1 k) (k_xSet23 E1 jx dss XD ix io d)) := rfl
def k_xSet21 (ix : Nat) (k : Nat) (jx : Nat) (XD : XEnds) (d : D) (E1 : List Sl) : Prop := selLls (nth E1 ix) (k_xSet22 E1 k jx XD ix d)
theorem k_xSet21_ap {ix : Nat} {k : Nat} {jx : Nat} {XD : XEnds} {d : D} {E1 : List Sl} : k_xSet21 ix k jx XD d E1 = (selLls (nth E1 ix) (k_xSet22 E1 k jx XD ix d)) := rfl
theorem xSet2_ap {ix : Nat} {k : Nat} {jx : Nat} {xa : XE} {XD : XEnds} {E : List Sl} : xSet2 ix k jx xa XD E = (xa E (k_xSet21 ix k jx XD)) := rfl
def k_xSetRow5 (XD : XEnds) (E1 : List Sl) (ix : Nat) (io : Bool) (dss : List (List D)) (ds : List D) (n : Nat) : Prop := XD.nx (put E1 ix (.own io (.lls (dss.set n ds))))
theorem k_xSetRow5_ap {XD : XEnds} {E1 : List Sl} {ix : Nat} {io : Bool} {dss : List (List D)} {ds : List D} {n : Nat} : k_xSetRow5 XD E1 ix io dss ds n = (XD.nx (put E1 ix (.own io (.lls (dss.set n ds))))) := rfl
def k_xSetRow4 (dss : List (List D)) (XD : XEnds) (E1 : List Sl) (ix : Nat) (io : Bool) (ds : List D) (p : Int) : Prop := selX dss.length p (k_xSetRow5 XD E1 ix io dss ds)
theorem k_xSetRow4_ap {dss : List (List D)} {XD : XEnds} {E1 : List Sl} {ix : Nat} {io : Bool} {ds : List D} {p : Int} : k_xSetRow4 dss XD E1 ix io ds p = (selX dss.length p (k_xSetRow5 XD E1 ix io dss ds)) := rfl
def k_xSetRow3 (E1 : List Sl) (k : Nat) (XD : XEnds) (ix : Nat) (ds : List D) (io : Bool) (dss : List (List D)) : Prop := io = false ∧ selVI (nth E1 k) (k_xSetRow4 dss XD E1 ix io ds)
theorem k_xSetRow3_ap {E1 : List Sl} {k : Nat} {XD : XEnds} {ix : Nat} {ds : List D} {io : Bool} {dss : List (List D)} : k_xSetRow3 E1 k XD ix ds io dss = (io = false ∧ selVI (nth E1 k) (k_xSetRow4 dss XD E1 ix io ds)) := rfl
def k_xSetRow2 (E1 : List Sl) (ix : Nat) (k : Nat) (XD : XEnds) (ds : List D) : Prop := selLls (nth E1 ix) (k_xSetRow3 E1 k XD ix ds)
theorem k_xSetRow2_ap {E1 : List Sl} {ix : Nat} {k : Nat} {XD : XEnds} {ds : List D} : k_xSetRow2 E1 ix k XD ds = (selLls (nth E1 ix) (k_xSetRow3 E1 k XD ix ds)) := rfl
def k_xSetRow1 (ix : Nat) (k : Nat) (XD : XEnds) (d : D) (E1 : List Sl) : Prop := selL d (k_xSetRow2 E1 ix k XD)
theorem k_xSetRow1_ap {ix : Nat} {k : Nat} {XD : XEnds} {d : D} {E1 : List Sl} : k_xSetRow1 ix k XD d E1 = (selL d (k_xSetRow2 E1 ix k XD)) := rfl
theorem xSetRow_ap {ix : Nat} {k : Nat} {xa : XE} {XD : XEnds} {E : List Sl} : xSetRow ix k xa XD E = (xa E (k_xSetRow1 ix k XD)) := rfl
theorem xNoPart_ap {E : List Sl} {RO : Option Int → List Sl → Prop} : xNoPart E RO = (RO none E) := rfl
def k_xPart2 (RO : Option Int → List Sl → Prop) (E1 : List Sl) (i : Int) : Prop := RO (some i) E1
theorem k_xPart2_ap {RO : Option Int → List Sl → Prop} {E1 : List Sl} {i : Int} : k_xPart2 RO E1 i = (RO (some i) E1) := rfl
def k_xPart1 (RO : Option Int → List Sl → Prop) (d : D) (E1 : List Sl) : Prop := selI d (k_xPart2 RO E1)
theorem k_xPart1_ap {RO : Option Int → List Sl → Prop} {d : D} {E1 : List Sl} : k_xPart1 RO d E1 = (selI d (k_xPart2 RO E1)) := rfl
theorem xPart_ap {x : XE} {E : List Sl} {RO : Option Int → List Sl → Prop} : xPart x E RO = (x E (k_xPart1 RO)) := rfl
def k_xSl4 (R : D → List Sl → Prop) (E3 : List Sl) (c : D) : Prop := R c E3
theorem k_xSl4_ap {R : D → List Sl → Prop} {E3 : List Sl} {c : D} : k_xSl4 R E3 c = (R c E3) := rfl
def k_xSl3 (d : D) (lo : Option Int) (R : D → List Sl → Prop) (hi : Option Int) (E3 : List Sl) : Prop := selSz d lo hi (k_xSl4 R E3)
theorem k_xSl3_ap {d : D} {lo : Option Int} {R : D → List Sl → Prop} {hi : Option Int} {E3 : List Sl} : k_xSl3 d lo R hi E3 = (selSz d lo hi (k_xSl4 R E3)) := rfl
def k_xSl2 (xh : XO) (d : D) (R : D → List Sl → Prop) (lo : Option Int) (E2 : List Sl) : Prop := xh E2 (k_xSl3 d lo R)
theorem k_xSl2_ap {xh : XO} {d : D} {R : D → List Sl → Prop} {lo : Option Int} {E2 : List Sl} : k_xSl2 xh d R lo E2 = (xh E2 (k_xSl3 d lo R)) := rfl
def k_xSl1 (xl : XO) (xh : XO) (R : D → List Sl → Prop) (d : D) (E1 : List Sl) : Prop := xl E1 (k_xSl2 xh d R)
theorem k_xSl1_ap {xl : XO} {xh : XO} {R : D → List Sl → Prop} {d : D} {E1 : List Sl} : k_xSl1 xl xh R d E1 = (xl E1 (k_xSl2 xh d R)) := rfl
theorem xSl_ap {x : XE} {xl : XO} {xh : XO} {E : List Sl} {R : D → List Sl → Prop} : xSl x xl xh E R = (x E (k_xSl1 xl xh R)) := rfl
theorem xLen_lst {xs : List D} {R : D → Prop} : xLen [.lst xs] R = R (.int xs.length) := rfl
theorem xLen_tup {xs : List D} {R : D → Prop} : xLen [.tup xs] R = R (.int xs.length) := rfl
theorem xLen_dK {ks : List Key} {vs : List D} {R : D → Prop} : xLen [.dK ks vs] R = R (.int ks.length) := rfl
theorem xLen_str {s : Str} {R : D → Prop} : xLen [.str s] R = (s.length ≤ 16777216 ∧ R (.int s.length)) := rfl
theorem xTupleOf_lst {xs : List D} {R : D → Prop} : xTupleOf [.lst xs] R = R (.tup xs) := rfl
theorem xTupleOf_tup {xs : List D} {R : D → Prop} : xTupleOf [.tup xs] R = R (.tup xs) := rfl
theorem xListOf_lst {xs : List D} {R : D → Prop} : xListOf [.lst xs] R = R (.lst xs) := rfl
theorem xListOf_tup {xs : List D} {R : D → Prop} : xListOf [.tup xs] R = R (.lst xs) := rfl
theorem xAbs_ap {i : Int} {R : D → Prop} : xAbs [.int i] R = R (.int (if i < 0 then -i else i)) := rfl
theorem xInt1_int {i : Int} {R : D → Prop} : xInt1 [.int i] R = R (.int i) := rfl
theorem xInt1_bl {b : Bool} {R : D → Prop} : xInt1 [.bl b] R = R (.int (if b then 1 else 0)) := rfl
theorem xMax2_ap {i j : Int} {R : D → Prop} : xMax2 [.int i, .int j] R = R (.int (if j > i then j else i)) := rfl
theorem xMin2_ap {i j : Int} {R : D → Prop} : xMin2 [.int i, .int j] R = R (.int (if j < i then j else i)) := rfl
theorem onInts_map {x : List Int → (D → Prop) → Prop} {α : Type} {f : α → Int} {l : List α} {R : D → Prop} : onInts x [.lst (l.map fun a => D.int (f a))] R = x (l.map f) R := by
  have h := intsOf_map (l.map f)
  rw [List.map_map] at h
  show (match intsOf (l.map fun a => D.int (f a)) with | some ns => x ns R | none => False) = _
  rw [show (l.map fun a => D.int (f a)) = l.map (D.int ∘ f) from rfl, h]
theorem onInts_mapT {x : List Int → (D → Prop) → Prop} {α : Type} {f : α → Int} {l : List α} {R : D → Prop} : onInts x [.tup (l.map fun a => D.int (f a))] R = x (l.map f) R := onInts_map (R := R)
theorem onBools_map {x : List Bool → (D → Prop) → Prop} {α : Type} {f : α → Bool} {l : List α} {R : D → Prop} : onBools x [.lst (l.map fun a => D.bl (f a))] R = x (l.map f) R := by
  have h := boolsOf_map (l.map f)
  rw [List.map_map] at h
  show (match boolsOf (l.map fun a => D.bl (f a)) with | some ns => x ns R | none => False) = _
  rw [show (l.map fun a => D.bl (f a)) = l.map (D.bl ∘ f) from rfl, h]
theorem xAll_map {α : Type} {f : α → Bool} {l : List α} {R : D → Prop} : xAll [.lst (l.map fun a => D.bl (f a))] R = R (.bl (l.all f)) := by
  unfold xAll
  rw [onBools_map]
  simp [Function.comp_def]
theorem xAny_map {α : Type} {f : α → Bool} {l : List α} {R : D → Prop} : xAny [.lst (l.map fun a => D.bl (f a))] R = R (.bl (l.any f)) := by
  unfold xAny
  rw [onBools_map]
  simp [Function.comp_def]
theorem xSum_map {α : Type} {f : α → Int} {l : List α} {R : D → Prop} : xSum [.lst (l.map fun a => D.int (f a))] R = R (.int (l.map f).sum) := by
  unfold xSum
  rw [onInts_map]
/-- the least of them -/
def lmn : List Int → Int
  | [] => 0
  | n :: r => lmin n r
theorem xSum_mapT {α : Type} {f : α → Int} {l : List α} {R : D → Prop} : xSum [.tup (l.map fun a => D.int (f a))] R = R (.int (l.map f).sum) := by
  unfold xSum
  rw [onInts_mapT]
theorem xMin_mapT {α : Type} {f : α → Int} {l : List α} {R : D → Prop} (h : l ≠ []) : xMin [.tup (l.map fun a => D.int (f a))] R = R (.int (lmn (l.map f))) := by
  unfold xMin
  rw [onInts_mapT]
  cases l with
  | nil => exact absurd rfl h
  | cons a l => rfl
/-- the greatest of them -/
def lmx : List Int → Int
  | [] => 0
  | n :: r => lmax n r
theorem xMax_map {α : Type} {f : α → Int} {l : List α} {R : D → Prop} (h : l ≠ []) : xMax [.lst (l.map fun a => D.int (f a))] R = R (.int (lmx (l.map f))) := by
  unfold xMax
  rw [onInts_map]
  cases l with
  | nil => exact absurd rfl h
  | cons a l => rfl
theorem xMax_mapT {α : Type} {f : α → Int} {l : List α} {R : D → Prop} (h : l ≠ []) : xMax [.tup (l.map fun a => D.int (f a))] R = R (.int (lmx (l.map f))) := by
  unfold xMax
  rw [onInts_mapT]
  cases l with
  | nil => exact absurd rfl h
  | cons a l => rfl
theorem lmx_le {l : List Int} {x : Int} (h : x ∈ l) : x ≤ lmx l := by
  cases l with
  | nil => cases h
  | cons n r =>
    obtain ⟨h1, h2⟩ := lmax_le r n
    rcases List.mem_cons.mp h with e | e
    · subst e; exact h1
    · exact h2 x e
theorem lmx_mem {l : List Int} (h : l ≠ []) : lmx l ∈ l := by
  cases l with
  | nil => exact absurd rfl h
  | cons n r => exact lmax_mem r n
theorem xMin_map {α : Type} {f : α → Int} {l : List α} {R : D → Prop} (h : l ≠ []) : xMin [.lst (l.map fun a => D.int (f a))] R = R (.int (lmn (l.map f))) := by
  unfold xMin
  rw [onInts_map]
  cases l with
  | nil => exact absurd rfl h
  | cons a l => rfl
theorem lmn_le {l : List Int} {x : Int} (h : x ∈ l) : lmn l ≤ x := by
  cases l with
  | nil => cases h
  | cons n r =>
    obtain ⟨h1, h2⟩ := lmin_le r n
    rcases List.mem_cons.mp h with e | e
    · subst e; exact h1
    · exact h2 x e
theorem lmn_mem {l : List Int} (h : l ≠ []) : lmn l ∈ l := by
  cases l with
  | nil => exact absurd rfl h
  | cons n r => exact lmin_mem r n
def k_xAppend3 (R : D → List Sl → Prop) (E1 : List Sl) (ix : Nat) (d : D) (io : Bool) (ds : List D) : Prop := ds.length < 16777216 ∧ R .non (put E1 ix (.own io (.lst (ds ++ [d]))))
theorem k_xAppend3_ap {R : D → List Sl → Prop} {E1 : List Sl} {ix : Nat} {d : D} {io : Bool} {ds : List D} : k_xAppend3 R E1 ix d io ds = (ds.length < 16777216 ∧ R .non (put E1 ix (.own io (.lst (ds ++ [d]))))) := rfl
def k_xAppend2 (ix : Nat) (R : D → List Sl → Prop) (d : D) (E1 : List Sl) : Prop := selOL (nth E1 ix) (k_xAppend3 R E1 ix d)
theorem k_xAppend2_ap {ix : Nat} {R : D → List Sl → Prop} {d : D} {E1 : List Sl} : k_xAppend2 ix R d E1 = (selOL (nth E1 ix) (k_xAppend3 R E1 ix d)) := rfl
def k_xAppend1 (x : XE) (E : List Sl) (ix : Nat) (R : D → List Sl → Prop) (io : Bool) (xs : List D) : Prop := x E (k_xAppend2 ix R)
theorem k_xAppend1_ap {x : XE} {E : List Sl} {ix : Nat} {R : D → List Sl → Prop} {io : Bool} {xs : List D} : k_xAppend1 x E ix R io xs = (x E (k_xAppend2 ix R)) := rfl
theorem xAppend_ap {ix : Nat} {x : XE} {E : List Sl} {R : D → List Sl → Prop} : xAppend ix x E R = (selOL (nth E ix) (k_xAppend1 x E ix R)) := rfl
def k_xExtend4 (ds : List D) (R : D → List Sl → Prop) (E1 : List Sl) (ix : Nat) (io : Bool) (es : List D) : Prop := ds.length + es.length ≤ 16777216 ∧ R .non (put E1 ix (.own io (.lst (ds ++ es))))
theorem k_xExtend4_ap {ds : List D} {R : D → List Sl → Prop} {E1 : List Sl} {ix : Nat} {io : Bool} {es : List D} : k_xExtend4 ds R E1 ix io es = (ds.length + es.length ≤ 16777216 ∧ R .non (put E1 ix (.own io (.lst (ds ++ es))))) := rfl
def k_xExtend3 (d : D) (R : D → List Sl → Prop) (E1 : List Sl) (ix : Nat) (io : Bool) (ds : List D) : Prop := selL d (k_xExtend4 ds R E1 ix io)
theorem k_xExtend3_ap {d : D} {R : D → List Sl → Prop} {E1 : List Sl} {ix : Nat} {io : Bool} {ds : List D} : k_xExtend3 d R E1 ix io ds = (selL d (k_xExtend4 ds R E1 ix io)) := rfl
def k_xExtend2 (ix : Nat) (R : D → List Sl → Prop) (d : D) (E1 : List Sl) : Prop := selOL (nth E1 ix) (k_xExtend3 d R E1 ix)
theorem k_xExtend2_ap {ix : Nat} {R : D → List Sl → Prop} {d : D} {E1 : List Sl} : k_xExtend2 ix R d E1 = (selOL (nth E1 ix) (k_xExtend3 d R E1 ix)) := rfl
def k_xExtend1 (x : XE) (E : List Sl) (ix : Nat) (R : D → List Sl → Prop) (io : Bool) (xs : List D) : Prop := x E (k_xExtend2 ix R)
theorem k_xExtend1_ap {x : XE} {E : List Sl} {ix : Nat} {R : D → List Sl → Prop} {io : Bool} {xs : List D} : k_xExtend1 x E ix R io xs = (x E (k_xExtend2 ix R)) := rfl
theorem xExtend_ap {ix : Nat} {x : XE} {E : List Sl} {R : D → List Sl → Prop} : xExtend ix x E R = (selOL (nth E ix) (k_xExtend1 x E ix R)) := rfl
def k_xRev1 (R : D → List Sl → Prop) (E : List Sl) (ix : Nat) (io : Bool) (ds : List D) : Prop := R .non (put E ix (.own io (.lst ds.reverse)))
theorem k_xRev1_ap {R : D → List Sl → Prop} {E : List Sl} {ix : Nat} {io : Bool} {ds : List D} : k_xRev1 R E ix io ds = (R .non (put E ix (.own io (.lst ds.reverse)))) := rfl
theorem xRev_ap {ix : Nat} {E : List Sl} {R : D → List Sl → Prop} : xRev ix E R = (selOL (nth E ix) (k_xRev1 R E ix)) := rfl
def k_xSetIx6 (XD : XEnds) (E2 : List Sl) (k : Nat) (io : Bool) (ds : List D) (d : D) (n : Nat) : Prop := XD.nx (put E2 k (.own io (.lst (ds.set n d))))
theorem k_xSetIx6_ap {XD : XEnds} {E2 : List Sl} {k : Nat} {io : Bool} {ds : List D} {d : D} {n : Nat} : k_xSetIx6 XD E2 k io ds d n = (XD.nx (put E2 k (.own io (.lst (ds.set n d))))) := rfl
def k_xSetIx5 (ds : List D) (XD : XEnds) (E2 : List Sl) (k : Nat) (io : Bool) (d : D) (j : Int) : Prop := selX ds.length j (k_xSetIx6 XD E2 k io ds d)
theorem k_xSetIx5_ap {ds : List D} {XD : XEnds} {E2 : List Sl} {k : Nat} {io : Bool} {d : D} {j : Int} : k_xSetIx5 ds XD E2 k io d j = (selX ds.length j (k_xSetIx6 XD E2 k io ds d)) := rfl
def k_xSetIx4 (c : D) (XD : XEnds) (E2 : List Sl) (k : Nat) (d : D) (io : Bool) (ds : List D) : Prop := selI c (k_xSetIx5 ds XD E2 k io d)
theorem k_xSetIx4_ap {c : D} {XD : XEnds} {E2 : List Sl} {k : Nat} {d : D} {io : Bool} {ds : List D} : k_xSetIx4 c XD E2 k d io ds = (selI c (k_xSetIx5 ds XD E2 k io d)) := rfl
def k_xSetIx3 (k : Nat) (XD : XEnds) (d : D) (c : D) (E2 : List Sl) : Prop := selOL (nth E2 k) (k_xSetIx4 c XD E2 k d)
theorem k_xSetIx3_ap {k : Nat} {XD : XEnds} {d : D} {c : D} {E2 : List Sl} : k_xSetIx3 k XD d c E2 = (selOL (nth E2 k) (k_xSetIx4 c XD E2 k d)) := rfl
def k_xSetIx2 (xa : XE) (E1 : List Sl) (k : Nat) (XD : XEnds) (d : D) (io : Bool) (xs : List D) : Prop := xa E1 (k_xSetIx3 k XD d)
theorem k_xSetIx2_ap {xa : XE} {E1 : List Sl} {k : Nat} {XD : XEnds} {d : D} {io : Bool} {xs : List D} : k_xSetIx2 xa E1 k XD d io xs = (xa E1 (k_xSetIx3 k XD d)) := rfl
def k_xSetIx1 (k : Nat) (xa : XE) (XD : XEnds) (d : D) (E1 : List Sl) : Prop := selOL (nth E1 k) (k_xSetIx2 xa E1 k XD d)
theorem k_xSetIx1_ap {k : Nat} {xa : XE} {XD : XEnds} {d : D} {E1 : List Sl} : k_xSetIx1 k xa XD d E1 = (selOL (nth E1 k) (k_xSetIx2 xa E1 k XD d)) := rfl
theorem xSetIx_ap {k : Nat} {xa : XE} {xb : XE} {XD : XEnds} {E : List Sl} : xSetIx k xa xb XD E = (xb E (k_xSetIx1 k xa XD)) := rfl
def kTr (_ : List D) : Prop := True
theorem kTr_ap {ds : List D} : kTr ds = True := rfl
def k_isL (d : D) : Prop := selL d kTr
theorem k_isL_ap {d : D} : k_isL d = selL d kTr := rfl
def k_xIndexP3 (R : D → List Sl → Prop) (E1 : List Sl) (d : D) : Prop := R d E1
theorem k_xIndexP3_ap {R : D → List Sl → Prop} {E1 : List Sl} {d : D} : k_xIndexP3 R E1 d = (R d E1) := rfl
def k_xIndexP2 (y : D) (R : D → List Sl → Prop) (E1 : List Sl) (a : D) : Prop := idxD a y (k_xIndexP3 R E1)
theorem k_xIndexP2_ap {y : D} {R : D → List Sl → Prop} {E1 : List Sl} {a : D} : k_xIndexP2 y R E1 a = (idxD a y (k_xIndexP3 R E1)) := rfl
def k_xIndexP1 (ix : Nat) (R : D → List Sl → Prop) (y : D) (E1 : List Sl) : Prop := pk E1 ix (k_xIndexP2 y R E1)
theorem k_xIndexP1_ap {ix : Nat} {R : D → List Sl → Prop} {y : D} {E1 : List Sl} : k_xIndexP1 ix R y E1 = (pk E1 ix (k_xIndexP2 y R E1)) := rfl
theorem xIndexP_ap {ix : Nat} {x : XE} {E : List Sl} {R : D → List Sl → Prop} : xIndexP ix x E R = (pk E ix k_isL ∧ x E (k_xIndexP1 ix R)) := rfl
theorem xRange1_ap {i : Int} {R : D → Prop} : xRange1 [.int i] R = R (.rng 0 i) := rfl
/-! indices -/
theorem getD_nat {xs : List D} {i : Nat} {d : D} {R : D → Prop} (h : xs[i]? = some d) : getD xs (i : Int) R = R d := by
  have hl : i < xs.length := (List.getElem?_eq_some_iff.mp h).1
  unfold getD L2.atI
  rw [ixN_nat hl]
  show (match xs[i]? with | some d => R d | none => False) = _
  rw [h]
theorem getD_rng {f : Nat → D} {n i : Nat} {R : D → Prop} (h : i < n) : getD ((List.range n).map f) (i : Int) R = R (f i) :=
  getD_nat (by rw [List.getElem?_map, List.getElem?_range h]; rfl)
theorem getD_last {f : Nat → D} {n : Nat} {R : D → Prop} : getD ((List.range (n + 1)).map f) (-1) R = R (f n) := by
  unfold getD L2.atI
  rw [List.length_map, List.length_range, ixN_last]
  show (match ((List.range (n + 1)).map f)[n]? with | some d => R d | none => False) = _
  rw [List.getElem?_map, List.getElem?_range (Nat.lt_succ_self n)]
  rfl
theorem getD_zero {x : D} {xs : List D} {R : D → Prop} : getD (x :: xs) 0 R = R x := getD_nat (i := 0) rfl
theorem getD_one {x y : D} {xs : List D} {R : D → Prop} : getD (x :: y :: xs) 1 R = R y := getD_nat (i := 1) rfl
theorem getD_two {x y z : D} {xs : List D} {R : D → Prop} : getD (x :: y :: z :: xs) 2 R = R z := getD_nat (i := 2) rfl
theorem getD_rng0 {f : Nat → D} {n : Nat} {R : D → Prop} (h : 0 < n) : getD ((List.range n).map f) 0 R = R (f 0) := getD_rng (i := 0) h
theorem rowD_rng {f : Nat → List D} {n i : Nat} {k : Nat → List D → Prop} (h : i < n) : rowD ((List.range n).map f) (i : Int) k = k i (f i) := by
  unfold rowD
  rw [List.length_map, List.length_range, ixN_nat h]
  simp [List.getElem?_range h]
theorem sm_nat {n : Nat} (h : n < 2 ^ 62) : Sm (n : Int) := ⟨by omega, by omega⟩
/-! ### loops -/
/-- a slot that holds nothing of one's own -/
def fre (s : Sl) : Prop := s = .un ∨ ∃ d, s = .val d
theorem fre_un : fre .un := .inl rfl
theorem fre_val {d : D} : fre (.val d) := .inr ⟨d, rfl⟩
theorem selN_fre {s : Sl} {P : Prop} (h : fre s) : selN s P = P := by
  rcases h with h | ⟨d, h⟩ <;> subst h <;> rfl
theorem selO_fre {s : Sl} {k : Unit → Prop} (h : fre s) : selO s k = k () := by
  rcases h with h | ⟨d, h⟩ <;> subst h <;> rfl
def k_st (xb : XS) (XD : XEnds) (E : List Sl) : Prop := xb XD E
theorem k_st_ap {xb : XS} {XD : XEnds} {E : List Sl} : k_st xb XD E = xb XD E := rfl
def k_xe (xe : XE) (k : D → List Sl → Prop) (E : List Sl) : Prop := xe E k
theorem k_xe_ap {xe : XE} {k : D → List Sl → Prop} {E : List Sl} : k_xe xe k E = xe E k := rfl
def kU (kf : List Sl → Prop) (E : List Sl) (_ : Unit) : Prop := kf E
theorem kU_ap {kf : List Sl → Prop} {E : List Sl} {u : Unit} : kU kf E u = kf E := rfl
def k_lcB (xe : XE) (k : D → List Sl → Prop) (kf : List Sl → Prop) (b : Bool) (E2 : List Sl) : Prop := selB b (kX xe E2 k) (kU kf E2)
theorem k_lcB_ap {xe : XE} {k : D → List Sl → Prop} {kf : List Sl → Prop} {b : Bool} {E2 : List Sl} : k_lcB xe k kf b E2 = selB b (kX xe E2 k) (kU kf E2) := rfl
def k_lcT (xt : XT) (xe : XE) (k : D → List Sl → Prop) (kf : List Sl → Prop) (E1 : List Sl) : Prop := xt E1 (k_lcB xe k kf)
theorem k_lcT_ap {xt : XT} {xe : XE} {k : D → List Sl → Prop} {kf : List Sl → Prop} {E1 : List Sl} : k_lcT xt xe k kf E1 = xt E1 (k_lcB xe k kf) := rfl
/-- a loop that goes through the data e 0, .., e (n - 1), with what holds between the turns -/
theorem for_rng {g : XG} {xb : XS} {XD : XEnds} {e : Nat → D} {n : Nat} {E : List Sl} (I : Nat → List Sl → Prop) (h0 : I 0 E)
    (hs : ∀ i, i < n → ∀ E, I i E → ∀ nx : List Sl → Prop, (∀ E', I (i + 1) E' → nx E') → g (e i) E (k_st xb { nx := nx, rt := XD.rt, bk := XD.nx, ct := nx }))
    (he : ∀ E, I n E → XD.nx E) : xForL g xb XD ((List.range n).map e) E := by
  have main : ∀ m i E, i + m = n → I i E → xForL g xb XD ((List.range' i m).map e) E := by
    intro m
    induction m with
    | zero => intro i E hi h; exact he E (by have : i = n := by omega
                                             rw [← this]; exact h)
    | succ m ih =>
      intro i E hi h
      exact hs i (by omega) E h _ fun E' h' => ih (i + 1) E' (by omega) h'
  have := main n 0 E (by omega) h0
  rw [← List.range_eq_range'] at this
  exact this
theorem for_mem {g : XG} {xb : XS} {XD : XEnds} {E : List Sl} (I : List Sl → Prop) : ∀ {ds : List D}, I E →
    (∀ d ∈ ds, ∀ E, I E → ∀ nx : List Sl → Prop, (∀ E', I E' → nx E') → g d E (k_st xb { nx := nx, rt := XD.rt, bk := XD.nx, ct := nx })) →
    (∀ E, I E → XD.nx E) → xForL g xb XD ds E := by
  intro ds
  induction ds generalizing E with
  | nil => intro h0 _ he; exact he E h0
  | cons d ds ih => intro h0 hs he; exact hs d List.mem_cons_self E h0 _ fun E' h' => ih h' (fun d hd => hs d (List.mem_cons_of_mem _ hd)) he
/-- what a turn of a comprehension may leave -/
def okE (E E' : List Sl) (vs : List Nat) : Prop := wipeE E' vs = E ∧ ∀ P : Prop, P → noOwn E' vs P
/-- [f a for a in ..]: nothing else changes -/
theorem lc_map {α : Type} {g : XG} {xe : XE} {vs : List Nat} {R : List D → List Sl → Prop} {e : α → D} (f : α → D) : ∀ {l : List α} {acc : List D} {E : List Sl},
    (∀ a, a ∈ l → ∀ k : D → List Sl → Prop, (∀ E', okE E E' vs → k (f a) E') → g (e a) E (k_xe xe k)) → acc.length + l.length ≤ 16777216 → R (acc ++ l.map f) E → xLcL g xYes xe vs R (l.map e) acc E := by
  intro l
  induction l with
  | nil => intro acc E _ _ h; rw [List.map_nil, List.append_nil] at h; exact h
  | cons a l ih =>
    intro acc E hs hl h
    refine hs a List.mem_cons_self (fun y E3 => noOwn E3 vs (acc.length < 16777216 ∧ xLcL g xYes xe vs R (l.map e) (acc ++ [y]) (wipeE E3 vs))) fun E' ok => ?_
    rw [List.length_cons] at hl
    refine ok.2 _ ⟨by omega, ?_⟩
    rw [ok.1]
    refine ih (fun a ha => hs a (List.mem_cons_of_mem _ ha)) (by rw [List.length_append, List.length_singleton]; omega) ?_
    rw [List.append_assoc]
    exact h
theorem lc_rng {g : XG} {xe : XE} {vs : List Nat} {R : List D → List Sl → Prop} {e : Nat → D} (f : Nat → D) {n : Nat} {E : List Sl}
    (hs : ∀ i, i < n → ∀ k : D → List Sl → Prop, (∀ E', okE E E' vs → k (f i) E') → g (e i) E (k_xe xe k)) (hl : n ≤ 16777216) (k : R ((List.range n).map f) E) : xLcL g xYes xe vs R ((List.range n).map e) [] E :=
  lc_map f (fun a ha => hs a (List.mem_range.mp ha)) (by simp; exact hl) (by simpa using k)
/-- [f a for a in .. if p a] -/
theorem lc_fil {α : Type} {g : XG} {xt : XT} {xe : XE} {vs : List Nat} {R : List D → List Sl → Prop} {e : α → D} (p : α → Bool) (f : α → D) : ∀ {l : List α} {acc : List D} {E : List Sl},
    (∀ a, a ∈ l → ∀ (k : D → List Sl → Prop) (kf : List Sl → Prop), (p a = true → ∀ E', okE E E' vs → k (f a) E') → (p a = false → ∀ E', okE E E' vs → kf E') → g (e a) E (k_lcT xt xe k kf)) → acc.length + l.length ≤ 16777216 → R (acc ++ (l.filter p).map f) E → xLcL g xt xe vs R (l.map e) acc E := by
  intro l
  induction l with
  | nil => intro acc E _ _ h; rw [List.filter_nil, List.map_nil, List.append_nil] at h; exact h
  | cons a l ih =>
    intro acc E hs hl h
    rw [List.length_cons] at hl
    refine hs a List.mem_cons_self (fun y E3 => noOwn E3 vs (acc.length < 16777216 ∧ xLcL g xt xe vs R (l.map e) (acc ++ [y]) (wipeE E3 vs))) (fun E2 => noOwn E2 vs (xLcL g xt xe vs R (l.map e) acc (wipeE E2 vs))) (fun hp E' ok => ?_) (fun hp E' ok => ?_)
    · refine ok.2 _ ⟨by omega, ?_⟩
      rw [ok.1]
      refine ih (fun a ha => hs a (List.mem_cons_of_mem _ ha)) (by rw [List.length_append, List.length_singleton]; omega) ?_
      rw [List.append_assoc]
      rw [List.filter_cons_of_pos hp] at h
      exact h
    · refine ok.2 _ ?_
      rw [ok.1]
      refine ih (fun a ha => hs a (List.mem_cons_of_mem _ ha)) (by omega) ?_
      rw [List.filter_cons_of_neg (by rw [hp]; simp)] at h
      exact h
/-- a comprehension that changes things between its turns -/
theorem lc_inv {g : XG} {xe : XE} {vs : List Nat} {R : List D → List Sl → Prop} {e : Nat → D} {n : Nat} {E : List Sl} (I : Nat → List D → List Sl → Prop) (h0 : I 0 [] E) (hl : n ≤ 16777216)
    (hs : ∀ i, i < n → ∀ acc E, I i acc E → ∀ k : D → List Sl → Prop, (∀ y E', I (i + 1) (acc ++ [y]) (wipeE E' vs) → (∀ P : Prop, P → noOwn E' vs P) → k y E') → g (e i) E (k_xe xe k))
    (he : ∀ acc E, acc.length = n → I n acc E → R acc E) : xLcL g xYes xe vs R ((List.range n).map e) [] E := by
  have main : ∀ m i acc E, i + m = n → acc.length = i → I i acc E → xLcL g xYes xe vs R ((List.range' i m).map e) acc E := by
    intro m
    induction m with
    | zero =>
      intro i acc E hi hlen h
      have hn : i = n := by omega
      rw [hn] at hlen h
      exact he acc E hlen h
    | succ m ih =>
      intro i acc E hi hlen h
      refine hs i (by omega) acc E h (fun y E3 => noOwn E3 vs (acc.length < 16777216 ∧ xLcL g xYes xe vs R ((List.range' (i + 1) m).map e) (acc ++ [y]) (wipeE E3 vs))) fun y E' h1 h2 => ?_
      exact h2 _ ⟨by omega, ih (i + 1) _ _ (by omega) (by rw [List.length_append, List.length_singleton, hlen]) h1⟩
  have := main n 0 [] E (by omega) rfl h0
  rw [← List.range_eq_range'] at this
  exact this
def k_xeF (xe : XE) (k : List D → List Sl → Prop) (d : D) (E : List Sl) : Prop := selL d fun zs => k zs E
theorem k_xeF_lst {xe : XE} {k : List D → List Sl → Prop} {zs : List D} {E : List Sl} : k_xeF xe k (.lst zs) E = k zs E := rfl
def k_xf (xe : XE) (k : List D → List Sl → Prop) (E : List Sl) : Prop := xe E (k_xeF xe k)
theorem k_xf_ap {xe : XE} {k : List D → List Sl → Prop} {E : List Sl} : k_xf xe k E = xe E (k_xeF xe k) := rfl
/-- .. of lists of one's own -/
theorem lcF_inv {g : XG} {xe : XE} {vs : List Nat} {R : List (List D) → List Sl → Prop} {e : Nat → D} {n : Nat} {E : List Sl} (I : Nat → List (List D) → List Sl → Prop) (h0 : I 0 [] E) (hl : n ≤ 16777216)
    (hs : ∀ i, i < n → ∀ acc E, I i acc E → ∀ k : List D → List Sl → Prop, (∀ y E', I (i + 1) (acc ++ [y]) (wipeE E' vs) → (∀ P : Prop, P → noOwn E' vs P) → k y E') → g (e i) E (k_xf xe k))
    (he : ∀ acc E, acc.length = n → I n acc E → R acc E) : xLcFL g xYes xe vs R ((List.range n).map e) [] E := by
  have main : ∀ m i acc E, i + m = n → acc.length = i → I i acc E → xLcFL g xYes xe vs R ((List.range' i m).map e) acc E := by
    intro m
    induction m with
    | zero =>
      intro i acc E hi hlen h
      have hn : i = n := by omega
      rw [hn] at hlen h
      exact he acc E hlen h
    | succ m ih =>
      intro i acc E hi hlen h
      have hk : (fun (y : D) (E3 : List Sl) => (match y with | .lst zs => noOwn E3 vs (acc.length < 16777216 ∧ xLcFL g xYes xe vs R ((List.range' (i + 1) m).map e) (acc ++ [zs]) (wipeE E3 vs)) | _ => False : Prop)) =
          k_xeF xe fun zs E3 => noOwn E3 vs (acc.length < 16777216 ∧ xLcFL g xYes xe vs R ((List.range' (i + 1) m).map e) (acc ++ [zs]) (wipeE E3 vs)) := by
        funext y E3; cases y <;> rfl
      show g (e i) E fun E1 => xe E1 fun (y : D) (E3 : List Sl) => (match y with | .lst zs => noOwn E3 vs (acc.length < 16777216 ∧ xLcFL g xYes xe vs R ((List.range' (i + 1) m).map e) (acc ++ [zs]) (wipeE E3 vs)) | _ => False : Prop)
      rw [hk]
      refine hs i (by omega) acc E h (fun zs E3 => noOwn E3 vs (acc.length < 16777216 ∧ xLcFL g xYes xe vs R ((List.range' (i + 1) m).map e) (acc ++ [zs]) (wipeE E3 vs))) fun y E' h1 h2 => ?_
      exact h2 _ ⟨by omega, ih (i + 1) _ _ (by omega) (by rw [List.length_append, List.length_singleton, hlen]) h1⟩
  have := main n 0 [] E (by omega) rfl h0
  rw [← List.range_eq_range'] at this
  exact this
theorem set_rng {α : Type} {f : Nat → α} {n k : Nat} {x : α} : ((List.range n).map f).set k x = (List.range n).map fun i => if i = k then x else f i := by
  refine List.ext_getElem (by simp) fun i h1 h2 => ?_
  simp only [List.getElem_set, List.getElem_map, List.getElem_range]
  by_cases h : k = i
  · rw [if_pos h, if_pos h.symm]
  · rw [if_neg h, if_neg fun z => h z.symm]
theorem map_mp {α β γ : Type} {f : α → β} {g : β → γ} {l : List α} : (l.map f).map g = l.map fun a => g (f a) := by
  rw [List.map_map]; rfl
theorem cut_mp {α β : Type} {l : List α} {f : α → β} {lo hi : Option Int} : cutD (l.map f) lo hi = (cutD l lo hi).map f := by
  unfold cutD
  rw [List.length_map, List.map_take, List.map_drop]
theorem cut_len {α : Type} {l : List α} {lo hi : Option Int} : (cutD l lo hi).length ≤ l.length := by
  unfold cutD
  rw [List.length_take, List.length_drop]; omega
theorem cut_mem {α : Type} {l : List α} {lo hi : Option Int} {x : α} (h : x ∈ cutD l lo hi) : x ∈ l := List.mem_of_mem_drop (List.mem_of_mem_take h)
theorem all_tt {α : Type} {l : List α} : (l.all fun _ => true) = true := by simp
theorem rng_push {α : Type} {f : Nat → α} {n : Nat} {x : α} : (List.range n).map f ++ [x] = (List.range (n + 1)).map fun i => if i = n then x else f i := by
  rw [List.range_succ, List.map_append]
  congr 1
  · refine List.map_congr_left fun i hi => ?_
    rw [if_neg (by have := List.mem_range.mp hi; omega)]
  · simp
/-- one of a few -/
theorem getD_pick {xs : List D} {i : Nat} {R : D → Prop} (h : i < xs.length) (k : ∀ d, d ∈ xs → R d) : getD xs (i : Int) R := by
  rw [getD_nat (List.getElem?_eq_getElem h)]
  exact k _ (List.getElem_mem h)
theorem for_idx {g : XG} {xb : XS} {XD : XEnds} {ds : List D} {E : List Sl} (I : Nat → List Sl → Prop) (h0 : I 0 E)
    (hs : ∀ i d, ds[i]? = some d → ∀ E, I i E → ∀ nx : List Sl → Prop, (∀ E', I (i + 1) E' → nx E') → g d E (k_st xb { nx := nx, rt := XD.rt, bk := XD.nx, ct := nx }))
    (he : ∀ E, I ds.length E → XD.nx E) : xForL g xb XD ds E := by
  have main : ∀ (es : List D) i E, ds.drop i = es → i + es.length = ds.length → I i E → xForL g xb XD es E := by
    intro es
    induction es with
    | nil => intro i E _ hl h; exact he E (by have : i = ds.length := by simpa using hl
                                              rw [← this]; exact h)
    | cons d es ih =>
      intro i E hd hl h
      have hi : ds[i]? = some d := by
        have := congrArg (fun l => l[0]?) hd
        simpa using this
      refine hs i d hi E h _ fun E' h' => ih (i + 1) E' ?_ (by simp at hl; omega) h'
      rw [← List.drop_drop, hd]; rfl
  exact main ds 0 E rfl (by simp) h0
theorem fmod_nat {a b : Nat} : Int.fmod (a : Int) (b : Int) = ((a % b : Nat) : Int) := by
  rw [Int.fmod_eq_emod_of_nonneg _ (by omega)]; rfl
theorem fdiv_nat {a b : Nat} : Int.fdiv (a : Int) (b : Int) = ((a / b : Nat) : Int) := by
  rw [Int.fdiv_eq_ediv_of_nonneg _ (by omega)]; rfl
theorem fmod_pos {a b : Int} (h : 0 < b) : 0 ≤ Int.fmod a b ∧ Int.fmod a b < b := ⟨Int.fmod_nonneg_of_pos a h, Int.fmod_lt_of_pos a h⟩
theorem cmul_r {i j : Int} (h : -(2 ^ 64) < j ∧ j < 2 ^ 64) : CMul i j := .inr h
theorem cmul_l {i j : Int} (h : -(2 ^ 64) < i ∧ i < 2 ^ 64) : CMul i j := .inl h
theorem rng_snoc {α : Type} {f : Nat → α} {n : Nat} : (List.range n).map f ++ [f n] = (List.range (n + 1)).map f := by
  rw [List.range_succ, List.map_append]
  rfl
theorem rng_ne {n : Nat} (h : 0 < n) : List.range n ≠ [] := by
  intro z
  have := congrArg List.length z
  rw [List.length_range] at this
  simp at this
  omega
theorem lst_rng {α : Type} (l : List α) (d : α) : l = (List.range l.length).map fun i => l.getD i d := by
  refine List.ext_getElem (by simp) fun i h1 h2 => ?_
  simp [List.getD_eq_getElem?_getD, List.getElem?_eq_getElem h1]
theorem enum_rng {e : Nat → D} : ∀ {n k : Nat}, enumD k ((List.range' k n).map e) = (List.range' k n).map fun i => D.tup [.int (i : Nat), e i]
  | 0, k => rfl
  | n + 1, k => by
    rw [List.range'_succ, List.map_cons, List.map_cons, enumD, enum_rng]
theorem enum_rng0 {e : Nat → D} {n : Nat} : enumD 0 ((List.range n).map e) = (List.range n).map fun i => D.tup [.int (i : Nat), e i] := by
  rw [List.range_eq_range']; exact enum_rng
theorem zip_map {α : Type} {e f : α → D} : ∀ {l : List α}, zipD (l.map e) (l.map f) = l.map fun a => D.tup [e a, f a]
  | [] => rfl
  | a :: l => by rw [List.map_cons, List.map_cons, zipD, zip_map]; rfl
theorem rev_rng {e : Nat → D} {n : Nat} : ((List.range n).map e).reverse = (List.range n).map fun i => e (n - 1 - i) := by
  refine List.ext_getElem (by simp) fun i h1 h2 => ?_
  simp

end Pw

section
set_option maxRecDepth 100000
set_option maxHeartbeats 2000000
namespace Pw
open PySem L2
/-! ### data that can be shown -/
structure Sh (w p : Nat) (x : PyData) : Prop where
  lay : x.canLay0 = true
  sho : x.showable = true
  dep : x.depth ≤ p
  lea : x.leavesShort 13 = true
  wei : x.weight ≤ w
structure ShL (w p : Nat) (xs : List PyData) : Prop where
  lay : PyData.canLayAll0 xs = true
  sho : PyData.showableAll xs = true
  dep : PyData.depthAll xs ≤ p
  lea : PyData.leavesShortAll 13 xs = true
  wei : PyData.weightAll xs ≤ w
theorem Sh.mono {w p w' p' : Nat} {x : PyData} (h : Sh w p x) (hw : w ≤ w') (hp : p ≤ p') : Sh w' p' x := ⟨h.lay, h.sho, Nat.le_trans h.dep hp, h.lea, Nat.le_trans h.wei hw⟩
theorem shL_nil {p : Nat} : ShL 0 p [] := ⟨rfl, rfl, Nat.zero_le _, rfl, Nat.le_refl _⟩
theorem shL_cons {w w2 p : Nat} {x : PyData} {xs : List PyData} (h : Sh w p x) (hs : ShL w2 p xs) : ShL (w + 1 + w2) p (x :: xs) :=
  ⟨by rw [PyData.canLayAll0, h.lay, hs.lay]; rfl, by rw [PyData.showableAll, h.sho, hs.sho]; rfl, by rw [PyData.depthAll]; exact Nat.max_le.mpr ⟨h.dep, hs.dep⟩,
    by rw [PyData.leavesShortAll, h.lea, hs.lea]; rfl, by rw [PyData.weightAll]; have := h.wei; have := hs.wei; omega⟩
theorem shL_all {w p : Nat} : ∀ {ds : List D}, (∀ d ∈ ds, Sh w p (py d)) → ShL (ds.length * (w + 1)) p (pys ds)
  | [], _ => by rw [List.length_nil, Nat.zero_mul]; exact shL_nil
  | d :: ds, h => by
    have := shL_cons (h d List.mem_cons_self) (shL_all (ds := ds) fun e he => h e (List.mem_cons_of_mem _ he))
    rw [List.length_cons, Nat.add_mul, Nat.one_mul, Nat.add_comm]
    exact this
theorem sh_lst {w p : Nat} {ds : List D} (h : ShL w p (pys ds)) : Sh w (p + 1) (py (.lst ds)) :=
  ⟨by rw [py, PyData.canLay0]; exact h.lay, by rw [py, PyData.showable]; exact h.sho, by rw [py, PyData.depth]; exact Nat.succ_le_succ h.dep, by rw [py, PyData.leavesShort]; exact h.lea, by rw [py, PyData.weight]; exact h.wei⟩
theorem sh_tup {w p : Nat} {ds : List D} (h : ShL w p (pys ds)) : Sh w (p + 1) (py (.tup ds)) :=
  ⟨by rw [py, PyData.canLay0]; exact h.lay, by rw [py, PyData.showable]; exact h.sho, by rw [py, PyData.depth]; exact Nat.succ_le_succ h.dep, by rw [py, PyData.leavesShort]; exact h.lea, by rw [py, PyData.weight]; exact h.wei⟩
theorem log_small {n : Nat} (h : n < 10 ^ 12) : n.log2 < 40 := by
  by_cases z : n = 0
  · subst z; decide
  · exact (Nat.log2_lt z).mpr (Nat.lt_trans h (by decide))
theorem sh_int {i : Int} (h : i.natAbs < 10 ^ 12) : Sh 40 0 (py (.int i)) := by
  have h2 := log_small h
  refine ⟨rfl, ?_, Nat.zero_le _, ?_, ?_⟩
  · rw [py, PyData.showable]; exact decide_eq_true (by omega)
  · rw [py, PyData.leavesShort]; exact decide_eq_true (PyData.shown_int_le h)
  · rw [py, PyData.weight]; split <;> omega
theorem sh_bl {b : Bool} : Sh 0 0 (py (.bl b)) := ⟨rfl, rfl, Nat.le_refl _, rfl, Nat.le_refl _⟩
theorem sh_non : Sh 0 0 (py .non) := ⟨rfl, rfl, Nat.le_refl _, rfl, Nat.le_refl _⟩
theorem sh_str {s : Str} {w : Nat} (h1 : PyData.canLay0 (.str s) = true) (hw : s.cps.size ≤ w) : Sh w 0 (py (.str s)) := by
  refine ⟨h1, rfl, Nat.le_refl _, PyData.leavesShort_of_canLay0 13 (.str s) h1 rfl, ?_⟩
  rw [py, PyData.weight]; exact hw
theorem sh_ints {ns : List Int} (h : ∀ n ∈ ns, n.natAbs < 10 ^ 12) : ShL (ns.length * 41) 0 (pys (ns.map D.int)) := by
  have := shL_all (w := 40) (p := 0) (ds := ns.map D.int) fun d hd => by
    obtain ⟨n, hn, rfl⟩ := List.mem_map.mp hd
    exact sh_int (h n hn)
  rw [List.length_map] at this
  exact this
theorem ShL.mono {w p w' p' : Nat} {xs : List PyData} (h : ShL w p xs) (hw : w ≤ w') (hp : p ≤ p') : ShL w' p' xs := ⟨h.lay, h.sho, Nat.le_trans h.dep hp, h.lea, Nat.le_trans h.wei hw⟩
theorem shL_map {α : Type} {l : List α} {f : α → D} {w p : Nat} (h : ∀ a ∈ l, Sh w p (py (f a))) : ShL (l.length * (w + 1)) p (pys (l.map f)) := by
  have := shL_all (w := w) (p := p) (ds := l.map f) fun d hd => by
    obtain ⟨a, ha, rfl⟩ := List.mem_map.mp hd
    exact h a ha
  rw [List.length_map] at this
  exact this
theorem repr_ok {xs : List D} {w p : Nat} {R : D → Prop} (h : Sh w p (py (.lst xs))) (hw : w ≤ 1000000) (hp : p ≤ 60) (k : R (.str (py (.lst xs)).shown)) : xRepr [.lst xs] R := by
  refine ⟨h.lay, h.sho, PyData.hasDict_of_canLay _ h.lay, Nat.le_trans h.dep hp, ?_, k⟩
  have h1 := PyData.shown_le 13 (by decide) _ h.lea
  have h2 := h.wei
  omega
theorem shaped_ok {x : PyData} {w p : Nat} (h : Sh w p x) (hp : p ≤ 64) : SeqAt.shaped x = true := by
  unfold SeqAt.shaped
  rw [h.lay, Bool.true_and]
  exact decide_eq_true (Nat.le_trans h.dep hp)
theorem eq_lst {ds : List D} {w p : Nat} {R : D → Prop} {n : Bool} (h : ShL w p (pys ds)) (hp : p ≤ 60) (k : R (.bl (n ^^ true))) : xEqC n (.lst ds) (.lst ds) R := by
  have hs := shaped_ok (sh_lst h) (by omega)
  refine ⟨hs, hs, ?_⟩
  rw [SeqAt.eqvAll_refl _ h.lay]
  exact k
theorem eq_tup {ds : List D} {w p : Nat} {R : D → Prop} {n : Bool} (h : ShL w p (pys ds)) (hp : p ≤ 60) (k : R (.bl (n ^^ true))) : xEqC n (.tup ds) (.tup ds) R := by
  have hs := shaped_ok (sh_tup h) (by omega)
  refine ⟨hs, hs, ?_⟩
  rw [SeqAt.eqvAll_refl _ h.lay]
  exact k
end Pw
end

section
set_option maxRecDepth 100000
set_option maxHeartbeats 2000000
namespace Pw
open PySem L2
/-! ### dicts: keys and values, one behind the other -/
section
variable {κ α β : Type} [DecidableEq κ]
def lk : List κ → List α → κ → Option α
  | k' :: ks, a :: as, k => if k' = k then some a else lk ks as k
  | _, _, _ => none
def rplK : List κ → List α → κ → α → List α
  | k' :: ks, a :: as, k, x => (if k' = k then x else a) :: rplK ks as k x
  | _, _, _, _ => []
def ptK (ks : List κ) (k : κ) : List κ := if k ∈ ks then ks else ks ++ [k]
def ptV (ks : List κ) (as : List α) (k : κ) (a : α) : List α := if k ∈ ks then rplK ks as k a else as ++ [a]
theorem lk_zip : ∀ {ks : List κ} {xs : List V} {k : κ}, valV (ks.zip xs) k = lk ks xs k
  | [], xs, k => by rw [List.zip_nil_left]; rfl
  | k' :: ks, [], k => rfl
  | k' :: ks, x :: xs, k => by
    rw [List.zip_cons_cons, lk]
    by_cases h : k' = k
    · rw [valV_pos (by exact h), if_pos h]
    · rw [valV_neg (by exact h), if_neg h, lk_zip]
theorem rplK_len : ∀ {ks : List κ} {as : List α} {k : κ} {x : α}, ks.length = as.length → (rplK ks as k x).length = as.length
  | [], [], _, _, _ => rfl
  | _ :: _, _ :: _, _, _, h => by rw [rplK, List.length_cons, List.length_cons, rplK_len (by simpa using h)]
theorem any_zip : ∀ {ks : List κ} {xs : List V} {k : κ}, ks.length = xs.length → ((ks.zip xs).any fun kv => decide (kv.1 = k)) = decide (k ∈ ks)
  | [], [], k, _ => by simp
  | k' :: ks, x :: xs, k, h => by
    rw [List.zip_cons_cons, List.any_cons, any_zip (by simpa using h)]
    by_cases e : k' = k
    · subst e; simp
    · have e' : ¬ k = k' := fun z => e z.symm
      simp [e, e']
theorem map_zip : ∀ {ks : List κ} {xs : List V} {k : κ} {v : V}, ks.length = xs.length → (ks.zip xs).map (fun kv => if kv.1 = k then (kv.1, v) else kv) = ks.zip (rplK ks xs k v)
  | [], [], k, v, _ => rfl
  | k' :: ks, x :: xs, k, v, h => by
    rw [List.zip_cons_cons, List.map_cons, rplK, List.zip_cons_cons, map_zip (by simpa using h)]
    by_cases e : k' = k
    · simp [e]
    · simp [e]
theorem put_zip {ks : List κ} {xs : List V} {k : κ} {v : V} (h : ks.length = xs.length) : putK (ks.zip xs) k v = (ptK ks k).zip (ptV ks xs k v) := by
  unfold putK ptK ptV
  rw [any_zip h]
  by_cases e : k ∈ ks
  · rw [if_pos (decide_eq_true e), if_pos e, if_pos e, map_zip h]
  · rw [if_neg (by simpa using e), if_neg e, if_neg e, List.zip_append h]
    rfl
theorem pt_len {ks : List κ} {as : List α} {k : κ} {a : α} (h : ks.length = as.length) : (ptK ks k).length = (ptV ks as k a).length := by
  unfold ptK ptV
  by_cases e : k ∈ ks
  · rw [if_pos e, if_pos e, rplK_len h, h]
  · rw [if_neg e, if_neg e, List.length_append, List.length_append, h]; rfl
end
section
variable {K : PySem.W.Frag} {κ : Type} [DecidableEq κ]
theorem RepL.lk {H : Hp} : ∀ {ks : List κ} {ds : List D} {xs : List V} {k : κ}, RepL K H ds xs → (Pw.lk ks ds k = none ∧ Pw.lk ks xs k = none) ∨ ∃ d v, Pw.lk ks ds k = some d ∧ Pw.lk ks xs k = some v ∧ Rep K H d v
  | [], ds, xs, k, _ => .inl ⟨by cases ds <;> rfl, by cases xs <;> rfl⟩
  | k' :: ks, [], xs, k, r => by cases (show xs = [] from r); exact .inl ⟨rfl, rfl⟩
  | k' :: ks, d :: ds, xs, k, r => by
    obtain ⟨x, ys, rfl, r1, r2⟩ := (show ∃ x ys, xs = x :: ys ∧ Rep K H d x ∧ RepL K H ds ys from r)
    by_cases e : k' = k
    · exact .inr ⟨d, x, by rw [Pw.lk, if_pos e], by rw [Pw.lk, if_pos e], r1⟩
    · rw [Pw.lk, if_neg e, Pw.lk, if_neg e]
      exact RepL.lk r2
theorem RepL.rplK {H : Hp} : ∀ {ks : List κ} {ds : List D} {xs : List V} {k : κ} {d : D} {v : V}, RepL K H ds xs → Rep K H d v → RepL K H (Pw.rplK ks ds k d) (Pw.rplK ks xs k v)
  | [], ds, xs, _, _, _, _, _ => by cases ds <;> cases xs <;> rfl
  | k' :: ks, [], xs, _, _, _, r, _ => by cases (show xs = [] from r); rfl
  | k' :: ks, d :: ds, xs, k, d', v', r, rv => by
    obtain ⟨x, ys, rfl, r1, r2⟩ := (show ∃ x ys, xs = x :: ys ∧ Rep K H d x ∧ RepL K H ds ys from r)
    rw [Pw.rplK, Pw.rplK]
    by_cases e : k' = k
    · rw [if_pos e, if_pos e]; exact ⟨v', _, rfl, rv, RepL.rplK r2 rv⟩
    · rw [if_neg e, if_neg e]; exact ⟨x, _, rfl, r1, RepL.rplK r2 rv⟩
theorem RepL.ptV {H : Hp} {ks : List κ} {ds : List D} {xs : List V} {k : κ} {d : D} {v : V} (r : RepL K H ds xs) (rv : Rep K H d v) : RepL K H (Pw.ptV ks ds k d) (Pw.ptV ks xs k v) := by
  unfold Pw.ptV
  split
  · exact r.rplK rv
  · exact r.append (.one rv)
/-- what may be a key: an int, a text -/
def keyD (d : D) : Option Key := match d with
  | .int i => some (.inl i)
  | .str s => some (.inr s)
  | _ => none
theorem keyD_ok {H : Hp} {d : D} {v : V} {k : Key} (h : keyD d = some k) (r : Rep K H d v) : v = kV k := by
  unfold keyD at h
  cases d with
  | int i => cases h; exact r
  | str s => cases h; exact r
  | _ => cases h
/-! ### looks -/
/-- d[y], or none -/
def dAt (a y : D) (R : Option D → Prop) : Prop := match a, keyD y with
  | .dK ks ds, some k => R (lk ks ds k)
  | _, _ => False
theorem dAt_ok {a y : D} {R : Option D → Prop} (h : dAt a y R) : ∃ ks ds k, a = .dK ks ds ∧ keyD y = some k ∧ R (lk ks ds k) := by
  unfold dAt at h
  split at h
  · rename_i ks ds k hk
    exact ⟨ks, ds, k, rfl, hk, h⟩
  · exact h.elim
/-- a slot's dict, looked at -/
def onD (E : List Sl) (i : Nat) (k : List Key → List D → Prop) : Prop := match nth E i with
  | .val (.dK ks ds) => k ks ds
  | .own _ (.dK ks ds) => k ks ds
  | _ => False
theorem Fr.atD {B : Bs} {H0 H : Hp} {al : Nat → List Addr} {E : List Sl} {σ : St} {i : Nat} {k : List Key → List D → Prop} (f : Fr K B H0 H al E σ) (h : onD E i k) :
    ∃ a ks ds xs, σ[i]? = some (some (.ref a)) ∧ H a = some (.dK (ks.zip xs)) ∧ RepL K H0 ds xs ∧ ks.length = xs.length ∧ k ks ds ∧ nth E i ≠ .un := by
  unfold onD at h
  split at h
  · rename_i ks ds q
    obtain ⟨v, hv, a, xs, rfl, ha, rl, hl⟩ := f.sg.val i _ q
    exact ⟨a, ks, ds, xs, hv, f.wd.ex _ _ ha, rl, hl, h, by rw [q]; intro z; cases z⟩
  · rename_i io ks ds q
    have hs := f.sg.own i io _ q
    obtain ⟨ro, _⟩ := f.wd.own i io _ q
    obtain ⟨a, xs, hla, ha, rl, hl⟩ := (show ∃ a xs, al i = [a] ∧ H a = some (.dK (ks.zip xs)) ∧ RepL K H0 ds xs ∧ ks.length = xs.length from ro)
    rw [hla] at hs
    exact ⟨a, ks, ds, xs, hs, ha, rl, hl, h, by rw [q]; intro z; cases z⟩
  · exact h.elim
/-- y in d, y not in d -/
def xDIn (neg : Bool) (xk : XE) (i : Nat) : XE := fun E R => xk E fun y E1 => onD E1 i fun ks ds => match keyD y with
  | some k => R (.bl (neg ^^ (lk ks ds k).isSome)) E1
  | none => False
theorem lk_isSome {H : Hp} {ks : List Key} {ds : List D} {xs : List V} {k : Key} (r : RepL K H ds xs) : (valV (ks.zip xs) k).isSome = (lk ks ds k).isSome := by
  rw [lk_zip]
  rcases r.lk (ks := ks) (k := k) with ⟨h1, h2⟩ | ⟨d, v, h1, h2, _⟩ <;> rw [h1, h2] <;> rfl
theorem rf_din {tk : TE} {xk : XE} {i : Nat} (hk : Rf K tk xk) : Rf K (tDIn tk (tVar i)) (xDIn false xk i) := fun B H0 H al E σ f Q R hx kk =>
  hk B H0 H al E σ f _ _ hx fun w y E1 H1 H' f1 e1 ry q => by
    obtain ⟨a, ks, ds, xs, hs, ha, rl, hl, q2, _⟩ := f1.atD q
    cases hy : keyD y with
    | none => rw [hy] at q2; exact q2.elim
    | some k =>
      rw [hy] at q2
      have := keyD_ok hy ry
      subst this
      refine ⟨_, hs, a, _, rfl, DGet.k ha, ?_⟩
      rw [lk_isSome rl]
      simp only [Bool.false_xor] at q2
      exact kk _ (.bl _) E1 H1 H' f1 e1 rfl q2
theorem rf_dnotin {tk : TE} {xk : XE} {i : Nat} (hk : Rf K tk xk) : Rf K (tDNotIn tk (tVar i)) (xDIn true xk i) := fun B H0 H al E σ f Q R hx kk =>
  hk B H0 H al E σ f _ _ hx fun w y E1 H1 H' f1 e1 ry q => by
    obtain ⟨a, ks, ds, xs, hs, ha, rl, hl, q2, _⟩ := f1.atD q
    cases hy : keyD y with
    | none => rw [hy] at q2; exact q2.elim
    | some k =>
      rw [hy] at q2
      have := keyD_ok hy ry
      subst this
      refine ⟨_, hs, a, _, rfl, DGet.k ha, ?_⟩
      rw [lk_isSome rl]
      simp only [Bool.true_xor] at q2
      exact kk _ (.bl _) E1 H1 H' f1 e1 rfl q2
/-- d[y] -/
def xDGet (i : Nat) (xk : XE) : XE := fun E R => nth E i ≠ .un ∧ xk E fun y E1 => onD E1 i fun ks ds => match keyD y with
  | some k => (match lk ks ds k with | some d => R d E1 | none => False)
  | none => False
theorem rf_dget {tk : TE} {xk : XE} {i : Nat} (hk : Rf K tk xk) : Rf K (tDGet (tVar i) tk) (xDGet i xk) := fun B H0 H al E σ f Q R hx kk => by
  obtain ⟨v, hv⟩ := f.sees hx.1
  refine ⟨v, hv, hk B H0 H al E σ f _ _ hx.2 fun w y E1 H1 H' f1 e1 ry q => ?_⟩
  obtain ⟨a, ks, ds, xs, hs, ha, rl, hl, q2, _⟩ := f1.atD q
  rw [hv] at hs
  cases hs
  cases hy : keyD y with
  | none => rw [hy] at q2; exact q2.elim
  | some k =>
    simp only [hy] at q2
    have := keyD_ok hy ry
    subst this
    rcases rl.lk (ks := ks) (k := k) with ⟨h1, h2⟩ | ⟨d, z, h1, h2, rz⟩
    · rw [h1] at q2; exact q2.elim
    · simp only [h1] at q2
      refine ⟨a, z, rfl, ?_, kk z d E1 H1 H' f1 e1 rz q2⟩
      have := DGet.k (k := k) ha
      rw [lk_zip, h2] at this
      exact this
/-- d.get(y), d.get(y, x) -/
def xDGet1 (i : Nat) (xk : XE) : XE := fun E R => onD E i (fun _ _ => True) ∧ xk E fun y E1 => onD E1 i fun ks ds => match keyD y with
  | some k => R ((lk ks ds k).getD .non) E1
  | none => False
theorem isD_of {H : Hp} {a : Addr} {kvs : List (Key × V)} (h : H a = some (.dK kvs)) : IsD H a := .inl ⟨kvs, .inl h⟩
theorem rf_dget1 {tk : TE} {xk : XE} {i : Nat} (hk : Rf K tk xk) : Rf K (tDGet1 (tVar i) tk) (xDGet1 i xk) := fun B H0 H al E σ f Q R hx kk => by
  obtain ⟨a0, ks0, ds0, xs0, hs0, ha0, _⟩ := f.atD hx.1
  refine ⟨.ref a0, hs0, a0, rfl, isD_of ha0, hk B H0 H al E σ f _ _ hx.2 fun w y E1 H1 H' f1 e1 ry q => ?_⟩
  obtain ⟨a, ks, ds, xs, hs, ha, rl, hl, q2, _⟩ := f1.atD q
  rw [hs0] at hs
  cases hs
  cases hy : keyD y with
  | none => rw [hy] at q2; exact q2.elim
  | some k =>
    simp only [hy] at q2
    have := keyD_ok hy ry
    subst this
    refine ⟨_, DGet.k ha, ?_⟩
    rw [lk_zip]
    rcases rl.lk (ks := ks) (k := k) with ⟨h1, h2⟩ | ⟨d, z, h1, h2, rz⟩
    · rw [h1] at q2; rw [h2]; exact kk .non .non E1 H1 H' f1 e1 rfl q2
    · rw [h1] at q2; rw [h2]; exact kk z d E1 H1 H' f1 e1 rz q2
def xDGet2 (i : Nat) (xk xv : XE) : XE := fun E R => onD E i (fun _ _ => True) ∧ xk E fun y E1 => xv E1 fun z E2 => onD E2 i fun ks ds => match keyD y with
  | some k => R ((lk ks ds k).getD z) E2
  | none => False
theorem rf_dget2 {tk tv : TE} {xk xv : XE} {i : Nat} (hk : Rf K tk xk) (hv : Rf K tv xv) : Rf K (tDGet2 (tVar i) tk tv) (xDGet2 i xk xv) := fun B H0 H al E σ f Q R hx kk => by
  obtain ⟨a0, ks0, ds0, xs0, hs0, ha0, _⟩ := f.atD hx.1
  refine ⟨.ref a0, hs0, a0, rfl, isD_of ha0, hk B H0 H al E σ f _ _ hx.2 fun w y E1 H1 H' f1 e1 ry q => hv B H1 H' al E1 σ f1 _ _ q fun u z E2 H2 H2' f2 e2 rz q => ?_⟩
  obtain ⟨a, ks, ds, xs, hs, ha, rl, hl, q2, _⟩ := f2.atD q
  rw [hs0] at hs
  cases hs
  cases hy : keyD y with
  | none => rw [hy] at q2; exact q2.elim
  | some k =>
    simp only [hy] at q2
    have := keyD_ok hy ry
    subst this
    refine ⟨_, DGet.k ha, ?_⟩
    rw [lk_zip]
    rcases rl.lk (ks := ks) (k := k) with ⟨h1, h2⟩ | ⟨d, z, h1, h2, rz'⟩
    · rw [h1] at q2; rw [h2]; exact kk u z E2 H2 H2' f2 (e1.trans e2) rz q2
    · rw [h1] at q2; rw [h2]; exact kk z d E2 H2 H2' f2 (e1.trans e2) rz' q2
/-! ### an own dict -/
def onOD (E : List Sl) (i : Nat) (k : Bool → List Key → List D → Prop) : Prop := match nth E i with
  | .own io (.dK ks ds) => k io ks ds
  | _ => False
theorem onOD_ok {E : List Sl} {i : Nat} {k : Bool → List Key → List D → Prop} (h : onOD E i k) : ∃ io ks ds, nth E i = .own io (.dK ks ds) ∧ k io ks ds := by
  unfold onOD at h
  split at h
  · rename_i io ks ds q
    exact ⟨io, ks, ds, q, h⟩
  · exact h.elim
theorem Fr.ownD {B : Bs} {H0 H : Hp} {al : Nat → List Addr} {E : List Sl} {σ : St} {i : Nat} {io : Bool} {ks : List Key} {ds : List D} (f : Fr K B H0 H al E σ) (h : nth E i = .own io (.dK ks ds)) :
    ∃ a xs, al i = [a] ∧ σ[i]? = some (some (.ref a)) ∧ H a = some (.dK (ks.zip xs)) ∧ RepL K H0 ds xs ∧ ks.length = xs.length := by
  obtain ⟨ro, _⟩ := f.wd.own i io _ h
  obtain ⟨a, xs, hl, q, r, c⟩ := (show ∃ a xs, al i = [a] ∧ H a = some (.dK (ks.zip xs)) ∧ RepL K H0 ds xs ∧ ks.length = xs.length from ro)
  have hs := f.sg.own i io _ h
  rw [hl] at hs
  exact ⟨a, xs, hl, hs, q, r, c⟩
theorem Fr.setD {B : Bs} {H0 H : Hp} {al : Nat → List Addr} {E : List Sl} {σ : St} {i : Nat} {io : Bool} {ks ks' : List Key} {ds ds' : List D} {xs' : List V} {a : Addr} (f : Fr K B H0 H al E σ) (h : nth E i = .own io (.dK ks ds)) (hl : al i = [a])
    (r : RepL K H0 ds' xs') (c : ks'.length = xs'.length) : Fr K B H0 (L2.upd H a (.dK (ks'.zip xs'))) al (put E i (.own io (.dK ks' ds'))) σ :=
  ⟨f.wd.mut (d' := .dK ks' ds') h ⟨a, xs', hl, upd_same, r, c⟩ (fun b o hb he => by rw [upd_ne fun z => hb (by rw [hl, z]; exact List.mem_cons_self)]; exact he) fun b hb => by
    by_cases z : b = a
    · subst z; rw [upd_same] at hb; cases hb
    · rw [upd_ne z] at hb; exact hb, f.sg.mut h⟩
/-- {} -/
def xDNew : XE := fun E R => R (.dK [] []) E
theorem ff_dnewK : RfF K tDNewK xDNew := fun B H0 H al E σ f Q R hx k => fun p hp =>
  k [p] (.dK [] []) E H0 _ ⟨f.wd.raw hp, f.sg⟩ (Ex.refl _) ⟨p, [], rfl, upd_same, rfl, rfl⟩ (f.wd.fre hp) hx
/-- own[y] = v -/
def xDPut (i : Nat) (xk xv : XE) : XS := fun XD E => xv E fun d E1 => onOD E1 i fun _ _ _ => xk E1 fun y E2 => onOD E2 i fun io ks ds => match keyD y with
  | some k => ks.length < 16777216 ∧ XD.nx (put E2 i (.own io (.dK (ptK ks k) (ptV ks ds k d))))
  | none => False
theorem rs_dput {i : Nat} {tk tv : TE} {xk xv : XE} (hk : Rf K tk xk) (hv : Rf K tv xv) : RfS K (sDPut (tVar i) tk tv) (xDPut i xk xv) := fun B H0 H al E σ f Dd XD hx o =>
  hv B H0 H al E σ f _ _ hx fun v d E1 H1 H1' f1 e1 rv q => by
    obtain ⟨io0, ks0, ds0, h0, q⟩ := onOD_ok q
    obtain ⟨a0, xs0, hl0, hs0, _⟩ := f1.ownD h0
    refine ⟨.ref a0, hs0, hk B H1 H1' al E1 σ f1 _ _ q fun w y E2 H2 H2' f2 e2 ry q2 => ?_⟩
    obtain ⟨io, ks, ds, h1, q2⟩ := onOD_ok q2
    obtain ⟨a, xs, hla, hs, ha, rl, hl⟩ := f2.ownD h1
    rw [hs0] at hs
    cases hs
    cases hy : keyD y with
    | none => rw [hy] at q2; exact q2.elim
    | some k =>
      simp only [hy] at q2
      have := keyD_ok hy ry
      subst this
      refine ⟨a0, _, rfl, DPut.k ha (by rw [List.length_zip, ← hl, Nat.min_self]; exact sz_lt q2.1), ?_⟩
      rw [put_zip hl]
      exact o.nx H2 _ al _ σ (f2.setD h1 hla (rl.ptV (rv.mono e2)) (pt_len hl)) (e1.trans e2) q2.2
end
end Pw
end

section
set_option maxRecDepth 100000
set_option maxHeartbeats 2000000
namespace Pw
open PySem L2
section
variable {K : PySem.W.Frag}
/-! ### {k: v for ..} -/
def xDcL (g : XG) (xt : XT) (xk xe : XE) (vs : List Nat) (R : List Key → List D → List Sl → Prop) : List D → List Key → List D → List Sl → Prop
  | [], ks, acc, E => R ks acc E
  | d :: ds, ks, acc, E => g d E fun E1 => xt E1 fun b E2 => if b = true then xk E2 fun y E3 => xe E3 fun z E4 => (match keyD y with
      | some k => noOwn E4 vs (ks.length < 16777216 ∧ xDcL g xt xk xe vs R ds (ptK ks k) (ptV ks acc k z) (wipeE E4 vs))
      | none => False) else noOwn E2 vs (xDcL g xt xk xe vs R ds ks acc (wipeE E2 vs))
def xDc (xi : XI) (g : XG) (xt : XT) (xk xe : XE) (vs : List Nat) : XE := fun E R => xi E fun ds E1 => noOwn E1 vs (xDcL g xt xk xe vs (fun ks acc E2 => R (.dK ks acc) (backE E1 vs E2)) ds [] [] (wipeE E1 vs))
theorem ff_dc {ti : TI} {xi : XI} {g : TG} {xg : XG} {is : List Nat} {tt : TT} {xt : XT} {tk te : TE} {xk xe : XE} {vs : List Nat} (hi : RfI K ti xi) (hg : RfG K g xg is) (ht : RfT K tt xt) (hk : Rf K tk xk) (he : Rf K te xe) (hv : ∀ i ∈ is, i ∈ vs) : RfF K (tDc ti g tt tk te vs) (xDc xi xg xt xk xe vs) := fun B H0 H al E σ f Q R hx k =>
  hi B H0 H al E σ f _ _ hx fun J ds E1 H1 H1' f1 e1 j hf => by
    intro D hD
    obtain ⟨hl, hn1⟩ := noOwn_ok hf
    have g0 : H1 D = none := f1.wd.ex.free hD
    -- the state between the turns
    refine ⟨fun i m H' => ∃ H0' E' kk acc accV, Fr K B H0' H' al E' (wipe σ vs) ∧ Ex H1 H0' ∧ H0' D = none ∧ H' D = some (.dK (kk.zip accV)) ∧ RepL K H0' acc accV ∧ kk.length = accV.length ∧ (∀ j jo e, nth E' j = .own jo e → D ∉ al j) ∧
      m = ds.length - i ∧ i ≤ ds.length ∧ xDcL xg xt xk xe vs (fun kk acc E2 => R (.dK kk acc) (backE E1 vs E2)) (ds.drop i) kk acc E',
      ⟨ds.length, H1, wipeE E1 vs, [], [], [], ⟨(f1.wipe hn1).wd.raw hD, (f1.wipe hn1).sg⟩, Ex.refl _, g0, upd_same, rfl, rfl, fun jj jo e hj => (f1.wipe hn1).wd.ne hD hj, by omega, Nat.zero_le _, hl⟩, ?_⟩
    rintro i m H' ⟨H0', E', kk, acc, accV, f', e', d0, dV, ra, rc, hne, em, hle, q⟩
    by_cases hlt : i < ds.length
    · have hd : ds[i]? = some ds[i] := List.getElem?_eq_getElem hlt
      -- a base of its own for the turn
      have fb : Fr K (B.here H0' H' al E') H0' H' al E' (wipe σ vs) := ⟨f'.wd.here, f'.sg⟩
      obtain ⟨go, yl⟩ := j.step _ H0' H' al E' (wipe σ vs) i ds[i] e' fb hd
      have keepD : ∀ {H0a Ha : Hp} {Ea : List Sl}, Wd K (B.here H0' H' al E') H0a Ha al Ea → Ha D = some (.dK (kk.zip accV)) ∧ H0a D = none ∧ ∀ j jo e, nth Ea j = .own jo e → D ∉ al j := fun {H0a Ha Ea} wa => by
        have nf : ¬ (B.here H0' H' al E').fp D := fun ⟨jj, jo, e, hj, hz⟩ => hne jj jo e hj hz
        refine ⟨wa.kp D _ dV nf (fun _ z => by cases z), ?_, fun jj jo e hj z => ?_⟩
        · cases qd : H0a D with
          | none => rfl
          | some o =>
            rcases wa.nw D o qd with z | z | z
            · have z : H0' D = some o := z
              rw [d0] at z; cases z
            · have z : H' D = none := z
              rw [dV] at z; cases z
            · exact absurd z nf
        · rcases ((wa.own jj jo e hj).2 D z).2 with c | c
          · exact nf c
          · have c : H' D = none := c
            rw [dV] at c; cases c
      refine .inr ⟨go, fun H3 => ∃ H03 E3 kk3 acc3 accV3, Fr K B H03 H3 al E3 (wipe σ vs) ∧ Ex H1 H03 ∧ H03 D = none ∧ H3 D = some (.dK (kk3.zip accV3)) ∧ RepL K H03 acc3 accV3 ∧ kk3.length = accV3.length ∧ (∀ j jo e, nth E3 j = .own jo e → D ∉ al j) ∧
        xDcL xg xt xk xe vs (fun kk acc E2 => R (.dK kk acc) (backE E1 vs E2)) (ds.drop (i + 1)) kk3 acc3 E3, fun H3 z => ?_, fun x H'' hy => ?_⟩
      · obtain ⟨H03, E3, kk3, acc3, accV3, f3, e3, a3, b3, c3, l3, n3, z⟩ := z
        exact ⟨ds.length - (i + 1), by omega, H03, E3, kk3, acc3, accV3, f3, e3, a3, b3, c3, l3, n3, rfl, hlt, z⟩
      · obtain ⟨H0'', f2, e2, r2, _⟩ := yl x H'' hy
        rw [drop_of hlt] at q
        refine hg _ H0'' H'' al E' (wipe σ vs) f2 ds[i] x r2 _ _ q fun E4 σ4 f4 w4 q4 => ?_
        have w5 : wipe σ4 vs = wipe σ vs := by rw [w4 vs hv, wipe_wipe]
        refine ⟨w5, ht _ H0'' H'' al E4 σ4 f4 _ _ q4 fun b E5 H05 H5 f5 e5 q5 => ?_⟩
        cases b with
        | true =>
          refine iteT ?_
          refine hk _ H05 H5 al E5 σ4 f5 _ _ q5 fun ky dk E5' H05' H5' f5' e5' rk q5' => ?_
          refine he _ H05' H5' al E5' σ4 f5' _ _ q5' fun y dy E6 H06 H6 f6 e6' r6 q6 => ?_
          have e6 : Ex H05 H06 := e5'.trans e6'
          cases hkd : keyD dk with
          | none => rw [hkd] at q6; exact q6.elim
          | some key =>
          simp only [hkd] at q6
          have hky := keyD_ok hkd rk
          subst hky
          obtain ⟨q7, n6⟩ := noOwn_ok q6
          obtain ⟨kD, kD0, kN⟩ := keepD f6.wd
          refine ⟨kk.zip accV, key, rfl, kD, by rw [List.length_zip, ← rc, Nat.min_self]; exact sz_lt q7.1, ?_⟩
          rw [put_zip rc]
          have fw : Fr K (B.here H0' H' al E') H06 H6 al (wipeE E6 vs) (wipe σ vs) := by
            have := f6.wipe n6
            rw [w5] at this
            exact this
          have fo : Fr K B H06 H6 al (wipeE E6 vs) (wipe σ vs) := ⟨f'.wd.back fw.wd, fw.sg⟩
          have own' : ∀ jj jo e, nth (wipeE E6 vs) jj = .own jo e → D ∉ al jj := (keepD fw.wd).2.2
          have ex6 : Ex H0' H06 := (e2.trans e5).trans e6
          have fm : Fr K B H06 (upd H6 D (.dK ((ptK kk key).zip (ptV kk accV key y)))) al (wipeE E6 vs) (wipe σ vs) := by
            refine ⟨⟨fo.wd.ex.mut kD0, fun jj jo e hj => ?_, fo.wd.inj, fun b o hb nb nt => ?_, fo.wd.e0, fo.wd.nw, fun b hb => ?_, fo.wd.pin, tabs_put fo.wd.tb (keepD fw.wd).1 dK_tb, fo.wd.t0⟩, fo.sg⟩
            · obtain ⟨a, b⟩ := fo.wd.own jj jo e hj
              exact ⟨a.keep fun c hc => upd_ne fun z => own' jj jo e hj (by rw [← z]; exact hc), b⟩
            · have hbD : b ≠ D := fun z => by
                rw [z] at hb
                have : B.He D = none := f1.wd.lv _ hD
                rw [hb] at this; cases this
              rw [upd_ne hbD]
              exact fo.wd.kp b o hb nb nt
            · by_cases z : b = D
              · subst z; rw [upd_same] at hb; cases hb
              · rw [upd_ne z] at hb; exact fo.wd.lv b hb
          exact ⟨H06, wipeE E6 vs, ptK kk key, ptV kk acc key dy, ptV kk accV key y, fm, e'.trans ex6, kD0, upd_same, (ra.mono ex6).ptV r6, pt_len rc, own', q7.2⟩
        | false =>
          refine iteF ?_
          obtain ⟨q7, n6⟩ := noOwn_ok q5
          have fw : Fr K (B.here H0' H' al E') H05 H5 al (wipeE E5 vs) (wipe σ vs) := by
            have := f5.wipe n6
            rw [w5] at this
            exact this
          obtain ⟨kD, kD0, kN⟩ := keepD fw.wd
          exact ⟨H05, wipeE E5 vs, kk, acc, accV, ⟨f'.wd.back fw.wd, fw.sg⟩, (e'.trans e2).trans e5, kD0, kD, ra.mono (e2.trans e5), rc, kN, q7⟩
    · have he : i = ds.length := by omega
      subst he
      rw [List.drop_length] at q
      refine .inl ⟨j.stop H0' H' e' f'.wd.ex, ?_⟩
      have fr := f1.restore f' e' hn1
      have nD : ∀ jj jo e, nth (backE E1 vs E') jj = .own jo e → D ∉ al jj := fun jj jo e hj => by
        by_cases z : jj ∈ vs
        · exact absurd (backE_in z hj (by intro z; cases z)) (hn1 jj z jo e)
        · rw [backE_out z] at hj
          exact hne jj jo e hj
      exact k [D] (.dK kk acc) _ H0' H' fr (e1.trans e') ⟨D, accV, rfl, dV, ra, rc⟩ (fun b hb => by rw [List.mem_singleton.mp hb]; exact ⟨d0, f1.wd.lv _ hD, nD⟩) q
end
end Pw
end

section
set_option maxRecDepth 100000
set_option maxHeartbeats 2000000
namespace Pw
open PySem L2
section
variable {K : PySem.W.Frag}
/-- an object of nobody changes -/
theorem Wd.mutN {B : Bs} {H0 H : Hp} {al : Nat → List Addr} {E : List Sl} {p : Addr} {o : HO} (w : Wd K B H0 H al E) (h0 : H0 p = none) (hb : B.He p = none) {u : HO} (hu : H p = some u) (hun : ¬ isTb u) (hn : ∀ j jo e, nth E j = .own jo e → p ∉ al j) : Wd K B H0 (L2.upd H p o) al E where
  ex := w.ex.mut h0
  own := fun jj jo e hj => by
    obtain ⟨a, b⟩ := w.own jj jo e hj
    exact ⟨a.keep fun c hc => upd_ne fun z => hn jj jo e hj (by rw [← z]; exact hc), b⟩
  inj := w.inj
  kp := fun b o' hb' nb nt => by
    rw [upd_ne fun z => by rw [z, hb] at hb'; cases hb']
    exact w.kp b o' hb' nb nt
  e0 := w.e0
  nw := w.nw
  lv := fun b hb' => by
    by_cases z : b = p
    · subst z; rw [upd_same] at hb'; cases hb'
    · rw [upd_ne z] at hb'; exact w.lv b hb'
  pin := w.pin
  tb := tabs_put w.tb hu hun
  t0 := w.t0
/-- a new object beside, kept while others work -/
theorem Wd.beside {B : Bs} {H0 H Ha H0a : Hp} {al al' : Nat → List Addr} {E Ea : List Sl} {p : Addr} {o : HO} (w : Wd K B H0 H al E) (hp : H p = some o) (hpt : ∀ ps, o ≠ .tbl ps) (h0 : H0 p = none) (hn : ∀ j jo e, nth E j = .own jo e → p ∉ al j)
    (wa : Wd K (B.here H0 H al E) H0a Ha al' Ea) : Ha p = some o ∧ H0a p = none ∧ ∀ j jo e, nth Ea j = .own jo e → p ∉ al' j := by
  have nf : ¬ (B.here H0 H al E).fp p := fun ⟨jj, jo, e, hj, hz⟩ => hn jj jo e hj hz
  refine ⟨wa.kp p _ hp nf hpt, ?_, fun jj jo e hj z => ?_⟩
  · cases qd : H0a p with
    | none => rfl
    | some o' =>
      rcases wa.nw p o' qd with z | z | z
      · have z : H0 p = some o' := z
        rw [h0] at z; cases z
      · have z : H p = none := z
        rw [hp] at z; cases z
      · exact absurd z nf
  · rcases ((wa.own jj jo e hj).2 p z).2 with c | c
    · exact nf c
    · have c : H p = none := c
      rw [hp] at c; cases c
/-- {y: z} -/
def xDisp1 (xk xv : XE) : XE := fun E R => xk E fun y E1 => xv E1 fun z E2 => match keyD y with
  | some k => R (.dK [k] [z]) E2
  | none => False
theorem ff_disp1 {tk tv : TE} {xk xv : XE} (hk : Rf K tk xk) (hv : Rf K tv xv) : RfF K (tDisp [(tk, tv)]) (xDisp1 xk xv) := fun B H0 H al E σ f Q R hx kk => fun p hp => by
  have g0 : H0 p = none := f.wd.ex.free hp
  have w1 : Wd K B H0 (L2.upd H p (.dK [])) al E := f.wd.raw hp
  have n1 : ∀ j jo e, nth E j = .own jo e → p ∉ al j := fun j jo e hj => f.wd.ne hp hj
  have fb : Fr K (B.here H0 (L2.upd H p (.dK [])) al E) H0 (L2.upd H p (.dK [])) al E σ := ⟨w1.here, f.sg⟩
  refine hk _ H0 _ al E σ fb _ _ hx fun ky y E1 H1 H1' f1 e1 ry q1 => hv _ H1 H1' al E1 σ f1 _ _ q1 fun vv z E2 H2 H2' f2 e2 rz q2 => ?_
  obtain ⟨a1, a2, a3⟩ := Wd.beside w1 upd_same (fun _ z => by cases z) g0 n1 f2.wd
  cases hy : keyD y with
  | none => rw [hy] at q2; exact q2.elim
  | some k =>
    simp only [hy] at q2
    have := keyD_ok hy ry
    subst this
    refine ⟨a1, [(k, vv)], rfl, by simp, ?_⟩
    have wb := w1.back f2.wd
    exact kk [p] (.dK [k] [z]) E2 H2 _ ⟨wb.mutN a2 (f.wd.lv _ hp) a1 dK_tb a3, f2.sg⟩ (e1.trans e2) ⟨p, [vv], rfl, upd_same, .one rz, rfl⟩ (fun b hb => by rw [List.mem_singleton.mp hb]; exact ⟨a2, f.wd.lv _ hp, a3⟩) q2
end
/-! ### own.update(d) -/
section
variable {κ α : Type} [DecidableEq κ]
def mgK : List κ → List κ → List κ
  | ks, [] => ks
  | ks, k :: r => mgK (ptK ks k) r
def mgV : List κ → List α → List κ → List α → List α
  | ks, as, k :: r, a :: s => mgV (ptK ks k) (ptV ks as k a) r s
  | _, as, _, _ => as
end
theorem merge_zip : ∀ {ks2 : List Key} {xs2 : List V} {ks : List Key} {xs : List V}, ks.length = xs.length → ks2.length = xs2.length → mergeK (ks.zip xs) (ks2.zip xs2) = (mgK ks ks2).zip (mgV ks xs ks2 xs2) ∧ (mgK ks ks2).length = (mgV ks xs ks2 xs2).length
  | [], [], ks, xs, h, _ => ⟨rfl, h⟩
  | k :: ks2, x :: xs2, ks, xs, h, h2 => by
    have := merge_zip (ks2 := ks2) (xs2 := xs2) (ks := ptK ks k) (xs := ptV ks xs k x) (pt_len h) (by simpa using h2)
    rw [mgK, mgV]
    refine ⟨?_, this.2⟩
    rw [← this.1, ← put_zip h]
    rfl
theorem RepL.mgV {K : PySem.W.Frag} {H : Hp} : ∀ {ks2 : List Key} {ds2 : List D} {xs2 : List V} {ks : List Key} {ds : List D} {xs : List V}, RepL K H ds xs → RepL K H ds2 xs2 → RepL K H (Pw.mgV ks ds ks2 ds2) (Pw.mgV ks xs ks2 xs2)
  | [], ds2, xs2, ks, ds, xs, r, _ => by cases ds2 <;> cases xs2 <;> exact r
  | k :: ks2, [], xs2, ks, ds, xs, r, r2 => by cases (show xs2 = [] from r2); exact r
  | k :: ks2, d :: ds2, xs2, ks, ds, xs, r, r2 => by
    obtain ⟨x, ys, rfl, q1, q2⟩ := (show ∃ x ys, xs2 = x :: ys ∧ Rep K H d x ∧ RepL K H ds2 ys from r2)
    exact RepL.mgV (ks := ptK ks k) (ds := Pw.ptV ks ds k d) (xs := Pw.ptV ks xs k x) (r.ptV q1) q2
def tDUpd (td te : TE) : TE := fun σ H Q => td σ H fun x H1 => ∃ a, x = .ref a ∧ IsD H1 a ∧ te σ H1 fun y H2 => ∃ (b : Addr) (kvs more : List (Key × V)), y = .ref b ∧ a ≠ b ∧ H2 a = some (.dK kvs) ∧ H2 b = some (.dK more) ∧ kvs.length + more.length ≤ sizeLine ∧
  Q .non (L2.upd H2 a (.dK (mergeK kvs more)))
theorem merge_le : ∀ {more kvs : List (Key × V)}, (mergeK kvs more).length ≤ kvs.length + more.length
  | [], kvs => Nat.le_refl _
  | kv :: more, kvs => by
    have h1 := merge_le (more := more) (kvs := putK kvs kv.1 kv.2)
    have h2 := length_putK kvs kv.1 kv.2
    show (mergeK (putK kvs kv.1 kv.2) more).length ≤ _
    rw [List.length_cons]; omega
theorem pe_dupd {X : Cx} {o e : Expr} {apos cpos : Pos} {td te : TE} (ho : PE X o td) (he : PE X e te) (m : M1 X o "update" apos e cpos) : PE X (.Call (.Attribute o "update" apos) [e] [] cpos) (tDUpd td te) := by
  refine ⟨fun pins s σ H Q I h => ?_⟩
  refine wpAny_Call_method m.base m.few m.line PySem.F.plainAttrs_dict PySem.F.slot_dict_update PySem.F.type_dict_update (thn (ho.run pins s σ H _ I h) fun u s1 ⟨x, H1, I1, rx, a, ex, d, q1⟩ => ?_)
  subst ex
  obtain rfl : u = Value.ref a := rx
  obtain ⟨t1, t2, _⟩ := isD_at I1 d
  refine ⟨t1, t2, ?_⟩
  rw [m.trees]
  refine Calls.callWith_builtin rfl (Calls.evalArgs_plain (Calls.spliced_cons (thn (he.run pins s1 σ H1 _ I1 q1) fun iv s2 ⟨y, H2, I2, ry, b, kvs, more, ey, hab, ha, hb, hz, q2⟩ => Calls.spliced_nil ?_)))
  subst ey
  obtain rfl : iv = Value.ref b := ry
  obtain ⟨za, hda, vs, rela, dda⟩ := dk_of I2.hok ha
  obtain ⟨zb, hdb, vs2, relb, ddb⟩ := dk_of I2.hok hb
  refine call_meetsIn PySem.F.slot_dict_update dda.typeIs PySem.F.entry_dict_update (PySem.F.args_dict_update_2 _ _) (meets_dict_update (mixKind X.prog X.w) a b hab hdb) ⟨vs, vs2, dda, ddb, by rw [← rela.length, ← relb.length]; exact hz, fun h' d1 _ hs => ?_⟩
  have hex : ∃ q, h'.get? a = some q := let ⟨q, _, _, hq, _⟩ := d1; ⟨q, hq⟩
  exact ⟨.non, _, d_write (t' := s2.toks) I2 (by rw [ha]; exact True.intro) hs hex (dk_new (Nat.le_trans merge_le hz) hda (relb.merge rela) d1), rfl, q2⟩
section
variable {K : PySem.W.Frag}
def xDUpd (i : Nat) (x : XE) : XE := fun E R => onOD E i (fun _ _ _ => True) ∧ x E fun d E1 => onOD E1 i fun io ks ds => match d with
  | .dK ks2 ds2 => ks.length + ks2.length ≤ 16777216 ∧ R .non (put E1 i (.own io (.dK (mgK ks ks2) (mgV ks ds ks2 ds2))))
  | _ => False
theorem rf_dupd {i : Nat} {t : TE} {x : XE} (h : Rf K t x) : Rf K (tDUpd (tVar i) t) (xDUpd i x) := fun B H0 H al E σ f Q R hx k => by
  obtain ⟨io0, ks0, ds0, h0, _⟩ := onOD_ok hx.1
  obtain ⟨a0, xs0, hl0, hs0, ha0, _⟩ := f.ownD h0
  refine ⟨.ref a0, hs0, a0, rfl, isD_of ha0, h B H0 H al E σ f _ _ hx.2 fun v d E1 H1 H1' f1 e1 rv q => ?_⟩
  obtain ⟨io, ks, ds, h1, q⟩ := onOD_ok q
  obtain ⟨a, xs, hla, hs, ha, rl, hl⟩ := f1.ownD h1
  rw [hs0] at hs
  cases hs
  cases d with
  | dK ks2 ds2 =>
    obtain ⟨b, xs2, rfl, hb, rl2, hl2⟩ := (show ∃ a xs, v = .ref a ∧ H1 a = some (.dK (ks2.zip xs)) ∧ RepL K H1 ds2 xs ∧ ks2.length = xs.length from rv)
    have hab : a0 ≠ b := fun z => by
      have := ((f1.wd.own i io _ h1).2 a0 (by rw [hla]; exact List.mem_cons_self)).1
      rw [z, hb] at this
      cases this
    obtain ⟨m1, m2⟩ := merge_zip (ks2 := ks2) (xs2 := xs2) hl hl2
    refine ⟨b, _, _, rfl, hab, ha, f1.wd.ex _ _ hb, by rw [List.length_zip, List.length_zip, ← hl, ← hl2, Nat.min_self, Nat.min_self]; exact sz_le q.1, ?_⟩
    rw [m1]
    exact k _ .non _ H1 _ (f1.setD h1 hla (rl.mgV rl2) m2) e1 rfl q.2
  | _ => exact (show False from q).elim
/-! ### sorted lists of flat things, from a look -/
def FuB (K : PySem.W.Frag) (r : List V → Hp → VK → Prop) (x : X1s) : Prop := ∀ (H0 H : Hp) (ds : List D) (vs : List V) (R : D → Prop), Ex H0 H → RepL K H0 ds vs → x ds R →
  ∀ Q : VK, (∀ (es : List D) (zs : List V) (p : Addr), R (.lst es) → (∀ H', RepL K H' es zs) → H p = none → Q (.ref p) (L2.upd H p (.lst zs))) → r vs H Q
theorem FuB.rbf {r : List V → Hp → VK → Prop} {x : X1s} (h : FuB K r x) : RfBF K r x := fun B H0 H al E σ f ds vs ra Q R hx k =>
  h H0 H ds vs R f.wd.ex ra hx Q fun es zs p q rz hp => k [p] (.lst es) H0 _ ⟨f.wd.raw hp, f.sg⟩ (Ex.refl _) ⟨p, zs, rfl, upd_same, rz _⟩ (f.wd.fre hp) q
theorem ff_cbp {r : List V → Hp → VK → Prop} {x : X1s} {i : Nat} (hr : FuB K r x) : RfF K (tCB r (tCons (tVar i) tNil)) (xCBp x i) := fun B H0 H al E σ f Q R hx k => by
  obtain ⟨v, a, Hp', hv, ra, e2, e3, q2⟩ := f.peek hx
  exact ⟨v, hv, hr Hp' H [a] [v] _ e3 (.one ra) q2 Q fun es zs p q rz hp => k [p] (.lst es) E H0 _ ⟨f.wd.raw hp, f.sg⟩ (Ex.refl _) ⟨p, zs, rfl, upd_same, rz _⟩ (f.wd.fre hp) q⟩
/-- sorted(xs), xs a list of ints -/
def xSortI : X1s := one1 fun d R => match d with
  | .lst xs => (match intsOf xs with | some ns => ∀ ys : List Int, ys.Perm ns → ys.Pairwise (· ≤ ·) → R (.lst (ys.map D.int)) | none => False)
  | _ => False
theorem fu_sortI : FuB K (rSortedI K) xSortI := fun H0 H ds vs R e ra hx Q k => by
  unfold xSortI one1 at hx
  split at hx
  · rename_i d
    obtain ⟨v, rfl, r⟩ := repl_one ra
    split at hx
    · rename_i xs
      obtain ⟨a, ys, rfl, hq, rl⟩ := (show ∃ a ys, v = .ref a ∧ H0 a = some (.lst ys) ∧ RepL K H0 xs ys from r)
      split at hx
      · rename_i ns hn
        rw [intsOf_eq hn] at rl
        rw [repl_ints_eq rl] at hq
        exact ⟨a, ns, rfl, SqL.of (e _ _ hq), fun ns' p h1 h2 hp => k _ _ p (hx ns' h1 h2) (fun H' => repl_ints ns') hp⟩
      · exact hx.elim
    · exact hx.elim
  · exact hx.elim
/-- the ints that keys are -/
def keyInts : List Key → Option (List Int)
  | [] => some []
  | .inl i :: r => (keyInts r).map (i :: ·)
  | .inr _ :: _ => none
theorem keyInts_map : ∀ ns : List Int, keyInts (ns.map Sum.inl) = some ns
  | [] => rfl
  | n :: ns => by show (keyInts (ns.map Sum.inl)).map (n :: ·) = _; rw [keyInts_map ns]; rfl
theorem keyInts_eq : ∀ {ks : List Key} {ns : List Int}, keyInts ks = some ns → ks = ns.map Sum.inl
  | [], ns, h => by cases h; rfl
  | .inl i :: r, ns, h => by
    obtain ⟨ms, e, rfl⟩ := Option.map_eq_some_iff.mp (show (keyInts r).map (i :: ·) = some ns from h)
    rw [keyInts_eq e]; rfl
  | .inr _ :: _, _, h => by cases h
/-- sorted(d), d a dict with int keys -/
abbrev rSortD : List V → Hp → VK → Prop := fun xs H Q => ∃ (a : Addr) (kvs : List (Key × V)) (ks : List Int), xs = [.ref a] ∧ Rd H a (.dK kvs) ∧ kvs.map (·.1) = ks.map Sum.inl ∧ ks.length < 64 ∧
    ∀ (ys : List Int) (p : Addr), ys.Perm ks → ys.Pairwise (· ≤ ·) → H p = none → Q (.ref p) (L2.upd H p (.lst (ys.map V.int)))
theorem callSortD {X : Cx} (hc : X.calm = true) : CallR X (.builtin "sorted") rSortD := call_sortedDI hc
def xSortD : X1s := one1 fun d R => match d with
  | .dK ks _ => (match keyInts ks with | some ns => ns.length < 64 ∧ ∀ ys : List Int, ys.Perm ns → ys.Pairwise (· ≤ ·) → R (.lst (ys.map D.int)) | none => False)
  | _ => False
theorem fu_sortD : FuB K rSortD xSortD := fun H0 H ds vs R e ra hx Q k => by
  unfold xSortD one1 at hx
  split at hx
  · rename_i d
    obtain ⟨v, rfl, r⟩ := repl_one ra
    split at hx
    · rename_i ks es
      obtain ⟨a, ys, rfl, hq, rl, hl⟩ := (show ∃ a ys, v = .ref a ∧ H0 a = some (.dK (ks.zip ys)) ∧ RepL K H0 es ys ∧ ks.length = ys.length from r)
      split at hx
      · rename_i ns hn
        refine ⟨a, _, ns, rfl, .inl (e _ _ hq), ?_, hx.1, fun zs p h1 h2 hp => k _ _ p (hx.2 zs h1 h2) (fun H' => repl_ints zs) hp⟩
        rw [List.map_fst_zip (by rw [hl]; exact Nat.le_refl _)]
        exact keyInts_eq hn
      · exact hx.elim
    · exact hx.elim
  · exact hx.elim
/-! ### sorted(set(t)), t a tuple of ints -/
def rSetT (K : PySem.W.Frag) (w : World) : List V → Hp → VK → Prop := fun vs H Q => ∃ (p : Addr) (ns : List Int), vs = [.ref p] ∧ SqT K H p (ns.map V.int) ∧ ns.length < 64 ∧ ∀ (q : Addr) (c : Nat), H q = none → c ≤ ns.length → Q (.ref q) (L2.upd H q (SetO w q (fun j => decide (j ∈ ns)) c))
theorem cr_setT {X : Cx} (hc : X.calm = true) : CallR X (.type "set") (rSetT X.K X.w) := by
  intro pins s σ H vs us Q I r h
  obtain ⟨p, ns, rfl, hq, hz, q⟩ := h
  obtain ⟨its, rv, pt, _⟩ := I.tuple hq
  rw [Vals.ref1 r]
  refine call_set_tupI ns (I.ok.hd hc) (show s.heap.IsTuple p its.toArray from pt) (ints_of_vals rv) (by unfold scanBound; omega) fun h' tk c R1 hcn hk => ?_
  exact ⟨.ref _, _, I.laid (t' := tk) hk (Nat.le_refl _) (setO_new R1), rfl, q _ c (I.hok.fresh (Nat.le_refl _)) hcn⟩
def rSortSet (K : PySem.W.Frag) (w : World) (t : TA) : TA := fun σ H Q => t σ H fun vs H1 => rSetT K w vs H1 fun v H2 => Q [v] H2
/-- the reading of sorted(set(e)) -/
def tSortSet (K : PySem.W.Frag) (w : World) (te : TE) : TE := tCB (rSortedSet w) (tCons (tCB (rSetT K w) (tCons te tNil)) tNil)
def xSortSet (x : XE) : XE := fun E R => x E fun d E1 => match d with
  | .tup xs => (match intsOf xs with | some ns => ns.length < 64 ∧ ∀ ys : List Int, ys.Pairwise (· < ·) → (∀ k : Int, k ∈ ys ↔ k ∈ ns) → R (.lst (ys.map D.int)) E1 | none => False)
  | _ => False
theorem ff_sortSet {w : World} {t : TE} {x : XE} (h : Rf K t x) : RfF K (tCB (rSortedSet w) (tCons (tCB (rSetT K w) (tCons t tNil)) tNil)) (xSortSet x) := fun B H0 H al E σ f Q R hx k =>
  h B H0 H al E σ f _ _ hx fun v d E1 H1 H1' f1 e1 r q => by
    split at q
    · rename_i xs
      obtain ⟨a, ys, rfl, hq, rl⟩ := rep_tup r
      split at q
      · rename_i ns hn
        rw [intsOf_eq hn] at rl
        rw [repl_ints_eq rl] at hq
        refine ⟨a, ns, rfl, ex_t f1.wd.ex hq, q.1, fun s c hs hc => ⟨s, _, c, rfl, upd_same, Nat.lt_of_le_of_lt hc q.1, fun ms p h1 h2 _ hp => ?_⟩⟩
        have fs : Fr K B H1 (L2.upd H1' s (SetO w s (fun j => decide (j ∈ ns)) c)) al E1 σ := ⟨f1.wd.raw hs, f1.sg⟩
        exact k [p] (.lst (ms.map D.int)) E1 H1 _ ⟨fs.wd.raw hp, fs.sg⟩ e1 ⟨p, _, rfl, upd_same, repl_ints ms⟩ (fs.wd.fre hp) (q.2 ms h1 fun j => by rw [h2 j, decide_eq_true_eq])
      · exact q.elim
    · exact q.elim
/-! ### list(range(n)) -/
def xListR (x : XE) : XE := fun E R => x E fun d E1 => match d with
  | .int n => n ≤ 16777216 ∧ -(2 ^ 62) ≤ n ∧ R (.lst (rgD 0 n.toNat)) E1
  | _ => False
theorem repl_rg {H : Hp} {n : Int} : RepL K H (rgD 0 n.toNat) (rgV 0 n) := by
  unfold rgD rgV
  rw [Int.sub_zero]
  generalize List.range n.toNat = l
  induction l with
  | nil => exact rfl
  | cons a l ih => exact ⟨.int (0 + (a : Nat)), _, rfl, rfl, ih⟩
theorem ff_listR {t : TE} {x : XE} (h : Rf K t x) : RfF K (tLstRg (tRg1 t)) (xListR x) := fun B H0 H al E σ f Q R hx k =>
  h B H0 H al E σ f _ _ hx fun v d E1 H1 H1' f1 e1 r q => by
    cases d with
    | int n =>
      exact ⟨n, r, ⟨by omega, by omega, q.2.1, by omega, by omega⟩, fun p hp => k [p] (.lst (rgD 0 n.toNat)) E1 H1 _ ⟨f1.wd.raw hp, f1.sg⟩ e1 ⟨p, _, rfl, upd_same, repl_rg⟩ (f1.wd.fre hp) q.2.2⟩
    | _ => exact (show False from q).elim
/-! ### [..] * n -/
def xRep (x : XV) (y : XE) : XE := fun E R => x E fun ds E1 => ds.length ≤ 16777216 ∧ y E1 fun d E2 => match d with
  | .int n => -(2 ^ 62) ≤ n ∧ n < 2 ^ 62 ∧ ds.length * n.toNat ≤ 16777216 ∧ R (.lst (List.replicate n.toNat ds).flatten) E2
  | _ => False
theorem RepL.rep {H : Hp} {ds : List D} {xs : List V} (r : RepL K H ds xs) : ∀ n : Nat, RepL K H (List.replicate n ds).flatten (List.replicate n xs).flatten
  | 0 => rfl
  | n + 1 => by
    rw [List.replicate_succ, List.replicate_succ, List.flatten_cons, List.flatten_cons]
    exact r.append (RepL.rep r n)
theorem ff_rep {t : TA} {u : TE} {x : XV} {y : XE} (h : RfV K t x) (h2 : Rf K u y) : RfF K (tOp rRep (tLst t) u) (xRep x y) := fun B H0 H al E σ f Q R hx k =>
  h B H0 H al E σ f _ _ hx fun vs ds E1 H1 H1' f1 e1 r q => by
    refine ⟨?_, fun p hp => ?_⟩
    · rw [r.length]
      exact sz_le q.1
    · have w1 : Wd K B H1 (L2.upd H1' p (.lst vs)) al E1 := f1.wd.raw hp
      have n1 : ∀ j jo e, nth E1 j = .own jo e → p ∉ al j := fun j jo e hj => f1.wd.ne hp hj
      have g0 : H1 p = none := f1.wd.ex.free hp
      have fb : Fr K (B.here H1 (L2.upd H1' p (.lst vs)) al E1) H1 (L2.upd H1' p (.lst vs)) al E1 σ := ⟨w1.here, f1.sg⟩
      refine h2 _ H1 _ al E1 σ fb _ _ q.2 fun v d E2 H2 H2' f2 e2 r2 q2 => ?_
      obtain ⟨a1, a2, a3⟩ := Wd.beside w1 upd_same (fun _ z => by cases z) g0 n1 f2.wd
      cases d with
      | int n =>
        obtain ⟨b1, b2, b3, q3⟩ := q2
        refine ⟨p, n, vs, rfl, r2, a1, by omega, by omega, by rw [r.length]; exact sz_le b3, fun p2 hp2 => ?_⟩
        have wb := w1.back f2.wd
        exact k [p2] (.lst (List.replicate n.toNat ds).flatten) E2 H2 _ ⟨wb.raw hp2, f2.sg⟩ (e1.trans e2) ⟨p2, _, rfl, upd_same, (r.mono e2).rep n.toNat⟩ (wb.fre hp2) q3
      | _ => exact (show False from q2).elim
end
end Pw
end

section
set_option maxRecDepth 100000
set_option maxHeartbeats 2000000
namespace Pw
open PySem L2
section
variable {K : PySem.W.Frag}
/-! ### sorted(xs), xs a list of pairs of ints -/
def pairD (p : Int × Int) : D := .tup [.int p.1, .int p.2]
def pairsD : List D → Option (List (Int × Int))
  | [] => some []
  | .tup [.int i, .int j] :: r => (pairsD r).map ((i, j) :: ·)
  | _ :: _ => none
theorem pairsD_map : ∀ ps : List (Int × Int), pairsD (ps.map pairD) = some ps
  | [] => rfl
  | p :: ps => by show (pairsD (ps.map pairD)).map (p :: ·) = _; rw [pairsD_map ps]; rfl
theorem pairsD_eq : ∀ {ds : List D} {ps : List (Int × Int)}, pairsD ds = some ps → ds = ps.map pairD
  | [], ps, h => by cases h; rfl
  | d :: r, ps, h => by
    unfold pairsD at h
    split at h
    · rename_i hh; cases hh
    · rename_i i j r' hh
      cases hh
      obtain ⟨qs, e, rfl⟩ := Option.map_eq_some_iff.mp h
      rw [pairsD_eq e]; rfl
    · cases h
/-- first by the first, then by the second -/
def lexLe (p q : Int × Int) : Prop := p.1 < q.1 ∨ p.1 = q.1 ∧ p.2 ≤ q.2
def xSortP : X1s := one1 fun d R => match d with
  | .lst xs => (match pairsD xs with | some ps => ∀ ys : List (Int × Int), ys.Perm ps → ys.Pairwise lexLe → R (.lst (ys.map pairD)) | none => False)
  | _ => False
/-- the pair that stands at x -/
def pairAt (H : Hp) (x : V) : Int × Int := match x with
  | .ref t => (match H t with | some (.tup [.int i, .int j]) => (i, j) | _ => (0, 0))
  | _ => (0, 0)
theorem pair_rep {H : Hp} {p : Int × Int} {x : V} (r : Rep K H (pairD p) x) : (∃ t, x = .ref t ∧ H t = some (.tup [.int p.1, .int p.2])) ∧ pairAt H x = p := by
  obtain ⟨t, xs, rfl, ht, rl⟩ := rep_tupD r
  obtain ⟨u, v, rfl, r1, r2⟩ := repl_two rl
  cases (show u = V.int p.1 from r1)
  cases (show v = V.int p.2 from r2)
  refine ⟨⟨t, rfl, ht⟩, ?_⟩
  unfold pairAt
  simp only [ht]
theorem pairs_rep {H : Hp} : ∀ {ps : List (Int × Int)} {xs : List V}, RepL K H (ps.map pairD) xs → ps = xs.map (pairAt H) ∧ ∀ x ∈ xs, Rep K H (pairD (pairAt H x)) x
  | [], xs, r => by cases (show xs = [] from r); exact ⟨rfl, fun x h => by cases h⟩
  | p :: ps, xs, r => by
    obtain ⟨x, ys, rfl, r1, r2⟩ := (show ∃ x ys, xs = x :: ys ∧ Rep K H (pairD p) x ∧ RepL K H (ps.map pairD) ys from r)
    obtain ⟨h1, h2⟩ := pairs_rep r2
    have e := (pair_rep r1).2
    refine ⟨by rw [List.map_cons, e, ← h1], fun y hy => ?_⟩
    rcases List.mem_cons.mp hy with z | z
    · subst z; rw [e]; exact r1
    · exact h2 y z
theorem repl_of_each {H : Hp} {f : V → D} : ∀ {xs : List V}, (∀ x ∈ xs, Rep K H (f x) x) → RepL K H (xs.map f) xs
  | [], _ => rfl
  | x :: xs, h => ⟨x, xs, rfl, h x List.mem_cons_self, repl_of_each fun y hy => h y (List.mem_cons_of_mem _ hy)⟩
theorem rbf_sortP : RfBF K (rSortedPO K) xSortP := fun B H0 H al E σ f ds vs ra Q R hx k => by
  unfold xSortP one1 at hx
  split at hx
  · rename_i d
    obtain ⟨v, rfl, r⟩ := repl_one ra
    split at hx
    · rename_i xs
      obtain ⟨a, ys, rfl, hq, rl⟩ := (show ∃ a ys, v = .ref a ∧ H0 a = some (.lst ys) ∧ RepL K H0 xs ys from r)
      split at hx
      · rename_i ps hn
        rw [pairsD_eq hn] at rl
        obtain ⟨e1, e2⟩ := pairs_rep rl
        refine ⟨a, ys, pairAt H0, rfl, SqL.of (f.wd.ex _ _ hq), fun x hx => ?_, fun zs p h1 h2 hp => ?_⟩
        · obtain ⟨t, e, ht⟩ := (pair_rep (e2 x hx)).1
          exact ⟨t, e, f.wd.ex _ _ ht⟩
        · have hz : ∀ z ∈ zs, Rep K H0 (pairD (pairAt H0 z)) z := fun z hz => e2 z (h2.perm.mem_iff.mp hz)
          have q := hx (zs.map (pairAt H0)) (by rw [e1]; exact h2.perm.map _) (List.pairwise_map.mpr (h1.imp fun {x y} h => by
            have h := SrtO.lexB_no.mp h
            unfold lexLe
            omega))
          rw [List.map_map] at q
          exact k [p] (.lst (zs.map fun z => pairD (pairAt H0 z))) H0 _ ⟨f.wd.raw hp, f.sg⟩ (Ex.refl _) ⟨p, zs, rfl, upd_same, repl_of_each hz⟩ (f.wd.fre hp) q
      · exact hx.elim
    · exact hx.elim
  · exact hx.elim
/-! ### tuple.index of an int -/
def rTIndex (K : PySem.W.Frag) : V → List V → Hp → VK → Prop := fun x xs H Q => ∃ (p : Addr) (ns : List Int) (k : Int), x = .ref p ∧ xs = [.int k] ∧ SqT K H p (ns.map V.int) ∧ k ∈ ns ∧ Q (.int (ns.idxOf k : Nat)) H
theorem mt_tindex {X : Cx} : MtR X "tuple.index" (rTIndex X.K) := by
  intro pins s σ H x xs v us Q I rx rs h
  obtain ⟨p, ns, k, rfl, rfl, hq, hk, q⟩ := h
  cases rx
  obtain ⟨u, rfl, t, rfl⟩ := vals1 rs
  obtain ⟨its, r, pl, hz⟩ := I.tuple hq
  exact SeqAt.tuple_index_ints (show s.heap.IsTuple p its.toArray from pl) (ints_of_vals r) hk ⟨.int (ns.idxOf k : Nat), H, I.tok _, ⟨_, rfl⟩, q⟩
/-- tuple(xs), the new tuple's object known -/
def rTupF (K : PySem.W.Frag) : List V → Hp → VK → Prop := fun xs H Q => ∃ p ys, xs = [.ref p] ∧ SqL K H p ys ∧ ∀ (l : Addr) (o : Obj), H l = none → o.dict = none → Q (.ref l) (L2.upd H l (.frz o (.tup ys)))
theorem call_tupF {X : Cx} : CallR X (.type "tuple") (rTupF X.K) := by
  intro pins s σ H vs us Q I r h
  obtain ⟨p, ys, rfl, hs, q⟩ := h
  obtain ⟨its, rv, pl, hz⟩ := I.list hs
  rw [Vals.ref1 r]
  refine call_tuple_list pl.isList (fun h' hk => ?_) (by rw [List.size_toArray, ← rv.length]; exact hz)
  have I1 : L2.Inv X pins σ H { s with heap := h' } := I.kept (t' := s.toks) hk
  have hget : (h'.push { cls := .type "tuple", data := .seq its.toArray }).get? h'.objs.size = some { cls := .type "tuple", data := .seq its.toArray } := Heap.get?_push_size _ rfl
  exact ⟨.ref h'.objs.size, _, I1.laid (t' := s.toks) (fun b o e => Heap.get?_push_of_some _ e) (Nat.le_refl _) (show ObjOk X.prog X.w _ _ _ (.frz { cls := .type "tuple", data := .seq its.toArray } (.tup ys)) from ⟨hget, hz, its, rv, _, hget, rfl, ⟨_, rfl⟩⟩), rfl, q _ _ (I1.hok.fresh (Nat.le_refl _)) rfl⟩
def xTupleF : X1s := one1 fun d R => match d with
  | .lst xs => R (.ftup xs)
  | _ => False
theorem rb_tupleF : RfB K (rTupF K) xTupleF := fun B H0 H al E σ f ds vs ra Q R hx k => by
  unfold xTupleF one1 at hx
  split at hx
  · rename_i d
    obtain ⟨v, rfl, r⟩ := repl_one ra
    split at hx
    · rename_i xs
      obtain ⟨a, ys, rfl, hq, rl⟩ := (show ∃ a ys, v = .ref a ∧ H0 a = some (.lst ys) ∧ RepL K H0 xs ys from r)
      refine ⟨a, ys, rfl, SqL.of (f.wd.ex _ _ hq), fun l o hl ho => ?_⟩
      have e := Ex.new (o := .frz o (.tup ys)) (f.wd.ex.free hl)
      exact k _ (.ftup xs) _ _ ⟨f.wd.new hl, f.sg.mono e⟩ e ⟨l, ys, o, rfl, upd_same, ho, rl.mono e⟩ hx
    · exact hx.elim
  · exact hx.elim
def tTIndex (K : PySem.W.Frag) (to te : TE) : TE := fun σ H Q => to σ H fun x H1 => ∃ p, x = .ref p ∧ (∃ xs o, H1 p = some (.frz o (.tup xs)) ∧ o.dict = none) ∧ te σ H1 fun y H2 => ∃ (ns : List Int) (k : Int), y = .int k ∧ SqT K H2 p (ns.map V.int) ∧ k ∈ ns ∧ Q (.int (ns.idxOf k : Nat)) H2
theorem pe_tindex {X : Cx} {o e : Expr} {apos cpos : Pos} {td te : TE} (ho : PE X o td) (he : PE X e te) (m : M1 X o "index" apos e cpos) : PE X (.Call (.Attribute o "index" apos) [e] [] cpos) (tTIndex X.K td te) := by
  refine ⟨fun pins s σ H Q I h => ?_⟩
  refine wpAny_Call_method m.base m.few m.line PySem.F.plainAttrs_tuple PySem.F.slot_tuple_index PySem.F.type_tuple_index (thn (ho.run pins s σ H _ I h) fun u s1 ⟨x, H1, I1, rx, a, ex, d, q1⟩ => ?_)
  subst ex
  obtain rfl : u = Value.ref a := rx
  obtain ⟨xs, ob, hq0, hdn⟩ := d
  obtain ⟨hget, _, its, r, pl⟩ := I1.hok a _ hq0
  have hT : s1.heap.IsTuple a its.toArray := pl
  refine ⟨hT.typeIs, fun b q => ?_, ?_⟩
  · cases q
    exact ⟨ob, hget, hdn⟩
  · rw [m.trees]
    refine Calls.callWith_builtin rfl (Calls.evalArgs_plain (Calls.spliced_cons (thn (he.run pins s1 σ H1 _ I1 q1) fun iv s2 ⟨y, H2, I2, ry, ns, k, ey, hq, hk, q2⟩ => Calls.spliced_nil ?_)))
    exact mt_tindex pins s2 σ H2 (.ref a) [y] (.ref a) [iv] Q I2 rfl (.cons ry .nil) ⟨a, ns, k, rfl, by rw [ey], hq, hk, q2⟩
def xTIndexP (i : Nat) (x : XE) : XE := fun E R => pk E i (fun d => match d with | .ftup _ => True | _ => False) ∧ x E fun y E1 => pk E1 i fun a => match a, y with
  | .ftup xs, .int k => (match intsOf xs with | some ns => k ∈ ns ∧ R (.int (ns.idxOf k : Nat)) E1 | none => False)
  | _, _ => False
theorem rf_tindexP {i : Nat} {t : TE} {x : XE} (h : Rf K t x) : Rf K (tTIndex K (tVar i) t) (xTIndexP i x) := fun B H0 H al E σ f Q R hx k => by
  obtain ⟨v, d, Hp', hv, rd, e1, e2, hd⟩ := f.peek hx.1
  obtain ⟨p, hvp, hq0⟩ : ∃ p, v = .ref p ∧ ∃ xs o, H p = some (.frz o (.tup xs)) ∧ o.dict = none := by
    cases d with
    | ftup xs =>
      obtain ⟨a, ys, o, rfl, hq, ho, _⟩ := (show ∃ a ys o, v = .ref a ∧ Hp' a = some (.frz o (.tup ys)) ∧ o.dict = none ∧ RepL K Hp' xs ys from rd)
      exact ⟨a, rfl, ys, o, e2 _ _ hq, ho⟩
    | _ => exact hd.elim
  subst hvp
  refine ⟨.ref p, hv, p, rfl, hq0, h B H0 H al E σ f _ _ hx.2 fun w y E1 H1 H1' f1 e3 ry q => ?_⟩
  obtain ⟨v', a, Hp2, hv', ra, e4, e5, q2⟩ := f1.peek q
  rw [hv] at hv'
  cases hv'
  split at q2
  · rename_i xs kk
    split at q2
    · rename_i ns hn
      obtain ⟨a, ys, o, ea, hq, ho, rl⟩ := (show ∃ a ys o, V.ref p = .ref a ∧ Hp2 a = some (.frz o (.tup ys)) ∧ o.dict = none ∧ RepL K Hp2 xs ys from ra)
      cases ea
      rw [intsOf_eq hn] at rl
      rw [repl_ints_eq rl] at hq
      cases (show w = V.int kk from ry)
      exact ⟨ns, kk, rfl, .inl (.inr ⟨o, e5 _ _ hq⟩), q2.1, k _ (.int _) E1 H1 H1' f1 e3 rfl q2.2⟩
    · exact q2.elim
  · exact q2.elim
end
end Pw
end

section
set_option maxRecDepth 100000
set_option maxHeartbeats 2000000
namespace Pw
open PySem L2
/-! ### dicts with int keys -/
def selDk (s : Sl) (k : List Key → List D → Prop) : Prop := match s with
  | .val (.dK ks ds) => k ks ds
  | .own _ (.dK ks ds) => k ks ds
  | _ => False
theorem selDk_val {ks : List Key} {ds : List D} {k : List Key → List D → Prop} : selDk (.val (.dK ks ds)) k = k ks ds := rfl
theorem selDk_own {io : Bool} {ks : List Key} {ds : List D} {k : List Key → List D → Prop} : selDk (.own io (.dK ks ds)) k = k ks ds := rfl
def selODk (s : Sl) (k : Bool → List Key → List D → Prop) : Prop := match s with
  | .own io (.dK ks ds) => k io ks ds
  | _ => False
theorem selODk_own {io : Bool} {ks : List Key} {ds : List D} {k : Bool → List Key → List D → Prop} : selODk (.own io (.dK ks ds)) k = k io ks ds := rfl
def selK (y : D) (k : Key → Prop) : Prop := match keyD y with
  | some q => k q
  | none => False
theorem selK_int {i : Int} {k : Key → Prop} : selK (.int i) k = k (.inl i) := rfl
theorem selK_str {i : Str} {k : Key → Prop} : selK (.str i) k = k (.inr i) := rfl
def selSm (o : Option D) (k : D → Prop) : Prop := match o with
  | some d => k d
  | none => False
theorem selSm_some {d : D} {k : D → Prop} : selSm (some d) k = k d := rfl
def kTr2 (_ : List Key) (_ : List D) : Prop := True
theorem kTr2_ap {ks : List Key} {ds : List D} : kTr2 ks ds = True := rfl
def kTr3 (_ : Bool) (_ : List Key) (_ : List D) : Prop := True
theorem kTr3_ap {io : Bool} {ks : List Key} {ds : List D} : kTr3 io ks ds = True := rfl

def k_xDIn3 (R : D → List Sl → Prop) (neg : Bool) (ks : List Key) (ds : List D) (E1 : List Sl) (kk : Key) : Prop := R (.bl (neg ^^ (lk ks ds kk).isSome)) E1
theorem k_xDIn3_ap {R : D → List Sl → Prop} {neg : Bool} {ks : List Key} {ds : List D} {E1 : List Sl} {kk : Key} : k_xDIn3 R neg ks ds E1 kk = (R (.bl (neg ^^ (lk ks ds kk).isSome)) E1) := rfl
def k_xDIn2 (y : D) (R : D → List Sl → Prop) (neg : Bool) (E1 : List Sl) (ks : List Key) (ds : List D) : Prop := selK y (k_xDIn3 R neg ks ds E1)
theorem k_xDIn2_ap {y : D} {R : D → List Sl → Prop} {neg : Bool} {E1 : List Sl} {ks : List Key} {ds : List D} : k_xDIn2 y R neg E1 ks ds = (selK y (k_xDIn3 R neg ks ds E1)) := rfl
def k_xDIn1 (ix : Nat) (R : D → List Sl → Prop) (neg : Bool) (y : D) (E1 : List Sl) : Prop := selDk (nth E1 ix) (k_xDIn2 y R neg E1)
theorem k_xDIn1_ap {ix : Nat} {R : D → List Sl → Prop} {neg : Bool} {y : D} {E1 : List Sl} : k_xDIn1 ix R neg y E1 = (selDk (nth E1 ix) (k_xDIn2 y R neg E1)) := rfl
theorem xDIn_ap {neg : Bool} {x : XE} {ix : Nat} {E : List Sl} {R : D → List Sl → Prop} : xDIn neg x ix E R = (x E (k_xDIn1 ix R neg)) := rfl
def k_xDGet4 (R : D → List Sl → Prop) (E1 : List Sl) (d : D) : Prop := R d E1
theorem k_xDGet4_ap {R : D → List Sl → Prop} {E1 : List Sl} {d : D} : k_xDGet4 R E1 d = (R d E1) := rfl
def k_xDGet3 (ks : List Key) (ds : List D) (R : D → List Sl → Prop) (E1 : List Sl) (kk : Key) : Prop := selSm (lk ks ds kk) (k_xDGet4 R E1)
theorem k_xDGet3_ap {ks : List Key} {ds : List D} {R : D → List Sl → Prop} {E1 : List Sl} {kk : Key} : k_xDGet3 ks ds R E1 kk = (selSm (lk ks ds kk) (k_xDGet4 R E1)) := rfl
def k_xDGet2 (y : D) (R : D → List Sl → Prop) (E1 : List Sl) (ks : List Key) (ds : List D) : Prop := selK y (k_xDGet3 ks ds R E1)
theorem k_xDGet2_ap {y : D} {R : D → List Sl → Prop} {E1 : List Sl} {ks : List Key} {ds : List D} : k_xDGet2 y R E1 ks ds = (selK y (k_xDGet3 ks ds R E1)) := rfl
def k_xDGet1 (ix : Nat) (R : D → List Sl → Prop) (y : D) (E1 : List Sl) : Prop := selDk (nth E1 ix) (k_xDGet2 y R E1)
theorem k_xDGet1_ap {ix : Nat} {R : D → List Sl → Prop} {y : D} {E1 : List Sl} : k_xDGet1 ix R y E1 = (selDk (nth E1 ix) (k_xDGet2 y R E1)) := rfl
theorem xDGet_ap {ix : Nat} {x : XE} {E : List Sl} {R : D → List Sl → Prop} : xDGet ix x E R = (nth E ix ≠ .un ∧ x E (k_xDGet1 ix R)) := rfl
def k_xDGet13 (R : D → List Sl → Prop) (ks : List Key) (ds : List D) (E1 : List Sl) (kk : Key) : Prop := R ((lk ks ds kk).getD .non) E1
theorem k_xDGet13_ap {R : D → List Sl → Prop} {ks : List Key} {ds : List D} {E1 : List Sl} {kk : Key} : k_xDGet13 R ks ds E1 kk = (R ((lk ks ds kk).getD .non) E1) := rfl
def k_xDGet12 (y : D) (R : D → List Sl → Prop) (E1 : List Sl) (ks : List Key) (ds : List D) : Prop := selK y (k_xDGet13 R ks ds E1)
theorem k_xDGet12_ap {y : D} {R : D → List Sl → Prop} {E1 : List Sl} {ks : List Key} {ds : List D} : k_xDGet12 y R E1 ks ds = (selK y (k_xDGet13 R ks ds E1)) := rfl
def k_xDGet11 (ix : Nat) (R : D → List Sl → Prop) (y : D) (E1 : List Sl) : Prop := selDk (nth E1 ix) (k_xDGet12 y R E1)
theorem k_xDGet11_ap {ix : Nat} {R : D → List Sl → Prop} {y : D} {E1 : List Sl} : k_xDGet11 ix R y E1 = (selDk (nth E1 ix) (k_xDGet12 y R E1)) := rfl
theorem xDGet1_ap {ix : Nat} {x : XE} {E : List Sl} {R : D → List Sl → Prop} : xDGet1 ix x E R = (selDk (nth E ix) kTr2 ∧ x E (k_xDGet11 ix R)) := rfl
def k_xDGet24 (R : D → List Sl → Prop) (ks : List Key) (ds : List D) (d : D) (E2 : List Sl) (kk : Key) : Prop := R ((lk ks ds kk).getD d) E2
theorem k_xDGet24_ap {R : D → List Sl → Prop} {ks : List Key} {ds : List D} {d : D} {E2 : List Sl} {kk : Key} : k_xDGet24 R ks ds d E2 kk = (R ((lk ks ds kk).getD d) E2) := rfl
def k_xDGet23 (y : D) (R : D → List Sl → Prop) (d : D) (E2 : List Sl) (ks : List Key) (ds : List D) : Prop := selK y (k_xDGet24 R ks ds d E2)
theorem k_xDGet23_ap {y : D} {R : D → List Sl → Prop} {d : D} {E2 : List Sl} {ks : List Key} {ds : List D} : k_xDGet23 y R d E2 ks ds = (selK y (k_xDGet24 R ks ds d E2)) := rfl
def k_xDGet22 (ix : Nat) (y : D) (R : D → List Sl → Prop) (d : D) (E2 : List Sl) : Prop := selDk (nth E2 ix) (k_xDGet23 y R d E2)
theorem k_xDGet22_ap {ix : Nat} {y : D} {R : D → List Sl → Prop} {d : D} {E2 : List Sl} : k_xDGet22 ix y R d E2 = (selDk (nth E2 ix) (k_xDGet23 y R d E2)) := rfl
def k_xDGet21 (xe : XE) (ix : Nat) (R : D → List Sl → Prop) (y : D) (E1 : List Sl) : Prop := xe E1 (k_xDGet22 ix y R)
theorem k_xDGet21_ap {xe : XE} {ix : Nat} {R : D → List Sl → Prop} {y : D} {E1 : List Sl} : k_xDGet21 xe ix R y E1 = (xe E1 (k_xDGet22 ix y R)) := rfl
theorem xDGet2_ap {ix : Nat} {x : XE} {xe : XE} {E : List Sl} {R : D → List Sl → Prop} : xDGet2 ix x xe E R = (selDk (nth E ix) kTr2 ∧ x E (k_xDGet21 xe ix R)) := rfl
theorem xDNew_ap {E : List Sl} {R : D → List Sl → Prop} : xDNew E R = (R (.dK [] []) E) := rfl
def k_xDPut5 (ks : List Key) (XD : XEnds) (E2 : List Sl) (ix : Nat) (io : Bool) (ds : List D) (d : D) (kk : Key) : Prop := ks.length < 16777216 ∧ XD.nx (put E2 ix (.own io (.dK (ptK ks kk) (ptV ks ds kk d))))
theorem k_xDPut5_ap {ks : List Key} {XD : XEnds} {E2 : List Sl} {ix : Nat} {io : Bool} {ds : List D} {d : D} {kk : Key} : k_xDPut5 ks XD E2 ix io ds d kk = (ks.length < 16777216 ∧ XD.nx (put E2 ix (.own io (.dK (ptK ks kk) (ptV ks ds kk d))))) := rfl
def k_xDPut4 (y : D) (XD : XEnds) (E2 : List Sl) (ix : Nat) (d : D) (io : Bool) (ks : List Key) (ds : List D) : Prop := selK y (k_xDPut5 ks XD E2 ix io ds d)
theorem k_xDPut4_ap {y : D} {XD : XEnds} {E2 : List Sl} {ix : Nat} {d : D} {io : Bool} {ks : List Key} {ds : List D} : k_xDPut4 y XD E2 ix d io ks ds = (selK y (k_xDPut5 ks XD E2 ix io ds d)) := rfl
def k_xDPut3 (ix : Nat) (XD : XEnds) (d : D) (y : D) (E2 : List Sl) : Prop := selODk (nth E2 ix) (k_xDPut4 y XD E2 ix d)
theorem k_xDPut3_ap {ix : Nat} {XD : XEnds} {d : D} {y : D} {E2 : List Sl} : k_xDPut3 ix XD d y E2 = (selODk (nth E2 ix) (k_xDPut4 y XD E2 ix d)) := rfl
def k_xDPut2 (xk : XE) (E1 : List Sl) (ix : Nat) (XD : XEnds) (d : D) (jo : Bool) (kz : List Key) (es : List D) : Prop := xk E1 (k_xDPut3 ix XD d)
theorem k_xDPut2_ap {xk : XE} {E1 : List Sl} {ix : Nat} {XD : XEnds} {d : D} {jo : Bool} {kz : List Key} {es : List D} : k_xDPut2 xk E1 ix XD d jo kz es = (xk E1 (k_xDPut3 ix XD d)) := rfl
def k_xDPut1 (ix : Nat) (xk : XE) (XD : XEnds) (d : D) (E1 : List Sl) : Prop := selODk (nth E1 ix) (k_xDPut2 xk E1 ix XD d)
theorem k_xDPut1_ap {ix : Nat} {xk : XE} {XD : XEnds} {d : D} {E1 : List Sl} : k_xDPut1 ix xk XD d E1 = (selODk (nth E1 ix) (k_xDPut2 xk E1 ix XD d)) := rfl
theorem xDPut_ap {ix : Nat} {xk : XE} {xe : XE} {XD : XEnds} {E : List Sl} : xDPut ix xk xe XD E = (xe E (k_xDPut1 ix xk XD)) := rfl
def k_xDisp13 (R : D → List Sl → Prop) (d : D) (E2 : List Sl) (kk : Key) : Prop := R (.dK [kk] [d]) E2
theorem k_xDisp13_ap {R : D → List Sl → Prop} {d : D} {E2 : List Sl} {kk : Key} : k_xDisp13 R d E2 kk = (R (.dK [kk] [d]) E2) := rfl
def k_xDisp12 (y : D) (R : D → List Sl → Prop) (d : D) (E2 : List Sl) : Prop := selK y (k_xDisp13 R d E2)
theorem k_xDisp12_ap {y : D} {R : D → List Sl → Prop} {d : D} {E2 : List Sl} : k_xDisp12 y R d E2 = (selK y (k_xDisp13 R d E2)) := rfl
def k_xDisp11 (xe : XE) (R : D → List Sl → Prop) (y : D) (E1 : List Sl) : Prop := xe E1 (k_xDisp12 y R)
theorem k_xDisp11_ap {xe : XE} {R : D → List Sl → Prop} {y : D} {E1 : List Sl} : k_xDisp11 xe R y E1 = (xe E1 (k_xDisp12 y R)) := rfl
theorem xDisp1_ap {xk : XE} {xe : XE} {E : List Sl} {R : D → List Sl → Prop} : xDisp1 xk xe E R = (xk E (k_xDisp11 xe R)) := rfl
def selD2 (d : D) (k : List Key → List D → Prop) : Prop := match d with
  | .dK ks ds => k ks ds
  | _ => False
theorem selD2_ap {ks : List Key} {ds : List D} {k : List Key → List D → Prop} : selD2 (.dK ks ds) k = k ks ds := rfl
def k_xDUpd3 (ks : List Key) (R : D → List Sl → Prop) (E1 : List Sl) (ix : Nat) (io : Bool) (ds : List D) (kz : List Key) (es : List D) : Prop := ks.length + kz.length ≤ 16777216 ∧ R .non (put E1 ix (.own io (.dK (mgK ks kz) (mgV ks ds kz es))))
theorem k_xDUpd3_ap {ks : List Key} {R : D → List Sl → Prop} {E1 : List Sl} {ix : Nat} {io : Bool} {ds : List D} {kz : List Key} {es : List D} : k_xDUpd3 ks R E1 ix io ds kz es = (ks.length + kz.length ≤ 16777216 ∧ R .non (put E1 ix (.own io (.dK (mgK ks kz) (mgV ks ds kz es))))) := rfl
def k_xDUpd2 (d : D) (R : D → List Sl → Prop) (E1 : List Sl) (ix : Nat) (io : Bool) (ks : List Key) (ds : List D) : Prop := selD2 d (k_xDUpd3 ks R E1 ix io ds)
theorem k_xDUpd2_ap {d : D} {R : D → List Sl → Prop} {E1 : List Sl} {ix : Nat} {io : Bool} {ks : List Key} {ds : List D} : k_xDUpd2 d R E1 ix io ks ds = (selD2 d (k_xDUpd3 ks R E1 ix io ds)) := rfl
def k_xDUpd1 (ix : Nat) (R : D → List Sl → Prop) (d : D) (E1 : List Sl) : Prop := selODk (nth E1 ix) (k_xDUpd2 d R E1 ix)
theorem k_xDUpd1_ap {ix : Nat} {R : D → List Sl → Prop} {d : D} {E1 : List Sl} : k_xDUpd1 ix R d E1 = (selODk (nth E1 ix) (k_xDUpd2 d R E1 ix)) := rfl
theorem xDUpd_ap {ix : Nat} {x : XE} {E : List Sl} {R : D → List Sl → Prop} : xDUpd ix x E R = (selODk (nth E ix) kTr3 ∧ x E (k_xDUpd1 ix R)) := rfl
def k_xDc3 (RL : D → List Sl → Prop) (E1 : List Sl) (vs : List Nat) (ks : List Key) (acc : List D) (E2 : List Sl) : Prop := RL (.dK ks acc) (backE E1 vs E2)
theorem k_xDc3_ap {RL : D → List Sl → Prop} {E1 : List Sl} {vs : List Nat} {ks : List Key} {acc : List D} {E2 : List Sl} : k_xDc3 RL E1 vs ks acc E2 = RL (.dK ks acc) (backE E1 vs E2) := rfl
def k_xDc2 (g : XG) (xt : XT) (xk xe : XE) (vs : List Nat) (R : D → List Sl → Prop) (ds : List D) (E1 : List Sl) (_ : Unit) : Prop := xDcL g xt xk xe vs (k_xDc3 R E1 vs) ds [] [] (wipeE E1 vs)
theorem k_xDc2_ap {g : XG} {xt : XT} {xk xe : XE} {vs : List Nat} {R : D → List Sl → Prop} {ds : List D} {E1 : List Sl} {u : Unit} : k_xDc2 g xt xk xe vs R ds E1 u = xDcL g xt xk xe vs (k_xDc3 R E1 vs) ds [] [] (wipeE E1 vs) := rfl
def k_xDc1 (g : XG) (xt : XT) (xk xe : XE) (vs : List Nat) (R : D → List Sl → Prop) (ds : List D) (E1 : List Sl) : Prop := nOw E1 (k_xDc2 g xt xk xe vs R ds E1) vs
theorem k_xDc1_ap {g : XG} {xt : XT} {xk xe : XE} {vs : List Nat} {R : D → List Sl → Prop} {ds : List D} {E1 : List Sl} : k_xDc1 g xt xk xe vs R ds E1 = nOw E1 (k_xDc2 g xt xk xe vs R ds E1) vs := rfl
theorem xDc_ap {xi : XI} {g : XG} {xt : XT} {xk xe : XE} {vs : List Nat} {E : List Sl} {R : D → List Sl → Prop} : xDc xi g xt xk xe vs E R = xi E (k_xDc1 g xt xk xe vs R) := rfl
def k_dcK2 (kx : D → D → List Sl → Prop) (y z : D) (E4 : List Sl) : Prop := kx y z E4
theorem k_dcK2_ap {kx : D → D → List Sl → Prop} {y z : D} {E4 : List Sl} : k_dcK2 kx y z E4 = kx y z E4 := rfl
def k_dcK (xe : XE) (kx : D → D → List Sl → Prop) (y : D) (E3 : List Sl) : Prop := xe E3 (k_dcK2 kx y)
theorem k_dcK_ap {xe : XE} {kx : D → D → List Sl → Prop} {y : D} {E3 : List Sl} : k_dcK xe kx y E3 = xe E3 (k_dcK2 kx y) := rfl
def k_dc (xk xe : XE) (kx : D → D → List Sl → Prop) (E : List Sl) : Prop := xk E (k_dcK xe kx)
theorem k_dc_ap {xk xe : XE} {kx : D → D → List Sl → Prop} {E : List Sl} : k_dc xk xe kx E = xk E (k_dcK xe kx) := rfl
/-- int keys: places in a list of numbers -/
abbrev kN (l : List Nat) : List Key := l.map fun k => (Sum.inl ((k : Nat) : Int) : Key)
theorem kN_len {l : List Nat} : (kN l).length = l.length := List.length_map ..
theorem kN_mem {l : List Nat} {k : Nat} : (Sum.inl ((k : Nat) : Int) : Key) ∈ kN l ↔ k ∈ l := by
  simp only [List.mem_map]
  constructor
  · rintro ⟨a, ha, e⟩
    have : a = k := by have := Sum.inl.inj e; omega
    rw [← this]; exact ha
  · intro h; exact ⟨k, h, rfl⟩
theorem lk_nat {α : Type} {l : List Nat} {g : Nat → α} {k : Nat} : lk (kN l) (l.map g) (Sum.inl ((k : Nat) : Int) : Key) = if k ∈ l then some (g k) else none := by
  induction l with
  | nil => rfl
  | cons a l ih =>
    show (if (Sum.inl ((a : Nat) : Int) : Key) = Sum.inl ((k : Nat) : Int) then some (g a) else lk (kN l) (l.map g) _) = _
    rw [ih]
    by_cases h : a = k
    · subst h; simp
    · have h1 : (Sum.inl ((a : Nat) : Int) : Key) ≠ Sum.inl ((k : Nat) : Int) := fun z => h (by have := Sum.inl.inj z; omega)
      have h2 : ¬ k = a := fun z => h z.symm
      rw [if_neg h1]
      simp [h2]
theorem lk_in {α : Type} {l : List Nat} {g : Nat → α} {k : Nat} : (lk (kN l) (l.map g) (Sum.inl ((k : Nat) : Int) : Key)).isSome = decide (k ∈ l) := by
  rw [lk_nat]
  by_cases h : k ∈ l <;> simp [h]
theorem lk_get {l : List Nat} {g : Nat → D} {k : Nat} {R : D → Prop} (h : k ∈ l) : selSm (lk (kN l) (l.map g) (Sum.inl ((k : Nat) : Int) : Key)) R = R (g k) := by
  rw [lk_nat, if_pos h]; rfl
theorem lk_get1 {α : Type} {l : List Nat} {g : Nat → α} {k : Nat} {d : α} : (lk (kN l) (l.map g) (Sum.inl ((k : Nat) : Int) : Key)).getD d = if k ∈ l then g k else d := by
  rw [lk_nat]
  by_cases h : k ∈ l <;> simp [h]
/-- one more, if it is not there -/
def ptl {α : Type} [DecidableEq α] (l : List α) (k : α) : List α := if k ∈ l then l else l ++ [k]
theorem ptK_nat {l : List Nat} {k : Nat} : ptK (kN l) (Sum.inl ((k : Nat) : Int) : Key) = kN (ptl l k) := by
  unfold ptK ptl
  by_cases h : k ∈ l
  · rw [if_pos (kN_mem.mpr h), if_pos h]
  · rw [if_neg fun z => h (kN_mem.mp z), if_neg h]; unfold kN; rw [List.map_append]; rfl
theorem rpl_nat {α : Type} {l : List Nat} {g : Nat → α} {k : Nat} {d : α} : rplK (kN l) (l.map g) (Sum.inl ((k : Nat) : Int) : Key) d = l.map fun x => if x = k then d else g x := by
  induction l with
  | nil => rfl
  | cons a l ih =>
    show (if (Sum.inl ((a : Nat) : Int) : Key) = Sum.inl ((k : Nat) : Int) then d else g a) :: rplK (kN l) (l.map g) _ d = _
    rw [ih, List.map_cons]
    congr 1
    by_cases h : a = k
    · subst h; simp
    · have h1 : (Sum.inl ((a : Nat) : Int) : Key) ≠ Sum.inl ((k : Nat) : Int) := fun z => h (by have := Sum.inl.inj z; omega)
      rw [if_neg h1, if_neg h]
theorem ptV_nat {α : Type} {l : List Nat} {g : Nat → α} {k : Nat} {d : α} : ptV (kN l) (l.map g) (Sum.inl ((k : Nat) : Int) : Key) d = (ptl l k).map fun x => if x = k then d else g x := by
  unfold ptV ptl
  by_cases h : k ∈ l
  · rw [if_pos (kN_mem.mpr h), if_pos h, rpl_nat]
  · rw [if_neg fun z => h (kN_mem.mp z), if_neg h, List.map_append]
    congr 1
    · refine List.map_congr_left fun x hx => ?_
      rw [if_neg fun z => h (by rw [← z]; exact hx)]
    · simp
theorem mg_nat {α : Type} {g : Nat → α} : ∀ {fr l : List Nat}, (l ++ fr).Nodup → mgK (kN l) (kN fr) = kN (l ++ fr) ∧ mgV (kN l) (l.map g) (kN fr) (fr.map g) = (l ++ fr).map g
  | [], l, h => by
    rw [List.append_nil]
    refine ⟨by cases l <;> rfl, ?_⟩
    show mgV (kN l) (l.map g) [] [] = _
    rw [mgV]
    intro k r a s h1; cases h1
  | k :: fr, l, h => by
    have hk : k ∉ l := fun z => by
      have := List.nodup_append.mp h
      exact this.2.2 k z k List.mem_cons_self rfl
    have e : ptl l k = l ++ [k] := if_neg hk
    have ih := mg_nat (g := g) (fr := fr) (l := l ++ [k]) (by rw [List.append_assoc]; exact h)
    show mgK (ptK (kN l) (Sum.inl ((k : Nat) : Int) : Key)) (kN fr) = _ ∧ mgV (ptK (kN l) (Sum.inl ((k : Nat) : Int) : Key)) (ptV (kN l) (l.map g) (Sum.inl ((k : Nat) : Int) : Key) (g k)) (kN fr) (fr.map g) = _
    rw [ptK_nat, ptV_nat, e]
    have e2 : ((l ++ [k]).map fun x => if x = k then g k else g x) = (l ++ [k]).map g := List.map_congr_left fun x _ => by
      by_cases q : x = k
      · rw [if_pos q, q]
      · rw [if_neg q]
    rw [e2, ih.1, ih.2, List.append_assoc]
    exact ⟨rfl, rfl⟩
/-- {a: f a for a in ..}, the keys not twice -/
theorem dc_nat {g : XG} {xk xe : XE} {vs : List Nat} {R : List Key → List D → List Sl → Prop} {e : Nat → D} (f : Nat → D) : ∀ {l acc : List Nat} {E : List Sl},
    (∀ a, a ∈ l → ∀ k : D → D → List Sl → Prop, (∀ E', okE E E' vs → k (.int (a : Nat)) (f a) E') → g (e a) E (k_dc xk xe k)) → acc.length + l.length ≤ 16777216 → (acc ++ l).Nodup → R (kN (acc ++ l)) ((acc ++ l).map f) E → xDcL g xYes xk xe vs R (l.map e) (kN acc) (acc.map f) E := by
  intro l
  induction l with
  | nil => intro acc E _ _ _ h; rw [List.append_nil] at h; exact h
  | cons a l ih =>
    intro acc E hs hl nd h
    rw [List.length_cons] at hl
    have ha : a ∉ acc := fun z => (List.nodup_append.mp nd).2.2 a z a List.mem_cons_self rfl
    refine hs a List.mem_cons_self (fun y z E4 => (match keyD y with
      | some k => noOwn E4 vs ((kN acc).length < 16777216 ∧ xDcL g xYes xk xe vs R (l.map e) (ptK (kN acc) k) (ptV (kN acc) (acc.map f) k z) (wipeE E4 vs))
      | none => False)) fun E' ok => ?_
    refine ok.2 _ ⟨by rw [kN_len]; omega, ?_⟩
    rw [ok.1, ptK_nat, ptV_nat]
    have e1 : ptl acc a = acc ++ [a] := if_neg ha
    have e2 : ((acc ++ [a]).map fun x => if x = a then f a else f x) = (acc ++ [a]).map f := List.map_congr_left fun x _ => by
      by_cases q : x = a
      · rw [if_pos q, q]
      · rw [if_neg q]
    rw [e1, e2]
    refine ih (fun b hb => hs b (List.mem_cons_of_mem _ hb)) (by rw [List.length_append, List.length_singleton]; omega) (by rw [List.append_assoc]; exact nd) ?_
    rw [List.append_assoc]
    exact h
/-! ### sorts -/
theorem xSortI_map {α : Type} {l : List α} {f : α → Int} {R : D → Prop} (k : ∀ ys : List Int, ys.Perm (l.map f) → ys.Pairwise (· ≤ ·) → R (.lst (ys.map D.int))) : xSortI [.lst (l.map fun a => D.int (f a))] R := by
  have h := intsOf_map (l.map f)
  rw [List.map_map] at h
  show (match intsOf (l.map fun a => D.int (f a)) with | some ns => ∀ ys : List Int, ys.Perm ns → ys.Pairwise (· ≤ ·) → R (.lst (ys.map D.int)) | none => False)
  rw [show (l.map fun a => D.int (f a)) = l.map (D.int ∘ f) from rfl, h]
  exact k
/-- an ascending list without the same one twice is the ascending one -/
theorem sorted_eq : ∀ {xs ys : List Nat}, xs.Pairwise (· < ·) → ys.Pairwise (· < ·) → (∀ k, k ∈ xs ↔ k ∈ ys) → xs = ys
  | [], [], _, _, _ => rfl
  | [], y :: ys, _, _, h => by have := (h y).mpr List.mem_cons_self; cases this
  | x :: xs, [], _, _, h => by have := (h x).mp List.mem_cons_self; cases this
  | x :: xs, y :: ys, h1, h2, h => by
    have hx := fun {k : Nat} => List.rel_of_pairwise_cons (a' := k) h1
    have hy := fun {k : Nat} => List.rel_of_pairwise_cons (a' := k) h2
    have exy : x = y := by
      rcases List.mem_cons.mp ((h x).mp List.mem_cons_self) with e | e
      · exact e
      · rcases List.mem_cons.mp ((h y).mpr List.mem_cons_self) with e2 | e2
        · exact e2.symm
        · have := hy e; have := hx e2; omega
    subst exy
    congr 1
    refine sorted_eq h1.of_cons h2.of_cons fun k => ⟨fun hk => ?_, fun hk => ?_⟩
    · rcases List.mem_cons.mp ((h k).mp (List.mem_cons_of_mem _ hk)) with e | e
      · have := hx hk; omega
      · exact e
    · rcases List.mem_cons.mp ((h k).mpr (List.mem_cons_of_mem _ hk)) with e | e
      · have := hy hk; omega
      · exact e
theorem perm_nat {l : List Nat} {ys : List Int} (h : ys.Perm (l.map fun k => ((k : Nat) : Int))) : ys = (ys.map Int.toNat).map (fun k => ((k : Nat) : Int)) ∧ (ys.map Int.toNat).Perm l := by
  have h1 : ∀ y ∈ ys, 0 ≤ y := fun y hy => by
    obtain ⟨k, _, e⟩ := List.mem_map.mp (h.mem_iff.mp hy)
    omega
  refine ⟨?_, ?_⟩
  · rw [List.map_map]
    conv => lhs; rw [← List.map_id ys]
    refine List.map_congr_left fun y hy => ?_
    have := h1 y hy
    simp; omega
  · have := h.map Int.toNat
    rw [List.map_map] at this
    have e : (Int.toNat ∘ fun (k : Nat) => (k : Int)) = id := by funext k; simp
    rw [e, List.map_id] at this
    exact this
theorem sort_nat {l : List Nat} {ys : List Int} (nd : l.Nodup) (h : ys.Perm (l.map fun k => ((k : Nat) : Int))) (hs : ys.Pairwise (· ≤ ·)) : ∃ zs : List Nat, ys = zs.map (fun k => ((k : Nat) : Int)) ∧ zs.Perm l ∧ zs.Pairwise (· < ·) := by
  obtain ⟨h1, h2⟩ := perm_nat h
  refine ⟨_, h1, h2, ?_⟩
  have n2 : (ys.map Int.toNat).Nodup := h2.nodup_iff.mpr nd
  rw [h1, List.pairwise_map] at hs
  refine (hs.and n2).imp fun h => ?_
  have := h.1; have := h.2
  omega
theorem keyInts_nat {l : List Nat} : keyInts (kN l) = some (l.map fun k => ((k : Nat) : Int)) := by
  have := keyInts_map (l.map fun k => ((k : Nat) : Int))
  rw [List.map_map] at this
  exact this
theorem xSortD_nat {l : List Nat} {ds : List D} {R : D → Prop} (h64 : l.length < 64) (nd : l.Nodup) (k : ∀ zs : List Nat, zs.Perm l → zs.Pairwise (· < ·) → R (.lst (zs.map fun k => D.int ((k : Nat) : Int)))) : xSortD [.dK (kN l) ds] R := by
  show (match keyInts (kN l) with | some ns => ns.length < 64 ∧ ∀ ys : List Int, ys.Perm ns → ys.Pairwise (· ≤ ·) → R (.lst (ys.map D.int)) | none => False)
  rw [keyInts_nat]
  refine ⟨by rw [List.length_map]; exact h64, fun ys hp hs => ?_⟩
  obtain ⟨zs, rfl, h1, h2⟩ := sort_nat nd hp hs
  have := k zs h1 h2
  rw [List.map_map]
  exact this
theorem xSortI_nat {l : List Nat} {R : D → Prop} (nd : l.Nodup) (k : ∀ zs : List Nat, zs.Perm l → zs.Pairwise (· < ·) → R (.lst (zs.map fun k => D.int ((k : Nat) : Int)))) : xSortI [.lst (l.map fun k => D.int ((k : Nat) : Int))] R := by
  refine xSortI_map (f := fun k => ((k : Nat) : Int)) fun ys hp hs => ?_
  obtain ⟨zs, rfl, h1, h2⟩ := sort_nat nd hp hs
  have := k zs h1 h2
  rw [List.map_map]
  exact this
def k_xSortSet (R : D → List Sl → Prop) (d : D) (E1 : List Sl) : Prop := match d with
  | .tup xs => (match intsOf xs with | some ns => ns.length < 64 ∧ ∀ ys : List Int, ys.Pairwise (· < ·) → (∀ k : Int, k ∈ ys ↔ k ∈ ns) → R (.lst (ys.map D.int)) E1 | none => False)
  | _ => False
theorem xSortSet_ap {x : XE} {E : List Sl} {R : D → List Sl → Prop} : xSortSet x E R = x E (k_xSortSet R) := by
  unfold xSortSet; rfl
theorem sortset_nat {l : List Nat} {R : D → List Sl → Prop} {E : List Sl} (h64 : l.length < 64) (k : ∀ zs : List Nat, zs.Pairwise (· < ·) → (∀ k, k ∈ zs ↔ k ∈ l) → R (.lst (zs.map fun k => D.int ((k : Nat) : Int))) E) : k_xSortSet R (.tup (l.map fun k => D.int ((k : Nat) : Int))) E := by
  have h := intsOf_map (l.map fun k => ((k : Nat) : Int))
  rw [List.map_map] at h
  show (match intsOf (l.map fun k => D.int ((k : Nat) : Int)) with | some ns => ns.length < 64 ∧ ∀ ys : List Int, ys.Pairwise (· < ·) → (∀ k : Int, k ∈ ys ↔ k ∈ ns) → R (.lst (ys.map D.int)) E | none => False)
  rw [show (l.map fun k => D.int ((k : Nat) : Int)) = l.map (D.int ∘ fun k => ((k : Nat) : Int)) from rfl, h]
  refine ⟨by rw [List.length_map]; exact h64, fun ys hs hm => ?_⟩
  have h0 : ∀ y ∈ ys, 0 ≤ y := fun y hy => by
    obtain ⟨k, _, e⟩ := List.mem_map.mp ((hm y).mp hy)
    omega
  have e : ys = (ys.map Int.toNat).map (fun k => ((k : Nat) : Int)) := by
    rw [List.map_map]
    conv => lhs; rw [← List.map_id ys]
    refine List.map_congr_left fun y hy => ?_
    have := h0 y hy
    simp; omega
  have := k (ys.map Int.toNat) (by
    rw [e, List.pairwise_map] at hs
    exact hs.imp fun h => by omega) fun q => by
      constructor
      · intro hq
        obtain ⟨y, hy, e2⟩ := List.mem_map.mp hq
        obtain ⟨z, hz, e3⟩ := List.mem_map.mp ((hm y).mp hy)
        have : z = q := by omega
        rw [← this]; exact hz
      · intro hq
        exact List.mem_map.mpr ⟨(q : Int), (hm _).mpr (List.mem_map.mpr ⟨q, hq, rfl⟩), by simp⟩
  rw [e, List.map_map]
  exact this
theorem sorted_nodup {xs : List Nat} (h : xs.Pairwise (· < ·)) : xs.Nodup := h.imp fun h => by omega
theorem fil_sorted {n : Nat} {p : Nat → Bool} : ((List.range n).filter p).Pairwise (· < ·) := List.Pairwise.filter _ List.pairwise_lt_range

def k_xListR2 (R : D → List Sl → Prop) (E1 : List Sl) (p : Int) : Prop := p ≤ 16777216 ∧ -(2 ^ 62) ≤ p ∧ R (.lst (rgD 0 p.toNat)) E1
theorem k_xListR2_ap {R : D → List Sl → Prop} {E1 : List Sl} {p : Int} : k_xListR2 R E1 p = (p ≤ 16777216 ∧ -(2 ^ 62) ≤ p ∧ R (.lst (rgD 0 p.toNat)) E1) := rfl
def k_xListR1 (R : D → List Sl → Prop) (d : D) (E1 : List Sl) : Prop := selI d (k_xListR2 R E1)
theorem k_xListR1_ap {R : D → List Sl → Prop} {d : D} {E1 : List Sl} : k_xListR1 R d E1 = (selI d (k_xListR2 R E1)) := rfl
theorem xListR_ap {x : XE} {E : List Sl} {R : D → List Sl → Prop} : xListR x E R = (x E (k_xListR1 R)) := rfl
def k_xRep3 (ds : List D) (R : D → List Sl → Prop) (E2 : List Sl) (p : Int) : Prop := -(2 ^ 62) ≤ p ∧ p < 2 ^ 62 ∧ ds.length * p.toNat ≤ 16777216 ∧ R (.lst (List.replicate p.toNat ds).flatten) E2
theorem k_xRep3_ap {ds : List D} {R : D → List Sl → Prop} {E2 : List Sl} {p : Int} : k_xRep3 ds R E2 p = (-(2 ^ 62) ≤ p ∧ p < 2 ^ 62 ∧ ds.length * p.toNat ≤ 16777216 ∧ R (.lst (List.replicate p.toNat ds).flatten) E2) := rfl
def k_xRep2 (ds : List D) (R : D → List Sl → Prop) (d : D) (E2 : List Sl) : Prop := selI d (k_xRep3 ds R E2)
theorem k_xRep2_ap {ds : List D} {R : D → List Sl → Prop} {d : D} {E2 : List Sl} : k_xRep2 ds R d E2 = (selI d (k_xRep3 ds R E2)) := rfl
def k_xRep1 (x : XE) (R : D → List Sl → Prop) (ds : List D) (E1 : List Sl) : Prop := ds.length ≤ 16777216 ∧ x E1 (k_xRep2 ds R)
theorem k_xRep1_ap {x : XE} {R : D → List Sl → Prop} {ds : List D} {E1 : List Sl} : k_xRep1 x R ds E1 = (ds.length ≤ 16777216 ∧ x E1 (k_xRep2 ds R)) := rfl
theorem xRep_ap {xv : XV} {x : XE} {E : List Sl} {R : D → List Sl → Prop} : xRep xv x E R = (xv E (k_xRep1 x R)) := rfl
theorem xTupleF_lst {xs : List D} {R : D → Prop} : xTupleF [.lst xs] R = R (.ftup xs) := rfl
def k_isF (d : D) : Prop := match d with | .ftup _ => True | _ => False
theorem k_isF_ap {xs : List D} : k_isF (.ftup xs) = True := rfl
def selTI (a y : D) (R : D → Prop) : Prop := match a, y with
  | .ftup xs, .int k => (match intsOf xs with | some ns => k ∈ ns ∧ R (.int (ns.idxOf k : Nat)) | none => False)
  | _, _ => False
theorem selTI_map {α : Type} {l : List α} {f : α → Int} {k : Int} {R : D → Prop} : selTI (.ftup (l.map fun a => D.int (f a))) (.int k) R = (k ∈ l.map f ∧ R (.int ((l.map f).idxOf k : Nat))) := by
  have h := intsOf_map (l.map f)
  rw [List.map_map] at h
  show (match intsOf (l.map fun a => D.int (f a)) with | some ns => k ∈ ns ∧ R (.int (ns.idxOf k : Nat)) | none => False) = _
  rw [show (l.map fun a => D.int (f a)) = l.map (D.int ∘ f) from rfl, h]
def k_xTI2 (R : D → List Sl → Prop) (E1 : List Sl) (d : D) : Prop := R d E1
theorem k_xTI2_ap {R : D → List Sl → Prop} {E1 : List Sl} {d : D} : k_xTI2 R E1 d = R d E1 := rfl
def k_xTI1 (R : D → List Sl → Prop) (E1 : List Sl) (y a : D) : Prop := selTI a y (k_xTI2 R E1)
theorem k_xTI1_ap {R : D → List Sl → Prop} {E1 : List Sl} {y a : D} : k_xTI1 R E1 y a = selTI a y (k_xTI2 R E1) := rfl
def k_xTI (ix : Nat) (R : D → List Sl → Prop) (y : D) (E1 : List Sl) : Prop := pk E1 ix (k_xTI1 R E1 y)
theorem k_xTI_ap {ix : Nat} {R : D → List Sl → Prop} {y : D} {E1 : List Sl} : k_xTI ix R y E1 = pk E1 ix (k_xTI1 R E1 y) := rfl
theorem xTIndexP_ap {ix : Nat} {x : XE} {E : List Sl} {R : D → List Sl → Prop} : xTIndexP ix x E R = (pk E ix k_isF ∧ x E (k_xTI ix R)) := by
  have h : ∀ (y : D) (E1 : List Sl), (fun a => (match a, y with | .ftup xs, .int k => (match intsOf xs with | some ns => k ∈ ns ∧ R (.int (ns.idxOf k : Nat)) E1 | none => False) | _, _ => False : Prop)) = k_xTI1 R E1 y := by
    intro y E1; funext a; cases a <;> cases y <;> rfl
  show (pk E ix (fun d => match d with | .ftup _ => True | _ => False) ∧ x E fun y E1 => pk E1 ix fun a => (match a, y with | .ftup xs, .int k => (match intsOf xs with | some ns => k ∈ ns ∧ R (.int (ns.idxOf k : Nat)) E1 | none => False) | _, _ => False : Prop)) = _
  simp only [h]; rfl
/-! ### while -/
def k_whN (XD : XEnds) (E1 : List Sl) (_ : Unit) : Prop := XD.nx E1
theorem k_whN_ap {XD : XEnds} {E1 : List Sl} {u : Unit} : k_whN XD E1 u = XD.nx E1 := rfl
def k_whB (xb : XS) (XD : XEnds) (nx : List Sl → Prop) (b : Bool) (E1 : List Sl) : Prop := selB b (kS xb { nx := nx, rt := XD.rt, bk := XD.nx, ct := nx } E1) (k_whN XD E1)
theorem k_whB_ap {xb : XS} {XD : XEnds} {nx : List Sl → Prop} {b : Bool} {E1 : List Sl} : k_whB xb XD nx b E1 = selB b (kS xb { nx := nx, rt := XD.rt, bk := XD.nx, ct := nx } E1) (k_whN XD E1) := rfl
/-- a while loop: I m is what holds when m turns are left at most -/
theorem while_ok {c : XT} {xb : XS} {XD : XEnds} {E : List Sl} (I : Nat → List Sl → Prop) {n : Nat} (h0 : I n E) (hz : ∀ E, ¬ I 0 E)
    (hs : ∀ m E, I (m + 1) E → ∀ nx : List Sl → Prop, (∀ E', I m E' → nx E') → c E (k_whB xb XD nx)) : xWhile c xb XD E := by
  have main : ∀ m E, I m E → xWhileN c xb XD m E := by
    intro m
    induction m with
    | zero => intro E h; exact absurd h (hz E)
    | succ m ih => intro E h; exact hs m E h _ ih
  exact ⟨n, main n E h0⟩
/-- a loop through a list: what holds behind each beginning of it -/
theorem for_pre {α : Type} {g : XG} {xb : XS} {XD : XEnds} {e : α → D} {l : List α} {E : List Sl} (I : List α → List Sl → Prop) (h0 : I [] E)
    (hs : ∀ pre a post, l = pre ++ a :: post → ∀ E, I pre E → ∀ nx : List Sl → Prop, (∀ E', I (pre ++ [a]) E' → nx E') → g (e a) E (k_st xb { nx := nx, rt := XD.rt, bk := XD.nx, ct := nx }))
    (he : ∀ E, I l E → XD.nx E) : xForL g xb XD (l.map e) E := by
  have main : ∀ (post pre : List α) E, l = pre ++ post → I pre E → xForL g xb XD (post.map e) E := by
    intro post
    induction post with
    | nil => intro pre E hl h; rw [List.append_nil] at hl; exact he E (by rw [hl]; exact h)
    | cons a post ih =>
      intro pre E hl h
      exact hs pre a post hl E h _ fun E' h' => ih (pre ++ [a]) E' (by rw [List.append_assoc]; exact hl) h'
  exact main l [] E rfl h0
/-- x in a list of numbers -/
theorem eqF_nat {i j : Nat} : eqF (.int (i : Nat)) (.int (j : Nat)) = decide (i = j) := by
  show (((i : Nat) : Int) == ((j : Nat) : Int)) = decide (i = j)
  by_cases h : i = j
  · subst h; simp
  · have h2 : ((i : Nat) : Int) ≠ ((j : Nat) : Int) := fun z => h (by omega)
    simp [h, h2]
theorem any_nat {l : List Nat} {k : Nat} : ((l.map fun x => D.int ((x : Nat) : Int)).any fun y => eqF y (.int (k : Nat))) = decide (k ∈ l) := by
  rw [List.any_map, Bool.eq_iff_iff, List.any_eq_true, decide_eq_true_iff]
  constructor
  · rintro ⟨x, hx, e⟩
    have e : eqF (.int (x : Nat)) (.int (k : Nat)) = true := e
    rw [eqF_nat, decide_eq_true_iff] at e
    rw [← e]; exact hx
  · intro h
    exact ⟨k, h, by show eqF (.int (k : Nat)) (.int (k : Nat)) = true; rw [eqF_nat, decide_eq_true_iff]⟩
theorem flat_nat {l : List Nat} : (l.map fun x => D.int ((x : Nat) : Int)).all flatD = true := by
  rw [List.all_map]
  induction l with
  | nil => rfl
  | cons a l ih => rw [List.all_cons, ih]; rfl
theorem xInC_lstN {neg : Bool} {l : List Nat} {k : Nat} {R : D → Prop} : xInC neg (.int (k : Nat)) (.lst (l.map fun x => D.int ((x : Nat) : Int))) R = R (.bl (neg ^^ decide (k ∈ l))) := by
  show (flatD (.int (k : Nat)) = true ∧ (l.map fun x => D.int ((x : Nat) : Int)).all flatD = true ∧ R (.bl (neg ^^ (l.map fun x => D.int ((x : Nat) : Int)).any fun y => eqF y (.int (k : Nat))))) = _
  rw [flat_nat, any_nat]
  simp [flatD]
theorem xInC_tupN {neg : Bool} {l : List Nat} {k : Nat} {R : D → Prop} : xInC neg (.int (k : Nat)) (.tup (l.map fun x => D.int ((x : Nat) : Int))) R = R (.bl (neg ^^ decide (k ∈ l))) := by
  show (flatD (.int (k : Nat)) = true ∧ (l.map fun x => D.int ((x : Nat) : Int)).all flatD = true ∧ R (.bl (neg ^^ (l.map fun x => D.int ((x : Nat) : Int)).any fun y => eqF y (.int (k : Nat))))) = _
  rw [flat_nat, any_nat]
  simp [flatD]
theorem xInC_nilT {neg : Bool} {k : Int} {R : D → Prop} : xInC neg (.int k) (.tup []) R = R (.bl (neg ^^ false)) := by
  show (flatD (.int k) = true ∧ [].all flatD = true ∧ R (.bl (neg ^^ [].any fun y => eqF y (.int k)))) = _
  simp [flatD]
/-- a slot that may be stored to -/
def nio (s : Sl) : Prop := s = .un ∨ (∃ d, s = .val d) ∨ ∃ d, s = .own false d
theorem nio_un : nio .un := .inl rfl
theorem nio_val {d : D} : nio (.val d) := .inr (.inl ⟨d, rfl⟩)
theorem nio_own {d : D} : nio (.own false d) := .inr (.inr ⟨d, rfl⟩)
theorem nio_fre {s : Sl} (h : fre s) : nio s := by
  rcases h with h | ⟨d, h⟩
  · exact .inl h
  · exact .inr (.inl ⟨d, h⟩)
theorem selN_nio {s : Sl} {P : Prop} (h : nio s) : selN s P = P := by
  rcases h with h | ⟨d, h⟩ | ⟨d, h⟩ <;> subst h <;> rfl
theorem natl_map {l : List Nat} : (l.map fun x => D.int ((x : Nat) : Int)) = (l.map fun x => ((x : Nat) : Int)).map D.int := by rw [List.map_map]; rfl
theorem eq_natl {n : Bool} {l : List Nat} {R : D → Prop} (h : ∀ x ∈ l, x < 10 ^ 12) (k : R (.bl (n ^^ true))) : xEqC n (.lst (l.map fun x => D.int ((x : Nat) : Int))) (.lst (l.map fun x => D.int ((x : Nat) : Int))) R := by
  rw [natl_map]
  exact eq_lst (sh_ints fun z hz => by obtain ⟨x, hx, rfl⟩ := List.mem_map.mp hz; have := h x hx; omega) (by decide) k
theorem eq_natt {n : Bool} {l : List Nat} {R : D → Prop} (h : ∀ x ∈ l, x < 10 ^ 12) (k : R (.bl (n ^^ true))) : xEqC n (.tup (l.map fun x => D.int ((x : Nat) : Int))) (.tup (l.map fun x => D.int ((x : Nat) : Int))) R := by
  rw [natl_map]
  exact eq_tup (sh_ints fun z hz => by obtain ⟨x, hx, rfl⟩ := List.mem_map.mp hz; have := h x hx; omega) (by decide) k
theorem eq_intt {n : Bool} {m : Nat} {f : Nat → Int} {R : D → Prop} (h : ∀ i, i < m → (f i).natAbs < 10 ^ 12) (k : R (.bl (n ^^ true))) : xEqC n (.tup ((List.range m).map fun i => D.int (f i))) (.tup ((List.range m).map fun i => D.int (f i))) R := by
  have e : ((List.range m).map fun i => D.int (f i)) = ((List.range m).map f).map D.int := by rw [List.map_map]; rfl
  rw [e]
  exact eq_tup (sh_ints fun z hz => by obtain ⟨x, hx, rfl⟩ := List.mem_map.mp hz; exact h x (List.mem_range.mp hx)) (by decide) k
/-! ### pop -/
def selSm2 (o : Option D) (k : D → Prop) : Prop := match o with
  | some d => k d
  | none => False
theorem selSm2_some {d : D} {k : D → Prop} : selSm2 (some d) k = k d := rfl
def k_xPopAt6 (ds : List D) (R : D → List Sl → Prop) (E1 : List Sl) (ix : Nat) (io : Bool) (n : Nat) (e : D) : Prop := ds.length ≤ 16777216 ∧ R e (put E1 ix (.own io (.lst (ds.eraseIdx n))))
theorem k_xPopAt6_ap {ds : List D} {R : D → List Sl → Prop} {E1 : List Sl} {ix : Nat} {io : Bool} {n : Nat} {e : D} : k_xPopAt6 ds R E1 ix io n e = (ds.length ≤ 16777216 ∧ R e (put E1 ix (.own io (.lst (ds.eraseIdx n))))) := rfl
def k_xPopAt5 (ds : List D) (R : D → List Sl → Prop) (E1 : List Sl) (ix : Nat) (io : Bool) (n : Nat) : Prop := selSm (ds[n]?) (k_xPopAt6 ds R E1 ix io n)
theorem k_xPopAt5_ap {ds : List D} {R : D → List Sl → Prop} {E1 : List Sl} {ix : Nat} {io : Bool} {n : Nat} : k_xPopAt5 ds R E1 ix io n = (selSm (ds[n]?) (k_xPopAt6 ds R E1 ix io n)) := rfl
def k_xPopAt4 (ds : List D) (R : D → List Sl → Prop) (E1 : List Sl) (ix : Nat) (io : Bool) (p : Int) : Prop := selX ds.length p (k_xPopAt5 ds R E1 ix io)
theorem k_xPopAt4_ap {ds : List D} {R : D → List Sl → Prop} {E1 : List Sl} {ix : Nat} {io : Bool} {p : Int} : k_xPopAt4 ds R E1 ix io p = (selX ds.length p (k_xPopAt5 ds R E1 ix io)) := rfl
def k_xPopAt3 (d : D) (R : D → List Sl → Prop) (E1 : List Sl) (ix : Nat) (io : Bool) (ds : List D) : Prop := selI d (k_xPopAt4 ds R E1 ix io)
theorem k_xPopAt3_ap {d : D} {R : D → List Sl → Prop} {E1 : List Sl} {ix : Nat} {io : Bool} {ds : List D} : k_xPopAt3 d R E1 ix io ds = (selI d (k_xPopAt4 ds R E1 ix io)) := rfl
def k_xPopAt2 (ix : Nat) (R : D → List Sl → Prop) (d : D) (E1 : List Sl) : Prop := selOL (nth E1 ix) (k_xPopAt3 d R E1 ix)
theorem k_xPopAt2_ap {ix : Nat} {R : D → List Sl → Prop} {d : D} {E1 : List Sl} : k_xPopAt2 ix R d E1 = (selOL (nth E1 ix) (k_xPopAt3 d R E1 ix)) := rfl
def k_xPopAt1 (x : XE) (E : List Sl) (ix : Nat) (R : D → List Sl → Prop) (io : Bool) (xs : List D) : Prop := x E (k_xPopAt2 ix R)
theorem k_xPopAt1_ap {x : XE} {E : List Sl} {ix : Nat} {R : D → List Sl → Prop} {io : Bool} {xs : List D} : k_xPopAt1 x E ix R io xs = (x E (k_xPopAt2 ix R)) := rfl
theorem xPopAt_ap {ix : Nat} {x : XE} {E : List Sl} {R : D → List Sl → Prop} : xPopAt ix x E R = (selOL (nth E ix) (k_xPopAt1 x E ix R)) := rfl
end Pw
end

section
set_option maxRecDepth 100000
set_option maxHeartbeats 2000000
namespace Pw
open PySem L2 PySem.Spec PyProof.Rows
section
variable {prog : Program} {w : World} {A : Around} {s : Shared}
/-- a lambda of one parameter is called -/
theorem lam_run {f c' : Addr} {q x : Str} {params : Arguments} {body : Expr} {scope : Scope} {cl : List (Str × Addr)} {pm ctv v : Value} {Q : Value → Shared → Prop} {E : Value → Shared → Prop}
    (ho : s.heap.get? f = some (PySem.W.kla_obj "<lambda>" q params body scope cl pm c' ctv)) (hcd : s.heap.CodeRec (.ref c') q) (hroom : A.depth < recursionLimit) (hlim : s.heap.NoLimit)
    (hbind : bindArgs (PySem.W.kla_fn "<lambda>" q params body scope cl pm (.ref c') ctv) ⟨[v], []⟩ = pure [(x, v)]) (hx : scope.names.lookup x = some .local) (hcell : ∀ y ∈ scope.names, y.2 ≠ .cell)
    (hco : scope.isCoroutine = false) (hgen : scope.isGenerator = false) (hk : scope.kind = .function)
    (h : ∀ h₁ : Heap, h₁.Ns s.heap.objs.size (fun y => ([(x, v)] : List (Str × Value)).reverse.lookup y) → (∀ b o, s.heap.get? b = some o → h₁.get? b = some o) →
      wpAny (model prog w) (A.deeper (PySem.W.envX q scope s.heap.objs.size f (.ref c') cl)) (eval body (PySem.W.envX q scope s.heap.objs.size f (.ref c') cl)) Q (fun _ _ => False) { s with heap := h₁, toks := s.toks + 1 }) :
    wpAny (model prog w) A (call (.ref f) [v]) Q E s := by
  refine wpAny_call (PySem.W.kla_callFunE hroom ho rfl hco hgen rfl hcd ?_)
  rw [hbind]
  refine wpAny_pure (wpAny_newFunctionEnv hcell (fun y hy => by rw [List.mem_singleton.mp hy]; exact hx) (fun h₁ hns hsb => ?_) hk)
  have hk₁ : ∀ b o, s.heap.get? b = some o → h₁.get? b = some o := fun b o e => hsb.extBut b o (Nat.ne_of_lt (Heap.lt_size e)) (Heap.get?_push_of_some _ e)
  refine ⟨hlim.fresh _ hsb, ?_⟩
  exact PySem.W.kla_codeExpr (wpAny_mono (h h₁ hns hk₁) (fun v s' hq => hq) fun _ _ z => z.elim)
theorem reads_len {h : Heap} : ∀ {vs : List Value} {ds : List PyData} {as : List Addr}, ReadsAll h vs ds as → vs.length = ds.length
  | _, _, _, .nil => rfl
  | _, _, _, .cons _ r => by rw [List.length_cons, List.length_cons, reads_len r]
end
/-- lambda row: (len(row), row) -/
abbrev lamA (p1 p2 p3 p4 p5 : Pos) : Expr := .Tuple [.Call (.Name "len" p1) [.Name "row" p2] [] p3, .Name "row" p4] 0 p5
section
variable {prog : Program} {w : World} {A : Around} {s : Shared}
theorem lamA_run {f c' : Addr} {q : Str} {params : Arguments} {scope : Scope} {cl : List (Str × Addr)} {pm ctv : Value} {mg mb : Str → Option Value} {p1 p2 p3 p4 p5 : Pos} {ds : List PyData} {v : Value}
    (ho : s.heap.get? f = some (PySem.W.kla_obj "<lambda>" q params (lamA p1 p2 p3 p4 p5) scope cl pm c' ctv)) (hcd : s.heap.CodeRec (.ref c') q) (hroom : A.depth < recursionLimit) (hlim : s.heap.NoLimit)
    (hbind : bindArgs (PySem.W.kla_fn "<lambda>" q params (lamA p1 p2 p3 p4 p5) scope cl pm (.ref c') ctv) ⟨[v], []⟩ = pure [(("row" : Str), v)]) (hx : scope.names.lookup ("row" : Str) = some .local) (hl : scope.names.lookup ("len" : Str) = some .globalImplicit) (hcell : ∀ y ∈ scope.names, y.2 ≠ .cell)
    (hco : scope.isCoroutine = false) (hgen : scope.isGenerator = false) (hk : scope.kind = .function)
    (hg : s.heap.Ns mainGlobals mg) (hm : mg ("len" : Str) = none) (hb : s.heap.Ns builtinsNs mb) (hv : mb ("len" : Str) = some (.builtin "len")) (r : Reads s.heap v (.tuple ds) []) (hz : ds.length ≤ 16777216) :
    wpAny (model prog w) A (call (.ref f) [v]) (PySem.W.KeyPure (.tuple [.int ds.length, .tuple ds]) s) (fun _ _ => False) s := by
  generalize hd : PyData.tuple ds = d at r
  generalize has : ([] : List Addr) = as at r
  cases r with
  | tuple h1 h2 h3 h4 =>
    cases hd
    subst has
    rename_i a o vs n
    refine lam_run ho hcd hroom hlim hbind hx hcell hco hgen hk fun h₁ hns hk₁ => ?_
    have hlen : vs.size = ds.length := by have := reads_len h4; simpa using this
    have row : ∀ {M : Model} {A' : Around} {E : Value → Shared → Prop} {Q : Value → Shared → Prop} {s' : Shared} {p : Pos}, s'.heap.Ns s.heap.objs.size (fun y => ([(("row" : Str), Value.ref a)] : List (Str × Value)).reverse.lookup y) → Q (.ref a) s' →
        wpAny M A' (eval (.Name "row" p) (PySem.W.envX q scope s.heap.objs.size f (.ref c') cl)) Q E s' := fun {M A' E Q s' p} hn hq =>
      wpAny_Name (wpAny_loadName_local hk hx hn (by rfl) hq) (by decide)
    refine wpAny_Tuple_spliced ?_
    show wpAny _ _ (spliced ((false, eval (.Call (.Name "len" p1) [.Name "row" p2] [] p3) (PySem.W.envX q scope s.heap.objs.size f (.ref c') cl)) :: (false, eval (.Name "row" p4) (PySem.W.envX q scope s.heap.objs.size f (.ref c') cl)) :: [])) _ _ _
    refine Calls.spliced_cons ?_
    refine wpAny_Call_Name_kw (Calls.Name_function_global hk hl (Calls.loadGlobal_builtin (hg.keeps hk₁) hm (hb.keeps hk₁) hv ?_) (by decide))
    refine PyProof.Rows.callWith_builtin1 ?_ rfl rfl
    show wpAny _ _ (spliced ((false, eval (.Name "row" p2) (PySem.W.envX q scope s.heap.objs.size f (.ref c') cl)) :: [])) _ _ _
    refine Calls.spliced_cons (row hns ?_)
    refine wpAny_pure ?_
    refine len_tuple (items := vs) ⟨o, hk₁ _ _ h1, h2, n, h3⟩ (by omega) ?_
    refine Calls.spliced_cons (row hns ?_)
    refine wpAny_pure ⟨by show 2 ≤ sizeLine; rw [sizeLine_eq]; omega, ?_⟩
    refine ⟨_, _, rfl, fun b o e => Heap.get?_push_of_some _ (hk₁ b o e), ?_⟩
    refine Reads.tuple (Heap.get?_push_size _ rfl) rfl rfl ?_
    rw [hlen]
    exact ReadsAll.cons (as := []) (bs := []) (.int _ _) (ReadsAll.cons (as := []) (bs := []) (Reads.keeps (fun b o e => Heap.get?_push_of_some _ (hk₁ b o e)) (Reads.tuple h1 h2 h3 h4)) .nil)
  | _ => cases hd
end
section
variable {X : Cx} {pins : List (Addr × Obj)} {σ : L2.St} {H : Hp} {s : Shared}
/-- what the place of a lambda is called -/
abbrev lq (X : Cx) : Str := X.env.qual ++ "<lambda>"
/-- a lambda is made; nothing tracked goes -/
theorem lam_mk {T : List (Addr × Str)} {cd P : Addr} {params : Arguments} {body : Expr} {scope : Scope} {pos : Pos} {Ex' : Value → Shared → Prop} {Q : Value → Shared → Prop}
    (I : Inv X pins σ H s) (tb : LamX.TabB X.base X.mg cd P) (hcd : X.env.code = .ref cd) (hin : (P, lq X) ∈ T) (one : ∀ p ∈ T, p.1 = P → p.2 = lq X) (ht : LamX.Tabs T H)
    (nodef : defaultsOf params X.env = ([], [])) (fr : ∀ y ∈ scope.names, y.2 = .free → ∃ c, X.env.cells.lookup y.1 = some c)
    (go : ∀ (f c' : Addr) (pm ctv : Value) (H1 : Hp) (s1 : Shared), Inv X pins σ H1 s1 → LamX.ExtN H H1 → LamX.Tabs T H1 → (∀ b, H1 b = none → H b = none) →
      s1.heap.get? f = some (PySem.W.kla_obj "<lambda>" (lq X) params body scope (cloFrom X.env.cells scope.names []) pm c' ctv) → H1 c' = some (LamX.CodeO c' (lq X)) → Q (.ref f) s1) :
    wpAny (model X.prog X.w) X.A (eval (.Lambda params body scope pos) X.env) Q Ex' s := by
  obtain ⟨tab, hP, triples, known⟩ := ht _ hin
  have atP : s.heap.get? P = some { cls := .none, data := .fields tab } := I.hok P _ hP
  have ground := I.mod.glob.keeps I.bk
  have code := tb.code.keeps I.bk
  have blt := tb.bm.keeps I.bk
  have clo := closure_ok (scope := scope) (env := X.env) fr
  apply PySem.W.kla_eval nodef
  rcases hc : codeAmong pos tab.toList with _ | cv
  · apply PySem.W.kla_makeFunction (mg := X.mg) (c := cd) (P := P) (ps := tab) clo I.ok.glob ground hcd code atP triples hc tb.gP blt
    intro c' ctv g tk keep low high rec put
    obtain ⟨c2, oc, fs, tok, e2, hoc, hdat, hname⟩ := rec
    obtain rfl := Value.ref.inj e2
    have fresh : H c' = none := I.hok.fresh low
    have big : s.heap.objs.size ≤ g.objs.size := Nat.le_trans low (Nat.le_of_lt high)
    have same : (tab ++ #[rawInt pos.line, rawInt pos.col, .ref c']).toList = tab.toList ++ [rawInt pos.line, rawInt pos.col, .ref c'] := by simp
    have J := LamX.inv_table (q := lq X) (t' := tk) (more := #[rawInt pos.line, rawInt pos.col, .ref c']) I hP
      (h' := g.push (PySem.W.kla_obj "<lambda>" (lq X) params body scope (cloFrom X.env.cells scope.names []) ((X.mg "__name__").getD .none) c' ctv))
      (fun b o ne e => Heap.get?_push_of_some _ (keep b o ne e)) (Heap.get?_push_of_some _ put) low ⟨oc, fs, tok, Heap.get?_push_of_some _ hoc, hdat, hname⟩
    have old : ∀ b o, H b = some o → (∀ z, o ≠ .tbl z) → L2.upd (L2.upd H P (.tbl (tab ++ #[rawInt pos.line, rawInt pos.col, .ref c']))) c' (LamX.CodeO c' (lq X)) b = some o := by
      intro b o e no
      have n1 : b ≠ c' := ne_of_none e fresh
      have n2 : b ≠ P := fun z => by subst z; rw [hP] at e; cases e; exact no _ rfl
      rw [upd_ne n1, upd_ne n2]
      exact e
    have P1 : P ≠ c' := ne_of_none hP fresh
    refine go g.objs.size c' _ ctv _ _ J old ?_ ?_ (Heap.get?_push_size _ rfl) upd_same
    · intro p hp
      by_cases z : p.1 = P
      · have named := one p hp z
        refine ⟨tab ++ #[rawInt pos.line, rawInt pos.col, .ref c'], ?_, ?_, ?_⟩
        · rw [z, upd_ne P1, upd_same]
        · rw [same]; exact PySem.TriplesOk_snoc _ _ _ _ triples
        · intro at' cv' hcv
          rw [same] at hcv
          rcases LamX.among_app _ triples hcv with y | y
          · obtain ⟨c0, y1, y2⟩ := known at' cv' y
            refine ⟨c0, y1, ?_⟩
            rw [named]
            exact old _ _ y2 LamX.codeO_ne
          · refine ⟨c', y, ?_⟩
            rw [named, upd_same]
      · obtain ⟨ps', y1, y2, y3⟩ := ht p hp
        refine ⟨ps', ?_, y2, ?_⟩
        · rw [upd_ne (ne_of_none y1 fresh), upd_ne z]; exact y1
        · intro at' cv' hcv
          obtain ⟨c0, w1, w2⟩ := y3 at' cv' hcv
          exact ⟨c0, w1, old _ _ w2 LamX.codeO_ne⟩
    · intro b hb
      by_cases z : b = c'
      · subst z; rw [upd_same] at hb; cases hb
      · by_cases z2 : b = P
        · subst z2; rw [upd_ne z, upd_same] at hb; cases hb
        · rw [upd_ne z, upd_ne z2] at hb; exact hb
  · obtain ⟨c', rfl, hco⟩ := known pos cv hc
    apply PySem.W.kla_makeFunctionHit (mg := X.mg) (c := cd) (P := P) (ps := tab) clo I.ok.glob ground hcd code atP triples hc blt
    intro ctv g tk keep big
    have J : Inv X pins σ H { s with heap := g.push (PySem.W.kla_obj "<lambda>" (lq X) params body scope (cloFrom X.env.cells scope.names []) ((X.mg "__name__").getD .none) c' ctv), toks := tk } := I.kept fun b o e => Heap.get?_push_of_some _ (keep b o e)
    exact go g.objs.size c' _ ctv H _ J (LamX.ExtN.refl H) ht (fun _ h => h) (Heap.get?_push_size _ rfl) hco
end
/-! ### data without lists in them -/
mutual
def noL : PyData → Bool
  | .list _ => false
  | .dict _ => false
  | .tuple xs => noLs xs
  | _ => true
def noLs : List PyData → Bool
  | [] => true
  | x :: xs => noL x && noLs xs
end
mutual
theorem reads_nil {h : Heap} : ∀ {d : PyData} {v : Value} {as : List Addr}, Reads h v d as → noL d = true → as = []
  | .none, _, _, r, _ => by cases r; rfl
  | .bool _, _, _, r, _ => by cases r; rfl
  | .int _, _, _, r, _ => by cases r; rfl
  | .str _, _, _, r, _ => by cases r; rfl
  | .list _, _, _, _, n => by cases n
  | .dict _, _, _, _, n => by cases n
  | .tuple xs, _, _, r, n => by
    cases r with
    | tuple h1 h2 h3 h4 => exact reads_nils (ds := xs) h4 n
theorem reads_nils {h : Heap} : ∀ {ds : List PyData} {vs : List Value} {as : List Addr}, ReadsAll h vs ds as → noLs ds = true → as = []
  | [], _, _, r, _ => by cases r; rfl
  | d :: ds, _, _, r, n => by
    have n : (noL d && noLs ds) = true := n
    rw [Bool.and_eq_true] at n
    cases r with
    | cons r1 r2 =>
      have e1 := reads_nil r1 n.1
      have e2 := reads_nils r2 n.2
      rw [e1, e2]; rfl
end
/-! ### sorted(xs, key=lambda row: (len(row), row)) -/
abbrev keyA (kf : V → List PyData) (y : V) : PyData := .tuple [.int (kf y).length, .tuple (kf y)]
def tSortA (K : PySem.W.Frag) (te : TE) : TE := fun σ H Q => te σ H fun x H1 => LamX.Tabs (Tb K) H1 ∧ ∃ (a : Addr) (xs : List V) (kf : V → List PyData), x = .ref a ∧ SqL K H1 a xs ∧ xs.length ≤ 16777216 ∧
  (∀ H2, LamX.ExtN H1 H2 → ∀ y ∈ xs, Dp K H2 y (.tuple (kf y))) ∧ (∀ y ∈ xs, noLs (kf y) = true ∧ (kf y).length ≤ 16777216 ∧ (keyA kf y).depth ≤ 8) ∧ PySem.W.AllAlike (xs.map (keyA kf)) ∧
  ∀ (H2 : Hp) (p : Addr), LamX.ExtN H1 H2 → LamX.Tabs (Tb K) H2 → (∀ b, H2 b = none → H1 b = none) → H2 p = none → Q (.ref p) (L2.upd H2 p (.lst (xs.mergeSort (PySem.W.dataLe false (keyA kf)))))
theorem sq_ext {K : PySem.W.Frag} {H H' : Hp} {a : Addr} {xs : List V} (e : LamX.ExtN H H') (h : SqL K H a xs) : SqL K H' a xs := by
  rcases h with (h | ⟨o, h⟩) | h
  · exact .inl (.inl (e _ _ h fun _ z => by cases z))
  · exact .inl (.inr ⟨o, e _ _ h fun _ z => by cases z⟩)
  · exact .inr h
theorem each_vals : ∀ {ys : List V} {us : List Value}, Vals ys us → PySem.W.EachIs (fun u y => RelV y u) us ys
  | _, _, .nil => .nil
  | _, _, .cons r rs => .cons r (each_vals rs)
theorem vals_each : ∀ {ys : List V} {us : List Value}, PySem.W.EachIs (fun u y => RelV y u) us ys → Vals ys us
  | _, _, .nil => .nil
  | _, _, .cons r rs => .cons r (vals_each rs)
section
variable {X : Cx}
theorem pe_sortA {e : Expr} {te : TE} {cd P : Addr} {k : Nat} {params : Arguments} {scope : Scope} {p0 pos lpos kpos p1 p2 p3 p4 p5 : Pos}
    (he : PE X e te) (hr : Room k X.A) (hg : Gl X "sorted") (hm : X.mg "sorted" = none) (hml : X.mg "len" = none) (tb : LamX.TabB X.base X.mg cd P) (hcd : X.env.code = .ref cd) (hin : (P, lq X) ∈ Tb X.K) (one : ∀ p ∈ Tb X.K, p.1 = P → p.2 = lq X)
    (nodef : defaultsOf params X.env = ([], [])) (hx : scope.names.lookup ("row" : Str) = some .local) (hl : scope.names.lookup ("len" : Str) = some .globalImplicit) (hcell : ∀ y ∈ scope.names, y.2 ≠ .cell ∧ y.2 ≠ .free)
    (hco : scope.isCoroutine = false) (hgen : scope.isGenerator = false) (hk : scope.kind = .function)
    (hbind : ∀ (q : Str) (body : Expr) (cl : List (Str × Addr)) (pm ctv cv v : Value), bindArgs (PySem.W.kla_fn "<lambda>" q params body scope cl pm cv ctv) ⟨[v], []⟩ = pure [(("row" : Str), v)])
    (hs : starEach (e :: []) X.env = (false, eval e X.env) :: starEach [] X.env := by rfl) (hpl : (backTo pos (starEach [e] X.env)).any (·.1) = false := by rfl) (hbk : backTo pos (starEach (e :: []) X.env) = (false, eval e X.env) :: backTo pos (starEach [] X.env) := by rfl) :
    PE X (.Call (.Name "sorted" p0) [e] [⟨some "key", .Lambda params (lamA p1 p2 p3 p4 p5) scope lpos, kpos⟩] pos) (tSortA X.K te) := by
  refine ⟨fun pins s σ H Q I h => ?_⟩
  refine wpAny_Call_Name_kw (ld_blt I hg hm (by rfl) ?_)
  have ha : PA X [e] (tCons te tNil) := pa_cons he pa_nil hs
  refine PyProof.Rows.callWith_kw (thn (ha.run pos pins s σ H (fun vs H1 => match vs with
    | [x] => (LamX.Tabs (Tb X.K) H1 ∧ ∃ (a : Addr) (xs : List V) (kf : V → List PyData), x = .ref a ∧ SqL X.K H1 a xs ∧ xs.length ≤ 16777216 ∧
      (∀ H2, LamX.ExtN H1 H2 → ∀ y ∈ xs, Dp X.K H2 y (.tuple (kf y))) ∧ (∀ y ∈ xs, noLs (kf y) = true ∧ (kf y).length ≤ 16777216 ∧ (keyA kf y).depth ≤ 8) ∧ PySem.W.AllAlike (xs.map (keyA kf)) ∧
      ∀ (H2 : Hp) (p : Addr), LamX.ExtN H1 H2 → LamX.Tabs (Tb X.K) H2 → (∀ b, H2 b = none → H1 b = none) → H2 p = none → Q (.ref p) (L2.upd H2 p (.lst (xs.mergeSort (PySem.W.dataLe false (keyA kf))))))
    | _ => False) I h) fun us s1 ⟨vs, H1, I1, r1, q1⟩ => ?_) hbk hpl rfl rfl
  match vs, r1, q1 with
  | [x], r1, q1 =>
  obtain ⟨ht, a, xs, kf, rfl, hq, hz, hdp, hnl, hal, fin⟩ := q1
  obtain ⟨u, rfl, ru⟩ := vals1 r1
  cases ru
  show wpAny _ _ (evalAll ((do let v ← eval (.Lambda params (lamA p1 p2 p3 p4 p5) scope lpos) X.env; standAt pos; pure v) :: [])) _ _ _
  refine wpAny_evalAll_cons (wpAny_bind (lam_mk I1 tb hcd hin one ht nodef (fun y hy z => absurd z (hcell y hy).2) fun f c' pm ctv H2 s2 I2 hex ht2 hnn hf hc' => wpAny_bind (wpAny_standAt (wpAny_pure (wpAny_evalAll_nil ?_)))))
  have hq2 := sq_ext hex hq
  obtain ⟨its, rv, hl2, hz2⟩ := I2.list hq2
  have ea : PySem.W.EachIs (fun u y => RelV y u) its xs := each_vals rv
  have hun := hr.un
  have hdp2 := hr.dp
  have hrd : ∀ y ∈ xs, ∀ v, RelV y v → Reads s2.heap v (.tuple (kf y)) [] := fun y hy v r => by
    obtain ⟨as, q⟩ := Dp.reads I2 _ y v (hdp H2 hex y hy) r
    have e0 := reads_nil q (hnl y hy).1
    rw [e0] at q
    exact q
  obtain ⟨mb, b1, b2⟩ := I2.mod.blt
  have hcode : s2.heap.CodeRec (.ref c') (lq X) := by
    obtain ⟨oc, vs', t, c1, c2, c3⟩ := (I2.hok c' _ hc').1
    exact ⟨c', oc, vs', t, rfl, c1, c2, c3⟩
  refine PySem.W.sorted_key_data (A := X.A) (R := fun u y => RelV y u) (b := false) (f := .ref f) (keyA kf) hl2.isList ea hal (.inl fun d hd => ?_) (by rw [sizeLine_eq]; exact hz) (fun y hy => ?_) (PyProof.Rows.ksk_s1 _ _) (fun _ => PyProof.Rows.ksk_l1 _ _) (fun x => PyProof.Rows.ksk_t1 f x) (fun v y r hy g tk keep => ?_)
    fun out c g tk keep hnone hout hlen hea => ?_
  · obtain ⟨y, _, rfl⟩ := List.mem_map.mp hd
    exact ⟨_, _, rfl⟩
  · have := (hnl y hy).2.2
    omega
  · refine lamA_run (s := { s2 with heap := g, toks := tk }) (ds := kf y) (keep _ _ hf) ?_ (by show X.A.depth < recursionLimit; omega) (I2.nolimit.keeps keep) (hbind _ _ _ _ _ _ _) hx hl (fun z hz => (hcell z hz).1) hco hgen hk
      ((I2.mod.glob.keeps I2.bk).keeps keep) hml ((b1.keeps I2.bk).keeps keep) ((b2 _ (by decide)).trans (by rfl)) (Reads.keeps keep (hrd y hy v r)) (hnl y hy).2.1
    obtain ⟨c1, oc, vs', t, e1, e2, e3, e4⟩ := hcode
    exact ⟨c1, oc, vs', t, e1, keep _ _ e2, e3, e4⟩
  · have hv := vals_each hea
    have hml2 : (xs.mergeSort (PySem.W.dataLe false (keyA kf))).length = xs.length := List.length_mergeSort _
    refine ⟨.ref (s2.heap.objs.size + 1), L2.upd H2 (s2.heap.objs.size + 1) (.lst (xs.mergeSort (PySem.W.dataLe false (keyA kf)))), I2.laid (t' := tk) keep (Nat.le_succ _) ⟨by rw [hml2, sizeLine_eq]; exact hz, out, c, hv, hout⟩, rfl, ?_⟩
    exact fin H2 _ hex ht2 hnn (I2.hok.fresh (Nat.le_succ _))
end
end Pw
end

section
set_option maxRecDepth 100000
set_option maxHeartbeats 2000000
namespace Pw
open PySem L2
section
variable {K : PySem.W.Frag}
/-- a lambda was made: the tables are others, all else stands -/
theorem Wd.lam {B : Bs} {H0 H H2 : Hp} {al : Nat → List Addr} {E : List Sl} (w : Wd K B H0 H al E) (e : LamX.ExtN H H2) (t : LamX.Tabs (Tb K) H2) (n : ∀ b, H2 b = none → H b = none) : Wd K B H0 H2 al E where
  ex := fun b o h => e b o (w.ex b o h) fun ps z => w.t0 b ps (by rw [h, z])
  own := fun i io d h => by
    obtain ⟨a, b⟩ := w.own i io d h
    refine ⟨a.keep fun c hc => ?_, b⟩
    obtain ⟨u, hu, hn⟩ := a.plain c hc
    rw [hu]
    exact e c u hu fun ps z => hn (.inl ⟨ps, z⟩)
  inj := w.inj
  kp := fun b o h nf nt => e b o (w.kp b o h nf nt) nt
  e0 := w.e0
  nw := w.nw
  lv := fun b h => w.lv b (n b h)
  pin := w.pin
  tb := t
  t0 := w.t0
/-- rows of ints -/
def rwD (r : List Int) : D := .tup (r.map D.int)
def rowAt (H : Hp) (y : V) : List Int := match y with
  | .ref t => (match H t with
    | some (.tup vs) => vs.filterMap fun v => match v with
      | .int i => some i
      | _ => none
    | _ => [])
  | _ => []
theorem ints_rep {H : Hp} : ∀ {r : List Int} {xs : List V}, RepL K H (r.map D.int) xs → xs = r.map V.int
  | [], _, h => h
  | i :: r, xs, h => by
    obtain ⟨x, ys, rfl, h1, h2⟩ := (show ∃ x ys, xs = x :: ys ∧ Rep K H (.int i) x ∧ RepL K H (r.map D.int) ys from h)
    rw [show x = V.int i from h1, ints_rep h2]; rfl
theorem row_rep {H : Hp} {r : List Int} {y : V} (h : Rep K H (rwD r) y) : rowAt H y = r ∧ ∃ t, y = .ref t ∧ H t = some (.tup (r.map V.int)) := by
  obtain ⟨t, xs, rfl, ht, rl⟩ := rep_tupD h
  rw [ints_rep rl] at ht
  refine ⟨?_, t, rfl, ht⟩
  unfold rowAt
  simp only [ht]
  rw [List.filterMap_map]
  induction r with
  | nil => rfl
  | cons i r ih =>
    show i :: List.filterMap _ r = i :: r
    congr 1
    have := List.filterMap_some (l := r)
    exact this
theorem rows_rep {H : Hp} : ∀ {rows : List (List Int)} {xs : List V}, RepL K H (rows.map rwD) xs → rows = xs.map (rowAt H) ∧ ∀ x ∈ xs, Rep K H (rwD (rowAt H x)) x
  | [], _, h => by cases (show _ = [] from h); exact ⟨rfl, fun _ z => by cases z⟩
  | r :: rows, xs, h => by
    obtain ⟨x, ys, rfl, h1, h2⟩ := (show ∃ x ys, xs = x :: ys ∧ Rep K H (rwD r) x ∧ RepL K H (rows.map rwD) ys from h)
    obtain ⟨e1, e2⟩ := rows_rep h2
    have e3 := (row_rep h1).1
    refine ⟨by rw [List.map_cons, e3, ← e1], fun z hz => ?_⟩
    rcases List.mem_cons.mp hz with e | e
    · subst e; rw [e3]; exact h1
    · exact e2 z e
def keyR (r : List Int) : PyData := .tuple [.int r.length, .tuple (r.map PyData.int)]
/-- first by length, then row by row -/
def leRow (a b : List Int) : Bool := PySem.W.dataLe false keyR a b
theorem alike_ints : ∀ {a b : List Int}, PySem.W.alikeAll (a.map PyData.int) (b.map PyData.int) = true
  | [], [] => rfl
  | [], _ :: _ => rfl
  | _ :: _, [] => rfl
  | x :: a, y :: b => by
    show (PySem.W.alike (.int x) (.int y) && PySem.W.alikeAll (a.map PyData.int) (b.map PyData.int)) = true
    rw [alike_ints]; rfl
theorem noLs_ints : ∀ {a : List Int}, noLs (a.map PyData.int) = true
  | [] => rfl
  | x :: a => by show (noL (.int x) && noLs (a.map PyData.int)) = true; rw [noLs_ints]; rfl
theorem depth_ints : ∀ {a : List Int}, PyData.depthAll (a.map PyData.int) = 0
  | [] => rfl
  | x :: a => by show max (PyData.depth (.int x)) (PyData.depthAll (a.map PyData.int)) = 0; rw [depth_ints]; rfl
/-- sorted(rows, key=lambda row: (len(row), row)), rows of ints -/
def xSortA (x : XE) : XE := fun E R => x E fun d E1 => ∃ rows : List (List Int), d = .lst (rows.map rwD) ∧ rows.length ≤ 16777216 ∧ (∀ r ∈ rows, r.length ≤ 16777216) ∧ R (.lst ((rows.mergeSort leRow).map rwD)) E1
theorem ff_sortA {t : TE} {x : XE} (h : Rf K t x) : RfF K (tSortA K t) (xSortA x) := fun B H0 H al E σ f Q R hx kk =>
  h B H0 H al E σ f _ _ hx fun v d E1 H1 H1' f1 e1 r q => by
    obtain ⟨rows, rfl, hz, hrl, q⟩ := q
    obtain ⟨a, xs, rfl, ha, rl⟩ := (show ∃ a xs, v = .ref a ∧ H1 a = some (.lst xs) ∧ RepL K H1 (rows.map rwD) xs from r)
    obtain ⟨er, each⟩ := rows_rep rl
    have hlen : xs.length = rows.length := by rw [er, List.length_map]
    refine ⟨f1.wd.tb, a, xs, fun y => (rowAt H1 y).map PyData.int, rfl, SqL.of (f1.wd.ex _ _ ha), by omega, fun H2 hex y hy => ?_, fun y hy => ⟨noLs_ints, ?_, ?_⟩, ?_, fun H2 p hex ht hn hp => ?_⟩
    · obtain ⟨t, rfl, ht⟩ := (row_rep (each y hy)).2
      have hq : SqT K H2 t ((rowAt H1 (.ref t)).map V.int) := .inl (.inl (hex _ _ (f1.wd.ex _ _ ht) fun _ z => by cases z))
      refine .tup hq ?_
      show DpAll K H2 ((rowAt H1 (.ref t)).map V.int) ((rowAt H1 (.ref t)).map PyData.int)
      clear hq
      generalize rowAt H1 (.ref t) = r
      induction r with
      | nil => exact .nil
      | cons i r ih => exact .cons (.int i) ih
    · rw [List.length_map]
      exact hrl _ (by rw [er]; exact List.mem_map.mpr ⟨y, hy, rfl⟩)
    · show max (PyData.depth (.int _)) (max (PyData.depth (.tuple ((rowAt H1 y).map PyData.int))) 0) + 1 ≤ 8
      show max 0 (max (PyData.depthAll ((rowAt H1 y).map PyData.int) + 1) 0) + 1 ≤ 8
      rw [depth_ints]; decide
    · intro d hd d' hd'
      obtain ⟨y, _, rfl⟩ := List.mem_map.mp hd
      obtain ⟨z, _, rfl⟩ := List.mem_map.mp hd'
      show (true && (PySem.W.alikeAll ((rowAt H1 y).map PyData.int) ((rowAt H1 z).map PyData.int) && true)) = true
      rw [alike_ints]; rfl
    · have w2 := f1.wd.lam hex ht hn
      have hm : (xs.mergeSort (PySem.W.dataLe false (keyA fun y => (rowAt H1 y).map PyData.int))).map (rowAt H1) = rows.mergeSort leRow := by
        rw [er]
        refine List.map_mergeSort fun a _ b _ => ?_
        unfold leRow PySem.W.dataLe keyA keyR PySem.W.sortLe
        simp only [List.length_map]
      have rz : ∀ z ∈ xs.mergeSort (PySem.W.dataLe false (keyA fun y => (rowAt H1 y).map PyData.int)), Rep K H1 (rwD (rowAt H1 z)) z := fun z hz => each z ((List.mergeSort_perm _ _).mem_iff.mp hz)
      refine kk [p] (.lst ((rows.mergeSort leRow).map rwD)) E1 H1 _ ⟨w2.raw hp, f1.sg⟩ e1 ⟨p, _, rfl, upd_same, ?_⟩ (w2.fre hp) q
      rw [← hm, List.map_map]
      exact repl_of_each rz
end
end Pw
end

section
set_option maxRecDepth 100000
set_option maxHeartbeats 2000000
namespace Pw
open PySem L2 PySem.Spec PyProof.Rows
/-- lambda x: (d[x], x) -/
abbrev lamB (d x : Str) (p1 p2 p3 p4 p5 : Pos) : Expr := .Tuple [.Subscript (.Name d p1) (.Name x p2) p3, .Name x p4] 0 p5
section
variable {X : Cx} {pins : List (Addr × Obj)} {σ : L2.St} {H : Hp} {s : Shared}
/-- d[y], there: nothing but the count moves -/
theorem d_getItemT {A : Around} {E : Value → Shared → Prop} {a : Addr} {y v : V} {u : Value} {Q : Value → Shared → Prop} (hu : A.units + 1 < cLine) (I : Inv X pins σ H s) (g : DGet H a y (some v)) (ry : RelV y u) (h : ∀ w' t, RelV v w' → Q w' { s with toks := t }) :
    wpAny (model X.prog X.w) A (getItem (.ref a) u) Q E s := by
  rcases g with ⟨kvs, k, e, ey, l⟩ | ⟨kvs, k, b, e, ey, eb, l⟩
  · subst ey
    obtain ⟨z, hd, vs, rel, dd⟩ := dk_rd I.hok e
    obtain ⟨w', hw, rw'⟩ := RelO.some_of (v := v) (o := valueAt vs k) (by rw [l]; exact rel.val k)
    exact wpAny_getItem_of (kV_is ry) dd.mapOf hw (h w' _ rw')
  · subst ey
    cases (show u = Value.ref b from ry)
    obtain ⟨z, hd, xs, rel, dd⟩ := dt_rd I.hok e
    obtain ⟨w', hw, rw'⟩ := RelO.some_of (v := v) (o := (atKey xs k).map (·.2)) (by rw [l]; exact rel.val k)
    obtain ⟨p, hp, hp2⟩ := Option.map_eq_some_iff.mp hw
    refine wpAny_getItem_heap (tupleKind_room_in1 hu) (key_of I.hok eb) dd hp ?_
    rw [hp2]
    exact h w' _ rw'
theorem lamB_run {A : Around} {f c' a : Addr} {q d x : Str} {params : Arguments} {scope : Scope} {cl : List (Str × Addr)} {pm ctv : Value} {p1 p2 p3 p4 p5 : Pos} {kd : PyData} {u : Value} {y : V} {n : Int} {c : Addr}
    (I : Inv X pins σ H s) (ho : s.heap.get? f = some (PySem.W.kla_obj "<lambda>" q params (lamB d x p1 p2 p3 p4 p5) scope cl pm c' ctv)) (hcd : s.heap.CodeRec (.ref c') q) (hroom : A.depth < recursionLimit)
    (hu : (A.deeper (PySem.W.envX q scope s.heap.objs.size f (.ref c') cl)).units + 1 < cLine)
    (hbind : bindArgs (PySem.W.kla_fn "<lambda>" q params (lamB d x p1 p2 p3 p4 p5) scope cl pm (.ref c') ctv) ⟨[u], []⟩ = pure [(x, u)]) (hx : scope.names.lookup x = some .local) (hd : scope.names.lookup d = some .free) (hcell : ∀ y ∈ scope.names, y.2 ≠ .cell)
    (hco : scope.isCoroutine = false) (hgen : scope.isGenerator = false) (hk : scope.kind = .function) (hxn : (x == ("__classdict__" : Str)) = false) (hdn : (d == ("__classdict__" : Str)) = false) (hxd : (x == ("__debug__" : Str)) = false) (hdd : (d == ("__debug__" : Str)) = false)
    (hc : cl.lookup d = some c) (hcv : s.heap.IsCell c (some (.ref a))) (g : DGet H a y (some (.int n))) (ry : RelV y u) (r : Reads s.heap u kd []) :
    wpAny (model X.prog X.w) A (call (.ref f) [u]) (PySem.W.KeyPure (.tuple [.int n, kd]) s) (fun _ _ => False) s := by
  refine lam_run ho hcd hroom I.nolimit hbind hx hcell hco hgen hk fun h₁ hns hk₁ => ?_
  have I1 : Inv X pins σ H { s with heap := h₁, toks := s.toks + 1 } := I.kept hk₁
  have row : ∀ {M : Model} {A' : Around} {E : Value → Shared → Prop} {Q : Value → Shared → Prop} {s' : Shared} {p : Pos}, s'.heap.Ns s.heap.objs.size (fun z => ([(x, u)] : List (Str × Value)).reverse.lookup z) → Q u s' →
      wpAny M A' (eval (.Name x p) (PySem.W.envX q scope s.heap.objs.size f (.ref c') cl)) Q E s' := fun {M A' E Q s' p} hn hq =>
    wpAny_Name (wpAny_loadName_local hk hx hn (by simp) hq) hxd
  have cel : h₁.IsCell c (some (.ref a)) := by
    obtain ⟨o, e1, e2⟩ := hcv
    exact ⟨o, hk₁ _ _ e1, e2⟩
  refine wpAny_Tuple_spliced ?_
  show wpAny _ _ (spliced ((false, eval (.Subscript (.Name d p1) (.Name x p2) p3) (PySem.W.envX q scope s.heap.objs.size f (.ref c') cl)) :: (false, eval (.Name x p4) (PySem.W.envX q scope s.heap.objs.size f (.ref c') cl)) :: [])) _ _ _
  refine Calls.spliced_cons ?_
  refine subD_of PySem.F.slot_dict_getitem.lookup (fun _ _ => rfl) ?_
  refine wpAny_Name (wpAny_loadName_free hk hd hc cel ?_ hdn) hdd
  refine row hns ?_
  refine ⟨dict_typeIs I1 g, d_getItemT hu I1 g ry fun w' t rw' => ?_⟩
  refine Calls.spliced_cons (row hns ?_)
  refine wpAny_pure ⟨by show 2 ≤ sizeLine; rw [sizeLine_eq]; omega, ?_⟩
  refine ⟨_, _, rfl, fun b o e => Heap.get?_push_of_some _ (hk₁ b o e), ?_⟩
  refine Reads.tuple (Heap.get?_push_size _ rfl) rfl rfl ?_
  obtain ⟨t', rfl⟩ := (show ∃ t', w' = Value.int n t' from rw')
  exact ReadsAll.cons (as := []) (bs := []) (.int _ _) (ReadsAll.cons (as := []) (bs := []) (Reads.keeps (fun b o e => Heap.get?_push_of_some _ (hk₁ b o e)) r) .nil)
end
section
variable {X : Cx}
/-- ints by what a dict holds at them, then by themselves -/
def leB (f : Int → Int) (a b : Int) : Bool := PySem.W.dataLe false (fun n : Int => PyData.tuple [.int (f n), .int n]) a b
def tSortB (K : PySem.W.Frag) (te : TE) (i : Nat) : TE := fun σ H Q => te σ H fun x H1 => LamX.Tabs (Tb K) H1 ∧ ∃ (a : Addr) (kvs : List (Key × V)) (ns : List Int) (f : Int → Int), x = .ref a ∧ σ[i]? = some (some (.ref a)) ∧ H1 a = some (.dK kvs) ∧ kvs.map (·.1) = ns.map Sum.inl ∧
  (∀ n ∈ ns, valV kvs (.inl n) = some (.int (f n))) ∧ ns.length ≤ 16777216 ∧
  ∀ (H2 : Hp) (p : Addr), LamX.ExtN H1 H2 → LamX.Tabs (Tb K) H2 → (∀ b, H2 b = none → H1 b = none) → H2 p = none → Q (.ref p) (L2.upd H2 p (.lst ((ns.mergeSort (leB f)).map V.int)))
theorem pe_sortB {e : Expr} {te : TE} {d x : Str} {i : Nat} {cd P : Addr} {k : Nat} {params : Arguments} {scope : Scope} {p0 pos lpos kpos p1 p2 p3 p4 p5 : Pos}
    (he : PE X e te) (hc : X.calm = true) (hr : Room k X.A) (hg : Gl X "sorted") (hm : X.mg "sorted" = none) (tb : LamX.TabB X.base X.mg cd P) (hcd : X.env.code = .ref cd) (hin : (P, lq X) ∈ Tb X.K) (one : ∀ p ∈ Tb X.K, p.1 = P → p.2 = lq X)
    (hN : X.N[i]? = some d) (hvis : X.env.scope.names.lookup d = some .cell) (hkind : X.env.kindOf d = some .cell)
    (nodef : defaultsOf params X.env = ([], [])) (hx : scope.names.lookup x = some .local) (hd : scope.names.lookup d = some .free) (hcell : ∀ y ∈ scope.names, y.2 ≠ .cell) (hfree : ∀ y ∈ scope.names, y.2 = .free → y.1 = d)
    (hco : scope.isCoroutine = false) (hgen : scope.isGenerator = false) (hk : scope.kind = .function) (hxn : (x == ("__classdict__" : Str)) = false) (hdn : (d == ("__classdict__" : Str)) = false) (hxd : (x == ("__debug__" : Str)) = false) (hdd : (d == ("__debug__" : Str)) = false)
    (hbind : ∀ (q : Str) (body : Expr) (cl : List (Str × Addr)) (pm ctv cv v : Value), bindArgs (PySem.W.kla_fn "<lambda>" q params body scope cl pm cv ctv) ⟨[v], []⟩ = pure [(x, v)])
    (hs : starEach (e :: []) X.env = (false, eval e X.env) :: starEach [] X.env := by rfl) (hpl : (backTo pos (starEach [e] X.env)).any (·.1) = false := by rfl) (hbk : backTo pos (starEach (e :: []) X.env) = (false, eval e X.env) :: backTo pos (starEach [] X.env) := by rfl) :
    PE X (.Call (.Name "sorted" p0) [e] [⟨some "key", .Lambda params (lamB d x p1 p2 p3 p4 p5) scope lpos, kpos⟩] pos) (tSortB X.K te i) := by
  refine ⟨fun pins s σ H Q I h => ?_⟩
  refine wpAny_Call_Name_kw (ld_blt I hg hm (by rfl) ?_)
  have ha : PA X [e] (tCons te tNil) := pa_cons he pa_nil hs
  refine PyProof.Rows.callWith_kw (thn (ha.run pos pins s σ H (fun vs H1 => match vs with
    | [x] => (LamX.Tabs (Tb X.K) H1 ∧ ∃ (a : Addr) (kvs : List (Key × V)) (ns : List Int) (f : Int → Int), x = .ref a ∧ σ[i]? = some (some (.ref a)) ∧ H1 a = some (.dK kvs) ∧ kvs.map (·.1) = ns.map Sum.inl ∧
      (∀ n ∈ ns, valV kvs (.inl n) = some (.int (f n))) ∧ ns.length ≤ 16777216 ∧
      ∀ (H2 : Hp) (p : Addr), LamX.ExtN H1 H2 → LamX.Tabs (Tb X.K) H2 → (∀ b, H2 b = none → H1 b = none) → H2 p = none → Q (.ref p) (L2.upd H2 p (.lst ((ns.mergeSort (leB f)).map V.int))))
    | _ => False) I h) fun us s1 ⟨vs, H1, I1, r1, q1⟩ => ?_) hbk hpl rfl rfl
  match vs, r1, q1 with
  | [x'], r1, q1 =>
  obtain ⟨ht, a, kvs, ns, fv, rfl, hσ, hda, hks, hval, hz, fin⟩ := q1
  obtain ⟨u, rfl, ru⟩ := vals1 r1
  cases ru
  have cells : ∀ y ∈ scope.names, y.2 = .free → ∃ c, X.env.cells.lookup y.1 = some c := fun y hy z => by
    obtain ⟨mm, _, lk⟩ := I1.loc
    obtain ⟨u, ru, lk⟩ := lk i d _ hN hσ (.inr (.inl hvis))
    rcases lk with ⟨q, _⟩ | ⟨_, c, q, _⟩
    · rw [hkind] at q; cases q
    · rw [hfree y hy z]; exact ⟨c, q⟩
  show wpAny _ _ (evalAll ((do let v ← eval (.Lambda params (lamB d x p1 p2 p3 p4 p5) scope lpos) X.env; standAt pos; pure v) :: [])) _ _ _
  refine wpAny_evalAll_cons (wpAny_bind (lam_mk I1 tb hcd hin one ht nodef cells fun f c' pm ctv H2 s2 I2 hex ht2 hnn hf hc' => wpAny_bind (wpAny_standAt (wpAny_pure (wpAny_evalAll_nil ?_)))))
  have hda2 : H2 a = some (.dK kvs) := hex _ _ hda fun _ z => by cases z
  obtain ⟨c, hcl, hcv⟩ : ∃ c, (cloFrom X.env.cells scope.names []).lookup d = some c ∧ s2.heap.IsCell c (some (.ref a)) := by
    obtain ⟨mm, _, lk⟩ := I2.loc
    obtain ⟨u, ru, lk⟩ := lk i d _ hN hσ (.inr (.inl hvis))
    cases (show u = Value.ref a from ru)
    rcases lk with ⟨q, _⟩ | ⟨_, c, q, hcv⟩
    · rw [hkind] at q; cases q
    · exact ⟨c, NdefX.clo_has cells (PySem.mem_of_lookup hd) q, hcv⟩
  have hun := hr.un
  have hdp2 := hr.dp
  obtain ⟨mb, b1, b2⟩ := I2.mod.blt
  have hcode : s2.heap.CodeRec (.ref c') (lq X) := by
    obtain ⟨oc, vs', t, c1, c2, c3⟩ := (I2.hok c' _ hc').1
    exact ⟨c', oc, vs', t, rfl, c1, c2, c3⟩
  obtain ⟨z, lo, vs, rel, dd⟩ := dk_rd I2.hok (.inl hda2)
  obtain ⟨ep, hat⟩ := dd.dictAt
  have hkeys : vs.map (·.1) = ns.map Sum.inl := rel.keys.symm.trans hks
  have hl : vs.length = ns.length := by
    have e := congrArg List.length hkeys
    rw [List.length_map, List.length_map] at e
    exact e
  have h16 : vs.length ≤ sizeLine := by rw [hl, sizeLine_eq]; omega
  refine PyProof.Rows.call_function_entry_kw PyProof.Rows.kind_sorted PyProof.Rows.plain_sorted PyProof.Rows.entry_sorted (PyProof.Rows.ksk_s1 _ _) ?_
  unfold Builtin.«sorted»
  refine wpAny_bind (m := checkCount "sorted" 1 1 _) (wpAny_pure ?_)
  refine wpAny_bind (PySem.W.kdu_collect (A := X.A.in1) (PySem.W.kdl_dict (knd := mixKind X.prog X.w) (kvs := vs) (ep := ep) lo) (I2.ok.hd hc) hat h16 fun h' tk acc hkp hacc => ?_)
  have hal : acc.toList.length = ns.length := by rw [Array.length_toList, hacc.1, hl]
  have hS : IntsAre acc.toList ns := ints_each hal fun j v e => by
    obtain ⟨k, x, e1, e2⟩ := hacc.2 j v (by rw [← Array.getElem?_toList]; exact e)
    have e3 : (vs.map (·.1))[j]? = some k := by rw [List.getElem?_map, e1]; rfl
    rw [hkeys, List.getElem?_map] at e3
    cases e4 : ns[j]? with
    | none => rw [e4] at e3; cases e3
    | some y =>
      rw [e4] at e3
      have e5 : Sum.inl y = k := Option.some.inj e3
      subst e5
      rcases keyIs_shape (show keyIs (Sum.inl y) v = true from e2) with ⟨i, t, ek, ev⟩ | ⟨z, t, ek, ev⟩
      · cases ek
        exact ⟨y, t, rfl, ev⟩
      · cases ek
  have I3 : Inv X pins σ H2 { s2 with heap := h', toks := tk } := I2.kept hkp
  have ea : PySem.W.EachIs (fun u (n : Int) => RelV (.int n) u) acc.toList ns := by
    generalize acc.toList = us at hS
    clear hal hks hval hz fin hkeys hl
    induction hS with
    | nil => exact .nil
    | cons x t _ ih => exact .cons ⟨t, rfl⟩ ih
  refine wpAny_bind (wpAny_newList ?_ (by rw [hal, sizeLine_eq]; omega))
  have hoL : (h'.push (seqObj "list" acc.toList.toArray 0)).get? h'.objs.size = some (seqObj "list" acc.toList.toArray 0) := Heap.get?_push_size _ rfl
  show wpAny _ _ _ _ _ { s2 with heap := h'.push (seqObj "list" acc.toList.toArray 0), toks := tk }
  refine wpAny_bind (wpAny_holding (PyProof.Rows.wpAny_call_entry_kw PyProof.Rows.slot_list_sort ⟨_, hoL, rfl⟩ PyProof.Rows.entry_list_sort ?body (PyProof.Rows.ksk_l1 _ _)))
  case body =>
    show wpAny (model X.prog X.w) X.A.in1.in1 (Builtin.«list.sort» ⟨[.ref h'.objs.size], [(Str.ofString "key", .ref f)]⟩) _ _ _
    rw [PyProof.Rows.ksk_t1]
    refine PySem.W.keyH_tree (kz := ns.map fun n => PyData.tuple [.int (fv n), .int n]) (s := { s2 with heap := h'.push (seqObj "list" acc.toList.toArray 0), toks := tk }) hoL (by rw [List.length_map, hal]) (by rw [hal, sizeLine_eq]; omega) ?_ (.inl fun d hd => ?_) ?_
      (PySem.W.keyH_turns (R := fun u (n : Int) => RelV (.int n) u) ea fun v n r hn g tk2 kp => ?_) fun g tk2 out c2 kp hD ko => ?_
    · intro d hd d' hd'
      obtain ⟨y, _, rfl⟩ := List.mem_map.mp hd
      obtain ⟨z, _, rfl⟩ := List.mem_map.mp hd'
      rfl
    · obtain ⟨y, _, rfl⟩ := List.mem_map.mp hd
      exact ⟨_, _, rfl⟩
    · intro d hd
      obtain ⟨y, _, rfl⟩ := List.mem_map.mp hd
      show X.A.units + 1 + 1 + (max 0 (max 0 0) + 1) < cLine
      omega
    · have keep : ∀ b o, s2.heap.get? b = some o → g.get? b = some o := fun b o e => kp b o (Nat.ne_of_lt (Heap.lt_size (hkp b o e))) (Heap.get?_push_of_some _ (hkp b o e))
      have I4 : Inv X pins σ H2 { s2 with heap := g, toks := tk2 } := I2.kept keep
      obtain ⟨c1, oc, vs', t, e1, e2, e3, e4⟩ := hcode
      obtain ⟨o, ho1, ho2⟩ := hcv
      refine lamB_run (y := .int n) I4 (keep _ _ hf) ⟨c1, oc, vs', t, e1, keep _ _ e2, e3, e4⟩ (by show X.A.depth < recursionLimit; omega) (by show X.A.units + 1 + 1 + 3 + 1 < cLine; omega) (hbind _ _ _ _ _ _ _) hx hd hcell hco hgen hk hxn hdn hxd hdd hcl ⟨o, keep _ _ ho1, ho2⟩
        (.inl ⟨kvs, .inl n, .inl hda2, rfl, (hval n hn).symm⟩) r ?_
      obtain ⟨t, rfl⟩ := r
      exact .int _ _
    · have he2 := PySem.W.keyedOut_each (R := fun u (n : Int) => RelV (.int n) u) _ ko ea
      have hv : Vals ((ns.mergeSort (leB fv)).map V.int) out := by
        have q : ∀ {us : List Value} {ms : List Int}, PySem.W.EachIs (fun u (n : Int) => RelV (.int n) u) us ms → Vals (ms.map V.int) us := fun {us ms} z => by
          induction z with
          | nil => exact .nil
          | cons a _ ih => exact .cons a ih
        exact q he2
      have hml : ((ns.mergeSort (leB fv)).map V.int).length ≤ sizeLine := by rw [List.length_map, List.length_mergeSort, sizeLine_eq]; omega
      refine ⟨_, rfl, wpAny_pure ⟨_, rfl, .ref h'.objs.size, L2.upd H2 h'.objs.size (.lst ((ns.mergeSort (leB fv)).map V.int)), I3.laid (t' := tk2) (fun b o e => kp b o (Nat.ne_of_lt (Heap.lt_size e)) (Heap.get?_push_of_some _ e)) (Nat.le_refl _)
        (show ObjOk X.prog X.w _ _ _ (.lst ((ns.mergeSort (leB fv)).map V.int)) from ⟨hml, out, c2, hv, hD⟩), rfl, fin H2 _ hex ht2 hnn (I3.hok.fresh (Nat.le_refl _))⟩⟩
end
end Pw
namespace Pw
open PySem L2 PySem.Spec PyProof.Rows
section
variable {K : PySem.W.Frag}
/-- sorted(d, key=lambda x: (d[x], x)), d with int keys and ints at them -/
def xSortB (i : Nat) : XE := fun E R => onD E i fun ks ds => ∃ (ns : List Int) (f : Int → Int), ks = ns.map Sum.inl ∧ (∀ n ∈ ns, lk ks ds (.inl n) = some (.int (f n))) ∧ ns.length ≤ 16777216 ∧ R (.lst ((ns.mergeSort (leB f)).map D.int)) E
theorem ff_sortB {i : Nat} : RfF K (tSortB K (tVar i) i) (xSortB i) := fun B H0 H al E σ f Q R hx kk => by
  obtain ⟨a, ks, ds, xs, hs, ha, rl, hl, q2, _⟩ := f.atD hx
  obtain ⟨ns, fv, rfl, hv, hz, q⟩ := q2
  refine ⟨_, hs, f.wd.tb, a, _, ns, fv, rfl, hs, ha, ?_, fun n hn => ?_, hz, fun H2 p hex ht hn hp => ?_⟩
  · exact List.map_fst_zip (by omega)
  · rcases rl.lk (ks := (ns.map Sum.inl : List Key)) (k := (.inl n : Key)) with ⟨h1, h2⟩ | ⟨d, v, h1, h2, h3⟩
    · rw [hv n hn] at h1; cases h1
    · rw [hv n hn] at h1; cases h1
      rw [← lk_zip] at h2
      rw [h2, show v = V.int (fv n) from h3]
  · have w2 := f.wd.lam hex ht hn
    exact kk [p] (.lst ((ns.mergeSort (leB fv)).map D.int)) E H0 _ ⟨w2.raw hp, f.sg⟩ (Ex.refl _) ⟨p, _, rfl, upd_same, repl_ints _⟩ (w2.fre hp) q
end
end Pw
end

section
set_option maxRecDepth 100000
set_option maxHeartbeats 2000000
namespace Pw
open PySem L2 PySem.Spec PyProof.Rows
/-! ### xs[-2::-1] -/
theorem pick_b2 (items : Array Value) : slicePick items (some (-2)) none (some (-1)) = items.toList.dropLast.reverse.toArray := by
  have hb : sliceBounds (some (-2)) none (some (-1)) items.size = (((items.size - 1 : Nat) : Int) - 1, -1, -1) := by
    unfold sliceBounds
    show (max (-1) (min ((-2 : Int) + items.size) ((items.size : Int) - 1)), (-1 : Int), (-1 : Int)) = _
    have : max (-1) (min ((-2 : Int) + items.size) ((items.size : Int) - 1)) = ((items.size - 1 : Nat) : Int) - 1 := by omega
    rw [this]
  unfold slicePick
  rw [hb]
  show ((PySem.sliceRange (((items.size - 1 : Nat) : Int) - 1) (-1) (-1)).filterMap (items[·]?)).toArray = _
  rw [PySem.W.krv_sliceRange, PySem.W.krv_range, List.filterMap_reverse]
  have h := pick_run items 0 (items.size - 1)
  have e : (List.range (items.size - 1)).map (0 + ·) = List.range (items.size - 1) := by
    rw [show ((0 + ·) : Nat → Nat) = id from funext fun k => Nat.zero_add k, List.map_id]
  rw [e, List.drop_zero] at h
  rw [h, List.dropLast_eq_take, Array.length_toList]
def tRevB (K : PySem.W.Frag) (te : TE) : TE := fun σ H Q => te σ H fun x H1 => ∃ a xs, x = .ref a ∧ SqL K H1 a xs ∧ ∀ p, H1 p = none → Q (.ref p) (L2.upd H1 p (.lst xs.dropLast.reverse))
theorem pe_revB {X : Cx} {e : Expr} {te : TE} {k k2 : Nat} {p1 p2 p3 p4 p5 pos : Pos} (he : PE X e te) : PE X (.Subscript e (.Slice (some (.UnaryOp .USub (.Constant (.int 2) k2 p4) p5)) none (some (.UnaryOp .USub (.Constant (.int 1) k p1) p2)) p3) pos) (tRevB X.K te) := by
  refine ⟨fun pins s σ H Q I h => ?_⟩
  refine Subscript_ (thn (he.run pins s σ H _ I h) fun v s1 ⟨x, H1, I1, r1, q1⟩ => ?_)
  obtain ⟨a, xs, ex, hx, q⟩ := q1
  subst ex
  cases r1
  have hlo : PO X (some (.UnaryOp .USub (.Constant (.int 2) k2 p4) p5)) (tPart (tUn (rU fun i => .int (-i)) (tC (.int 2)))) := po_some (pe_un un_neg pe_int)
  have hst : PO X (some (.UnaryOp .USub (.Constant (.int 1) k p1) p2)) (tPart (tUn (rU fun i => .int (-i)) (tC (.int 1)))) := po_some (pe_un un_neg pe_int)
  refine wpAny_Slice (thn (hlo.run pins s1 σ H1 (fun o H4 => o = some (-2) ∧ H4 = H1) I1 ⟨2, rfl, -2, rfl, rfl, rfl⟩) fun vl s2 ⟨o2, H2, I2, pl, eo, e4⟩ => ?_)
  subst eo e4
  rw [evalPart_none]
  refine wpAny_pure (thn (hst.run pins s2 σ H2 (fun o H4 => o = some (-1) ∧ H4 = H2) I2 ⟨1, rfl, -1, rfl, rfl, rfl⟩) fun vs s4 ⟨o, H4, I4, ps, eo, e4⟩ => ?_)
  subst eo e4
  have I5 : Inv X pins σ H4 { s4 with heap := s4.heap.push { cls := .type "slice", data := .fields #[vl, .none, vs] } } := I4.kept (t' := s4.toks) fun b ob q => Heap.get?_push_of_some _ q
  show wpAny (model X.prog X.w) X.A (subscriptTail e (.Slice (some (.UnaryOp .USub (.Constant (.int 2) k2 p4) p5)) none (some (.UnaryOp .USub (.Constant (.int 1) k p1) p2)) p3) (.ref a) (.ref s4.heap.objs.size)) (EP X pins σ Q) X.xe { s4 with heap := s4.heap.push { cls := .type "slice", data := .fields #[vl, .none, vs] } }
  obtain ⟨its, r, ht, hz⟩ := I5.list hx
  have hlen : its.toArray.size ≤ sizeLine := by rw [List.size_toArray, ← r.length]; exact hz
  refine tail_any (ops := [.ref a, .ref s4.heap.objs.size]) ht.isList.typeIs (PySem.slot_list_getitem.lookup) ?_ (by with_unfolding_all rfl)
  refine wpAny_getItem_list_slice ht.isList (Heap.IsSliceOf.new _ vl .none vs) pl .none ps (by decide) ?_ hlen
  rw [pick_b2]
  refine ⟨.ref _, _, I5.laid (t' := s4.toks) (o := .lst xs.dropLast.reverse) (fun b ob q => Heap.get?_push_of_some _ q) (Nat.le_refl _) ?_, rfl, q _ (I5.hok.fresh (Nat.le_refl _))⟩
  exact ⟨by rw [List.length_reverse, List.length_dropLast]; omega, its.dropLast.reverse, 0, r.dropLast.reverse, by rw [Heap.get?_push_size _ rfl]⟩
section
variable {K : PySem.W.Frag}
def xRevB (x : XE) : XE := fun E R => x E fun d E1 => match d with
  | .lst ds => R (.lst ds.dropLast.reverse) E1
  | _ => False
theorem rf_revB {t : TE} {x : XE} (h : Rf K t x) : Rf K (tRevB K t) (xRevB x) := fun B H0 H al E σ f Q R hx k =>
  h B H0 H al E σ f _ _ hx fun v d E' H0' H' f' e r q => by
    cases d with
    | lst ds =>
      obtain ⟨a, ws, rfl, hq, rl⟩ := (show ∃ a xs, v = .ref a ∧ H0' a = some (.lst xs) ∧ RepL K H0' ds xs from r)
      refine ⟨a, ws, rfl, SqL.of (f'.wd.ex _ _ hq), fun p hp => ?_⟩
      have e2 := Ex.new (o := .lst ws.dropLast.reverse) (f'.wd.ex.free hp)
      exact k _ (.lst ds.dropLast.reverse) E' _ _ ⟨f'.wd.new hp, f'.sg.mono e2⟩ (e.trans e2) ⟨p, _, rfl, upd_same, rl.dropLast.reverse.mono e2⟩ q
    | _ => exact (show False from q).elim
end
/-! ### sorted(t), t a tuple of ints -/
def rSortTI (K : PySem.W.Frag) : List V → Hp → VK → Prop := fun xs H Q => ∃ (a : Addr) (ns : List Int), xs = [.ref a] ∧ SqT K H a (ns.map V.int) ∧ ∀ (ys : List Int) (p : Addr), ys.Perm ns → ys.Pairwise (· ≤ ·) → H p = none → Q (.ref p) (L2.upd H p (.lst (ys.map V.int)))
theorem cr_sortTI {X : Cx} : CallR X (.builtin "sorted") (rSortTI X.K) := by
  intro pins s σ H vs us Q I r h
  obtain ⟨a, ns, rfl, hs, q⟩ := h
  obtain ⟨its, rv, ⟨o, ho, hc, n, hd⟩, hz⟩ := I.tuple hs
  rw [Vals.ref1 r]
  have hi := rv.ints
  have hz2 : its.length ≤ sizeLine := by rw [← rv.length]; exact hz
  refine Calls.call_function_entry kind_sorted plain_sorted entry_sorted (args_sorted1 _) ?_
  unfold Builtin.«sorted»
  refine wpAny_bind (m := checkCount "sorted" 1 1 _) (wpAny_pure ?_)
  refine wpAny_bind (wpAny_collect_seq a (.inr rfl) ho hc hd (fun h' hk => ?_) (by rw [List.size_toArray]; exact hz2))
  refine wpAny_bind (wpAny_newList ?_ hz2)
  have hoL : (h'.push (seqObj "list" its.toArray 0)).get? h'.objs.size = some (seqObj "list" its.toArray 0) := Heap.get?_push_size _ rfl
  have I1 : Inv X pins σ H { s with heap := h' } := I.kept (t' := s.toks) hk
  show wpAny _ _ _ _ _ { s with heap := h'.push (seqObj "list" its.toArray 0) }
  refine wpAny_bind (wpAny_holding (wpAny_call_entry slot_list_sort ⟨_, hoL, rfl⟩ entry_list_sort (SrtO.list_sort_ord SrtO.swo_int hoL hz2 (fun h2 => SrtO.ints_sortable hi h2) fun out h1 h2 => ⟨_, rfl, ?_⟩) (args_list_sort _)))
  obtain ⟨k1, k2, k3⟩ := SrtO.ints_out hi h1 h2
  obtain ⟨ep, he'⟩ := PyProof.Rows.sortedHeap_at (vs := its) (out := out.toArray) hoL
  have hlen : ((out.map SrtO.iv).map V.int).length ≤ sizeLine := by
    rw [List.length_map, k2.length_eq]
    rw [List.length_map] at hz
    exact hz
  refine wpAny_pure ⟨_, rfl, .ref h'.objs.size, L2.upd H h'.objs.size (.lst ((out.map SrtO.iv).map V.int)), I1.laid (t' := s.toks) (fun b u e => ?_) (Nat.le_refl _) ⟨hlen, out, ep, vals_of_ints k1, he'⟩, rfl, q _ _ k2 k3 (I1.hok.fresh (Nat.le_refl _))⟩
  have hb : b < h'.objs.size := Heap.lt_size e
  rw [PyProof.Rows.sortedHeap_old (Nat.ne_of_lt hb) (by rw [size_push']; exact Nat.lt_succ_of_lt hb)]
  exact Heap.get?_push_of_some _ e
def xSortTI : X1s := one1 fun d R => match d with
  | .tup xs => (match intsOf xs with | some ns => ∀ ys : List Int, ys.Perm ns → ys.Pairwise (· ≤ ·) → R (.lst (ys.map D.int)) | none => False)
  | _ => False
section
variable {K : PySem.W.Frag}
theorem fu_sortTI : FuB K (rSortTI K) xSortTI := fun H0 H ds vs R e ra hx Q k => by
  unfold xSortTI one1 at hx
  split at hx
  · rename_i d
    obtain ⟨v, rfl, r⟩ := repl_one ra
    split at hx
    · rename_i xs
      obtain ⟨a, ys, rfl, hq, rl⟩ := rep_tup r
      split at hx
      · rename_i ns hn
        rw [intsOf_eq hn] at rl
        rw [repl_ints_eq rl] at hq
        exact ⟨a, ns, rfl, ex_t e hq, fun ns' p h1 h2 hp => k _ _ p (hx ns' h1 h2) (fun H' => repl_ints ns') hp⟩
      · exact hx.elim
    · exact hx.elim
  · exact hx.elim
end
/-! ### sorted(xs), xs a list of alike data -/
def rSortAny (K : PySem.W.Frag) : List V → Hp → VK → Prop := fun xs H Q => ∃ (a : Addr) (ps : List (V × PyData)), xs = [.ref a] ∧ SqL K H a (ps.map (·.1)) ∧ ps.length ≤ 16777216 ∧ (∀ p ∈ ps, Dp K H p.1 p.2) ∧ PySem.W.AllAlike (ps.map (·.2)) ∧ PySem.W.Sortable (ps.map (·.2)) ∧ (∀ p ∈ ps, p.2.depth ≤ 8) ∧
  ∀ b : Addr, H b = none → Q (.ref b) (L2.upd H b (.lst ((ps.mergeSort (PySem.W.dataLe false fun p : V × PyData => p.2)).map (·.1))))
theorem cr_sortAny {X : Cx} {k : Nat} (hr : Room k X.A) : CallR X (.builtin "sorted") (rSortAny X.K) := by
  intro pins s σ H vs us Q I r h
  obtain ⟨a, ps, rfl, hs, hz0, hdp, hal, hsk, hdep, q⟩ := h
  obtain ⟨its, rv, hl, hz⟩ := I.list hs
  rw [Vals.ref1 r]
  have hun := hr.un
  have hz2 : its.length ≤ sizeLine := by rw [← rv.length]; exact hz
  have ea : PySem.W.EachIs (fun u (p : V × PyData) => RelV p.1 u) its ps := PySem.W.each_of_map (R := fun u y => RelV y u) (fun p : V × PyData => p.1) (each_vals rv)
  have eb : ∀ (g : Heap), (∀ b o, s.heap.get? b = some o → g.get? b = some o) → PySem.W.EachIs (fun v d => ∃ as, Reads g v d as) its (ps.map (·.2)) := fun g keep => by
    have : ∀ {us : List Value} {qs : List (V × PyData)}, (∀ p ∈ qs, p ∈ ps) → PySem.W.EachIs (fun u (p : V × PyData) => RelV p.1 u) us qs → PySem.W.EachIs (fun v d => ∃ as, Reads g v d as) us (qs.map (·.2)) := fun {us qs} hq z => by
      induction z with
      | nil => exact .nil
      | @cons u p us ps' h1 _ ih =>
        obtain ⟨as, rd⟩ := Dp.reads I _ _ _ (hdp p (hq p List.mem_cons_self)) h1
        exact .cons ⟨as, Reads.keeps keep rd⟩ (ih fun p hp => hq p (List.mem_cons_of_mem _ hp))
    exact this (fun _ h => h) ea
  refine PySem.W.sorted_vals (κ := PySem.W.dataKind (PySem.W.sortingHeap (PySem.W.copyHeap s.heap its) (s.heap.objs.size + 1) its) (ps.map (·.2))) hl.isList (PySem.W.SortsAt.data (eb _ fun b o e => PySem.W.sortingHeap_old (Nat.ne_of_lt (Nat.lt_succ_of_lt (Heap.lt_size e))) (PySem.W.copyHeap_old e)) hal hsk fun d hd => ?_) hz2 ?_
  · obtain ⟨p, hp, rfl⟩ := List.mem_map.mp hd
    have := hdep p hp
    show X.A.units + 1 + 1 + _ < cLine
    omega
  · have ko : PySem.W.KeyedOut false (ps.map (·.2)) its (PySem.W.sortVals (PySem.W.dataKind (PySem.W.sortingHeap (PySem.W.copyHeap s.heap its) (s.heap.objs.size + 1) its) (ps.map (·.2))) false its its) :=
      ⟨_, its, hal, rfl, eb _ fun b o e => PySem.W.sortingHeap_old (Nat.ne_of_lt (Nat.lt_succ_of_lt (Heap.lt_size e))) (PySem.W.copyHeap_old e)⟩
    have he2 := PySem.W.keyedOut_each (R := fun u (p : V × PyData) => RelV p.1 u) (fun p : V × PyData => p.2) ko ea
    generalize PySem.W.sortVals (PySem.W.dataKind (PySem.W.sortingHeap (PySem.W.copyHeap s.heap its) (s.heap.objs.size + 1) its) (ps.map (·.2))) false its its = out at he2 ko ⊢
    obtain ⟨ep, he'⟩ := PyProof.Rows.sortedAll_at s.heap its out.toArray
    have hv : Vals ((ps.mergeSort (PySem.W.dataLe false fun p : V × PyData => p.2)).map (·.1)) out := by
      have q : ∀ {us : List Value} {ms : List (V × PyData)}, PySem.W.EachIs (fun u (p : V × PyData) => RelV p.1 u) us ms → Vals (ms.map (·.1)) us := fun {us ms} z => by
        induction z with
        | nil => exact .nil
        | cons a _ ih => exact .cons a ih
      exact q he2
    have hlen : ((ps.mergeSort (PySem.W.dataLe false fun p : V × PyData => p.2)).map (·.1)).length ≤ sizeLine := by rw [List.length_map, List.length_mergeSort, sizeLine_eq]; exact hz0
    exact ⟨.ref _, L2.upd H (s.heap.objs.size + 1) (.lst ((ps.mergeSort (PySem.W.dataLe false fun p : V × PyData => p.2)).map (·.1))), I.laid (t' := s.toks) (fun _ _ => PyProof.Rows.sortedAll_old) (Nat.le_succ _) ⟨hlen, out, ep, hv, he'⟩, rfl, q _ (I.hok.fresh (Nat.le_succ _))⟩
end Pw
end

section
set_option maxRecDepth 100000
set_option maxHeartbeats 2000000
namespace Pw
open PySem L2 PySem.Spec PyProof.Rows
section
variable {K : PySem.W.Frag}
theorem pys_map : ∀ {ds : List D}, pys ds = ds.map py
  | [] => rfl
  | d :: ds => by rw [List.map_cons, ← pys_map]; rfl
theorem canLayAll_mem : ∀ {ds : List PyData} {d : PyData}, PyData.canLayAll0 ds = true → d ∈ ds → d.canLay0 = true
  | [], _, _, h => by cases h
  | e :: ds, d, h, hd => by
    obtain ⟨h1, h2⟩ := Bool.and_eq_true_iff.mp (show (e.canLay0 && PyData.canLayAll0 ds) = true from h)
    rcases List.mem_cons.mp hd with q | q
    · subst q; exact h1
    · exact canLayAll_mem h2 q
theorem repl_zip {H : Hp} : ∀ {ds : List D} {xs : List V}, RepL K H ds xs → ds = (xs.zip ds).map (·.2) ∧ xs = (xs.zip ds).map (·.1) ∧ ∀ p ∈ xs.zip ds, Rep K H p.2 p.1
  | [], xs, h => by cases (show xs = [] from h); exact ⟨rfl, rfl, fun _ z => by cases z⟩
  | d :: ds, xs, h => by
    obtain ⟨x, ys, rfl, h1, h2⟩ := (show ∃ x ys, xs = x :: ys ∧ Rep K H d x ∧ RepL K H ds ys from h)
    obtain ⟨e1, e2, e3⟩ := repl_zip h2
    refine ⟨by rw [List.zip_cons_cons, List.map_cons, ← e1], by rw [List.zip_cons_cons, List.map_cons, ← e2], fun p hp => ?_⟩
    rw [List.zip_cons_cons] at hp
    rcases List.mem_cons.mp hp with e | e
    · subst e; exact h1
    · exact e3 p e
theorem zip_repl {H : Hp} : ∀ {zs : List (V × D)}, (∀ p ∈ zs, Rep K H p.2 p.1) → RepL K H (zs.map (·.2)) (zs.map (·.1))
  | [], _ => rfl
  | z :: zs, h => ⟨z.1, zs.map (·.1), rfl, h z List.mem_cons_self, zip_repl fun p hp => h p (List.mem_cons_of_mem _ hp)⟩
/-- sorted(xs), xs a list of alike data -/
def xSortAny : X1s := one1 fun d R => match d with
  | .lst ds => ds.length ≤ 16777216 ∧ PyData.canLayAll0 (pys ds) = true ∧ PySem.W.AllAlike (ds.map py) ∧ PySem.W.Sortable (ds.map py) ∧ (∀ d ∈ ds, (py d).depth ≤ 8) ∧ R (.lst (ds.mergeSort (PySem.W.dataLe false py)))
  | _ => False
theorem rbf_sortAny : RfBF K (rSortAny K) xSortAny := fun B H0 H al E σ f ds vs ra Q R hx k => by
  unfold xSortAny one1 at hx
  split at hx
  · rename_i d
    obtain ⟨v, rfl, r⟩ := repl_one ra
    split at hx
    · rename_i xs
      obtain ⟨a, ys, rfl, hq, rl⟩ := (show ∃ a ys, v = .ref a ∧ H0 a = some (.lst ys) ∧ RepL K H0 xs ys from r)
      obtain ⟨h1, h2, h3, h4, h5, q⟩ := hx
      obtain ⟨e1, e2, e3⟩ := repl_zip rl
      have hlen := rl.length
      have m2 : ((ys.zip xs).map fun p => (p.1, py p.2)).map (fun p : V × PyData => p.2) = xs.map py := by
        rw [List.map_map]
        conv => rhs; rw [e1, List.map_map]
        rfl
      have m1 : ((ys.zip xs).map fun p => (p.1, py p.2)).map (fun p : V × PyData => p.1) = ys := by
        rw [List.map_map]
        conv => rhs; rw [e2]
        rfl
      refine ⟨a, (ys.zip xs).map fun p => (p.1, py p.2), rfl, ?_, ?_, fun p hp => ?_, ?_, ?_, fun p hp => ?_, fun b hb => ?_⟩
      · rw [m1]; exact SqL.of (f.wd.ex _ _ hq)
      · rw [List.length_map, List.length_zip]; omega
      · obtain ⟨z, hz, rfl⟩ := List.mem_map.mp hp
        refine Rep.dp f.wd.ex z.2 z.1 (e3 z hz) (canLayAll_mem h2 ?_)
        rw [pys_map]
        exact List.mem_map.mpr ⟨z.2, by rw [e1]; exact List.mem_map.mpr ⟨z, hz, rfl⟩, rfl⟩
      · rw [m2]; exact h3
      · rw [m2]; exact h4
      · obtain ⟨z, hz, rfl⟩ := List.mem_map.mp hp
        exact h5 z.2 (by rw [e1]; exact List.mem_map.mpr ⟨z, hz, rfl⟩)
      · have s1 : ((ys.zip xs).map fun p => (p.1, py p.2)).mergeSort (PySem.W.dataLe false fun p : V × PyData => p.2) = ((ys.zip xs).mergeSort (PySem.W.dataLe false fun p : V × D => py p.2)).map fun p => (p.1, py p.2) := by
          refine (List.map_mergeSort fun p _ q _ => ?_).symm
          rfl
        have s2 : xs.mergeSort (PySem.W.dataLe false py) = ((ys.zip xs).mergeSort (PySem.W.dataLe false fun p : V × D => py p.2)).map (·.2) := by
          conv => lhs; rw [e1]
          refine (List.map_mergeSort fun p _ q _ => ?_).symm
          rfl
        rw [s1, List.map_map]
        rw [s2] at q
        exact k [b] (.lst (((ys.zip xs).mergeSort (PySem.W.dataLe false fun p : V × D => py p.2)).map (·.2))) H0 _ ⟨f.wd.raw hb, f.sg⟩ (Ex.refl _) ⟨b, _, rfl, upd_same, zip_repl fun p hp => e3 p ((List.mergeSort_perm _ _).mem_iff.mp hp)⟩ (f.wd.fre hb) q
    · exact hx.elim
  · exact hx.elim
/-- a row with its length ahead -/
def prR (r : List Int) : D := .tup [.int (r.length : Nat), rwD r]
theorem py_rwD {r : List Int} : py (rwD r) = .tuple (r.map PyData.int) := by
  show PyData.tuple (pys (r.map D.int)) = _
  rw [pys_map, List.map_map]
  rfl
theorem py_prR {r : List Int} : py (prR r) = keyR r := by
  show PyData.tuple [.int (r.length : Nat), py (rwD r)] = _
  rw [py_rwD]; rfl
theorem canLay_ints : ∀ {r : List Int}, PyData.canLayAll0 (r.map PyData.int) = true
  | [] => rfl
  | i :: r => by show (PyData.canLay0 (.int i) && PyData.canLayAll0 (r.map PyData.int)) = true; rw [canLay_ints]; rfl
theorem canLay_prs : ∀ {rows : List (List Int)}, PyData.canLayAll0 (pys (rows.map prR)) = true
  | [] => rfl
  | r :: rows => by
    show ((py (prR r)).canLay0 && PyData.canLayAll0 (pys (rows.map prR))) = true
    rw [canLay_prs, py_prR]
    show ((PyData.canLay0 (.int (r.length : Nat)) && (PyData.canLayAll0 (r.map PyData.int) && true)) && true) = true
    rw [canLay_ints]; rfl
theorem xSortAny_rows {rows : List (List Int)} {R : D → Prop} (hz : rows.length ≤ 16777216) (k : R (.lst ((rows.mergeSort leRow).map prR))) : xSortAny [.lst (rows.map prR)] R := by
  refine ⟨by rw [List.length_map]; exact hz, canLay_prs, ?_, .inl ?_, fun d hd => ?_, ?_⟩
  · intro d hd d' hd'
    rw [List.map_map] at hd hd'
    obtain ⟨y, _, rfl⟩ := List.mem_map.mp hd
    obtain ⟨z, _, rfl⟩ := List.mem_map.mp hd'
    show PySem.W.alike (py (prR y)) (py (prR z)) = true
    rw [py_prR, py_prR]
    show (true && (PySem.W.alikeAll (y.map PyData.int) (z.map PyData.int) && true)) = true
    rw [alike_ints]; rfl
  · intro d hd
    rw [List.map_map] at hd
    obtain ⟨y, _, rfl⟩ := List.mem_map.mp hd
    exact ⟨_, _, py_prR⟩
  · obtain ⟨y, _, rfl⟩ := List.mem_map.mp hd
    rw [py_prR]
    show max 0 (max (PyData.depthAll (y.map PyData.int) + 1) 0) + 1 ≤ 8
    rw [depth_ints]; decide
  · have e : (rows.map prR).mergeSort (PySem.W.dataLe false py) = (rows.mergeSort leRow).map prR := by
      refine (List.map_mergeSort fun p _ q _ => ?_).symm
      unfold leRow PySem.W.dataLe PySem.W.sortLe
      simp only [py_prR]
    rw [e]; exact k
/-! ### in, deep -/
def xInD (neg : Bool) : X2 := fun a b R => match b with
  | .lst ys => SeqAt.shaped (py a) = true ∧ SeqAt.shaped (.list (pys ys)) = true ∧ R (.bl (neg ^^ (pys ys).any fun z => PyData.eqv z (py a)))
  | _ => False
theorem op_inD' {X : Cx} {k : Nat} (hr : Room k X.A) : OpR X (compareOp .In) (rInD X.K) := op_inD (by have := hr.un; omega)
theorem op_notInD' {X : Cx} {k : Nat} (hr : Room k X.A) : OpR X (compareOp .NotIn) (rNotInD X.K) := op_notInD (by have := hr.un; omega)
theorem pu_inD : Pu2 K (rInD K) (xInD false) := fun H0 H a b v w R e ra rb hx => by
  cases b with
  | lst ys =>
    obtain ⟨h1, h2, h3⟩ := hx
    rw [Bool.false_xor] at h3
    exact ⟨_, .bl _, h3, fun _ => rfl, fun Q q => ⟨py a, pys ys, Rep.dp e a v ra (SeqAt.canLay_of_shaped h1), Rep.dp e (.lst ys) w rb (SeqAt.canLay_of_shaped h2), h1, h2, q⟩⟩
  | _ => exact (show False from hx).elim
theorem pu_notInD : Pu2 K (rNotInD K) (xInD true) := fun H0 H a b v w R e ra rb hx => by
  cases b with
  | lst ys =>
    obtain ⟨h1, h2, h3⟩ := hx
    rw [Bool.true_xor] at h3
    exact ⟨_, .bl _, h3, fun _ => rfl, fun Q q => ⟨py a, pys ys, Rep.dp e a v ra (SeqAt.canLay_of_shaped h1), Rep.dp e (.lst ys) w rb (SeqAt.canLay_of_shaped h2), h1, h2, q⟩⟩
  | _ => exact (show False from hx).elim
/-! ### in a dict that an expression gives -/
def xDInE (neg : Bool) (xk xd : XE) : XE := fun E R => xk E fun y E1 => xd E1 fun d E2 => match d with
  | .dK ks ds => (match keyD y with
    | some k => R (.bl (neg ^^ (lk ks ds k).isSome)) E2
    | none => False)
  | _ => False
theorem rf_dinE {tk td : TE} {xk xd : XE} (hk : Rf K tk xk) (hd : Rf K td xd) : Rf K (tDIn tk td) (xDInE false xk xd) := fun B H0 H al E σ f Q R hx kk =>
  hk B H0 H al E σ f _ _ hx fun w y E1 H1 H' f1 e1 ry q => hd B H1 H' al E1 σ f1 _ _ q fun w2 d E2 H2 H2' f2 e2 rd q2 => by
    cases d with
    | dK ks ds =>
      obtain ⟨a, xs, rfl, ha, rl, hl⟩ := (show ∃ a xs, w2 = .ref a ∧ H2 a = some (.dK (ks.zip xs)) ∧ RepL K H2 ds xs ∧ ks.length = xs.length from rd)
      cases hy : keyD y with
      | none => simp only [hy] at q2
      | some k =>
        simp only [hy, Bool.false_xor] at q2
        have := keyD_ok hy ry
        subst this
        refine ⟨a, _, rfl, DGet.k (f2.wd.ex _ _ ha), ?_⟩
        rw [lk_isSome rl]
        exact kk _ (.bl _) E2 H2 H2' f2 (e1.trans e2) rfl q2
    | _ => exact (show False from q2).elim
theorem rf_dnotinE {tk td : TE} {xk xd : XE} (hk : Rf K tk xk) (hd : Rf K td xd) : Rf K (tDNotIn tk td) (xDInE true xk xd) := fun B H0 H al E σ f Q R hx kk =>
  hk B H0 H al E σ f _ _ hx fun w y E1 H1 H' f1 e1 ry q => hd B H1 H' al E1 σ f1 _ _ q fun w2 d E2 H2 H2' f2 e2 rd q2 => by
    cases d with
    | dK ks ds =>
      obtain ⟨a, xs, rfl, ha, rl, hl⟩ := (show ∃ a xs, w2 = .ref a ∧ H2 a = some (.dK (ks.zip xs)) ∧ RepL K H2 ds xs ∧ ks.length = xs.length from rd)
      cases hy : keyD y with
      | none => simp only [hy] at q2
      | some k =>
        simp only [hy, Bool.true_xor] at q2
        have := keyD_ok hy ry
        subst this
        refine ⟨a, _, rfl, DGet.k (f2.wd.ex _ _ ha), ?_⟩
        rw [lk_isSome rl]
        exact kk _ (.bl _) E2 H2 H2' f2 (e1.trans e2) rfl q2
    | _ => exact (show False from q2).elim
end
end Pw
end

section
set_option maxRecDepth 100000
set_option maxHeartbeats 2000000
namespace Pw
open PySem L2 PySem.Spec PyProof.Rows
/-- the defs whose lambdas are served -/
abbrev lamNames : List Str := [("subsets" : Str), "order_to", "story"]
abbrev lamOf (x : Str) : Str := (x ++ ".<locals>.") ++ "<lambda>"
theorem tb_mem {K : PySem.W.Frag} {p : Addr × Str} : p ∈ Tb K ↔ ∃ x ∈ lamNames, ∃ c, PySem.W.tabIn K x = some (c, p.1) ∧ p.2 = lamOf x := by
  unfold Tb
  rw [List.mem_filterMap]
  constructor
  · rintro ⟨x, hx, h⟩
    obtain ⟨q, h1, h2⟩ := Option.map_eq_some_iff.mp h
    subst h2
    exact ⟨x, hx, q.1, h1, rfl⟩
  · rintro ⟨x, hx, c, h1, h2⟩
    refine ⟨x, hx, ?_⟩
    rw [h1]
    obtain ⟨p1, p2⟩ := p
    cases h2
    rfl
theorem tabIn_of {K : PySem.W.Frag} {x : Str} {f c P : Addr} {oc oc2 : Value} {od od2 : Option Addr} {fd : FuncData} {sl sl2 : Array (Option Value)} {vs : Array Value} (h1 : PySem.W.nsIn K mainGlobals x = some (some (.ref f))) (h2 : K.lookup f = some ⟨oc, od, .func fd, sl⟩)
    (h3 : fd.code = .ref c) (h4 : K.lookup c = some ⟨oc2, od2, .fields vs, sl2⟩) (h5 : (vs[11]? : Option Value) = some (.ref P)) : PySem.W.tabIn K x = some (c, P) := by
  unfold PySem.W.tabIn
  simp only [h1, h2, h3, h4, h5]
theorem tabIn_no {K : PySem.W.Frag} {x : Str} (h1 : PySem.W.nsIn K mainGlobals x = some none) : PySem.W.tabIn K x = none := by
  unfold PySem.W.tabIn
  simp only [h1]
/-- what the def x has for its lambdas -/
structure TabD (K : PySem.W.Frag) (mg : Str → Option Value) (base : Heap) (x : Str) (fd : FuncData) : Prop where
  ex : ∃ c P, fd.code = .ref c ∧ LamX.TabB base mg c P ∧ (P, lamOf x) ∈ Tb K ∧ ∀ p ∈ Tb K, p.1 = P → p.2 = lamOf x
theorem fn_wordT {P : Program} {w : World} {K : PySem.W.Frag} {mg : Str → Option Value} {base : Heap} {x : Str} {st : Stmt} {f : Addr} {fd : FuncData} {N ps : List Str} {k : Nat} {t : TS} {xb : XS} (T : TabD K mg base x fd) (F : Fun K x x st f fd) (S : FnScope N ps (defScope st))
    (hb : ∀ (cd Pt : Addr) (A : Around) (outer : List Env) (s : Shared) (H : Hp) (E : XK), Room k (A.deeper (PyProof.Rows.envOfC x (defScope st) s.heap.objs.size f (.ref cd))) →
      LamX.TabB (cxOf CX0 P w K mg base N x (defScope st) f (.ref cd) A outer s H E).nox.base (cxOf CX0 P w K mg base N x (defScope st) f (.ref cd) A outer s H E).nox.mg cd Pt →
      (cxOf CX0 P w K mg base N x (defScope st) f (.ref cd) A outer s H E).nox.env.code = .ref cd →
      (Pt, lq (cxOf CX0 P w K mg base N x (defScope st) f (.ref cd) A outer s H E).nox) ∈ Tb (cxOf CX0 P w K mg base N x (defScope st) f (.ref cd) A outer s H E).nox.K →
      (∀ p ∈ Tb (cxOf CX0 P w K mg base N x (defScope st) f (.ref cd) A outer s H E).nox.K, p.1 = Pt → p.2 = lq (cxOf CX0 P w K mg base N x (defScope st) f (.ref cd) A outer s H E).nox) →
      PSs (cxOf CX0 P w K mg base N x (defScope st) f (.ref cd) A outer s H E).nox (defBody st) t)
    (hr : RfS K t xb) : FnOk P w K mg base CX0 (k + 1) f fd ps (spOf K ps.length (fnX N.length ps.length xb)) := by
  obtain ⟨c, Pt, hc, tb, hin, one⟩ := T.ex
  obtain ⟨oc, od, kV, doc, pm, an, cdv, ct, osl, rfl, lk, hcd⟩ := F.ex
  have e : cdv = .ref c := hc
  subst e
  refine fn_of lk hcd S (fun vs H Q E h => word_in h) fun A outer s H vs Q E hroom h => ?_
  exact ⟨t, (hb c Pt A outer s H E hroom tb rfl hin one).nox, word_body hr h⟩
theorem walk_ofTab {l : PySem.W.OpenLaw} {k : Nat} {q : Program} {loose : List Str} {XP : (Str → Option Value) → Heap → Prop} {YP : World → Heap → Prop} {d : DefRec} {K : Params → PySem.W.Frag}
    (hn : l.most = some 63) (hdf : d.params.defaults = []) (hr : Room k callerA) (hrec : ∀ x ∈ lamNames, ((recsOf q).find? (fun e => e.name == x)).isSome = true ∨ ∀ w : World, PySem.W.tabIn (K w.params) x = none) (hY : ∀ (w : World) (h : Heap), YP w h → (K w.params).In h)
    (F : ∀ (w : World) (mg : Str → Option Value) (fa : Addr) (h : Heap), (K w.params).In h → h.Ns mainGlobals mg → mg d.name = some (.ref fa) →
      (∀ x ∈ lamNames, ∀ c P, PySem.W.tabIn (K w.params) x = some (c, P) → (K w.params).lookup P = none) ∧ ∃ fd : FuncData, (∀ (s : Shared) (u : Value), BindsTo s fd ⟨[u], []⟩ [("script", u)]) ∧
      ∀ base : Heap, (K w.params).In base → base.Ns mainGlobals mg → (∀ x ∈ lamNames, ∀ c P, PySem.W.tabIn (K w.params) x = some (c, P) → LamX.TabB base mg c P) → FnOk l.prog w (K w.params) mg base CX0 k fa fd ["script"] (spLaw (K w.params))) :
    PySem.W.WalkO q loose XP YP l.row.toRowW d [] (fun f vs => PySem.call f vs) := by
  refine Att.attach_callB hn hdf fun w s₀ s₁ mg mb fa o pm cd doc a vs ns G Y ho hd hcd hmg hobj hints hlen hbits hg => ?_
  have KX := hY w _ Y
  obtain ⟨nT, fd, hb, hF⟩ := F w mg fa _ KX G.T.g hmg
  have tabs : ∀ x ∈ lamNames, ∀ c P, PySem.W.tabIn (K w.params) x = some (c, P) → PySem.W.CodeHd s₁.heap c P ∧ s₁.heap.get? P = some { cls := .none, data := .fields #[] } := fun x hx c P h => by
    rcases hrec x hx with hr | hr
    · obtain ⟨d', hd'⟩ := Option.isSome_iff_exists.mp hr
      exact PySem.W.tab_of G.T KX hd' h
    · rw [hr w] at h; cases h
  have mem : ∀ p ∈ lamNames.filterMap (PySem.W.tabIn (K w.params)), ∃ x ∈ lamNames, PySem.W.tabIn (K w.params) x = some (p.1, p.2) := fun p hp => by
    obtain ⟨x, hx, h⟩ := List.mem_filterMap.mp hp
    exact ⟨x, hx, h⟩
  refine LamX.law_callTs (cs := lamNames.filterMap (PySem.W.tabIn (K w.params))) (CX := CX0) (k := k) KX G.T.g G.T.b G.T.builtins G.T.nolimit hg (fun p hp => ?_) (fun p hp => ?_) (fun p hp => ?_) G.T.bmain hobj hints (Nat.le_trans hlen (by rw [sizeLine_eq]; decide)) hr
    (fun base h1 h2 h3 => hF base h1 h2 fun x hx c P h => h3 (c, P) (List.mem_filterMap.mpr ⟨x, hx, h⟩)) hb (fun H hH hS => ⟨a, ns, rfl, hS, hlen, fun p hp => ?_, fun _ => rfl⟩) fun _ _ _ h => h
  · obtain ⟨x, hx, h⟩ := mem p hp; exact (tabs x hx _ _ h).2
  · obtain ⟨x, hx, h⟩ := mem p hp; exact nT x hx _ _ h
  · obtain ⟨x, hx, h⟩ := mem p hp; exact (tabs x hx _ _ h).1
  · obtain ⟨x, hx, c, h1, h2⟩ := tb_mem.mp hp
    have q := hH (c, p.1) (List.mem_filterMap.mpr ⟨x, hx, h1⟩)
    exact LamX.TabS.nil q
end Pw
end

section
set_option maxRecDepth 100000
set_option maxHeartbeats 2000000
namespace Pw
open PySem L2 PySem.Spec PyProof.Rows
section
variable {K : PySem.W.Frag}
/-- the truth of an int -/
def xTru (x : XE) : XT := fun E R => x E fun d E1 => match d with
  | .int i => R (!decide (i = 0)) E1
  | _ => False
theorem rt_truth {t : TE} {x : XE} (h : Rf K t x) : RfT K (fun σ H Q => t σ H fun x H' => ∃ k, TruV K x H' k ∧ Q k H') (xTru x) := fun B H0 H al E σ f Q R hx k =>
  h B H0 H al E σ f _ _ hx fun v d E' H0' H' f' e r q => by
    cases d with
    | int i => 
      cases (show v = V.int i from r)
      exact ⟨!decide (i = 0), by show (!decide (i = 0)) = (i != 0); by_cases z : i = 0 <;> simp [z], k _ E' H0' H' f' e q⟩
    | _ => exact (show False from q).elim
end
end Pw
end

section
set_option maxRecDepth 100000
set_option maxHeartbeats 2000000
namespace Pw
open PySem L2 PySem.Spec PyProof.Rows
section
variable {K : PySem.W.Frag}
/-- a comprehension over a list of one's own, that stays as it is meanwhile -/
def xLcLO (S : Sl) (ix : Nat) (g : XG) (xt : XT) (xe : XE) (vs : List Nat) (R : List D → List Sl → Prop) : List D → List D → List Sl → Prop
  | [], acc, E => nth E ix = S ∧ R acc E
  | d :: ds, acc, E => nth E ix = S ∧ g d E fun E1 => xt E1 fun b E2 => if b = true then xe E2 fun y E3 => noOwn E3 vs (acc.length < 16777216 ∧ xLcLO S ix g xt xe vs R ds (acc ++ [y]) (wipeE E3 vs)) else noOwn E2 vs (xLcLO S ix g xt xe vs R ds acc (wipeE E2 vs))
def xLcO (ix : Nat) (g : XG) (xt : XT) (xe : XE) (vs : List Nat) : XE := fun E R => onLst E ix fun io ds => noOwn E vs (xLcLO (.own io (.lst ds)) ix g xt xe vs (fun acc E2 => R (.lst acc) (backE E vs E2)) ds [] (wipeE E vs))
theorem ff_lcO {ix : Nat} {g : TG} {xg : XG} {is : List Nat} {tt : TT} {xt : XT} {te : TE} {xe : XE} {vs : List Nat} (hg : RfG K g xg is) (ht : RfT K tt xt) (he : Rf K te xe) (hv : ∀ i ∈ is, i ∈ vs) : RfF K (tLc (iAny K (tVar ix)) g tt te vs) (xLcO ix xg xt xe vs) := fun B H0 H al E σ f Q R hx k =>
  by
    obtain ⟨io, ds, h1, hf⟩ := onLst_ok hx
    obtain ⟨p, xs, hp, hv0, hH, rl⟩ := f.ownLst h1
    have f1 := f
    have e1 : Ex H0 H0 := Ex.refl _
    refine ⟨_, hv0, p, rfl, .inl ⟨⟨xs, SqL.of hH⟩, ?_⟩⟩
    intro D hD
    obtain ⟨hl, hn1⟩ := noOwn_ok hf
    have g0 : H0 D = none := f1.wd.ex.free hD
    -- the state between the turns
    refine ⟨fun i m H' => ∃ H0' E' acc accV, Fr K B H0' H' al E' (wipe σ vs) ∧ Ex H0 H0' ∧ H0' D = none ∧ H' D = some (.lst accV) ∧ RepL K H0' acc accV ∧ (∀ j jo e, nth E' j = .own jo e → D ∉ al j) ∧
      m = ds.length - i ∧ i ≤ ds.length ∧ xLcLO (.own io (.lst ds)) ix xg xt xe vs (fun acc E2 => R (.lst acc) (backE E vs E2)) (ds.drop i) acc E',
      ⟨ds.length, H0, wipeE E vs, [], [], ⟨(f1.wipe hn1).wd.raw hD, (f1.wipe hn1).sg⟩, Ex.refl _, g0, upd_same, rfl, fun jj jo e hj => (f1.wipe hn1).wd.ne hD hj, by omega, Nat.zero_le _, hl⟩, ?_⟩
    rintro i m H' ⟨H0', E', acc, accV, f', e', d0, dV, ra, hne, em, hle, q⟩
    by_cases hlt : i < ds.length
    · have hd : ds[i]? = some ds[i] := List.getElem?_eq_getElem hlt
      -- a base of its own for the turn
      have fb : Fr K (B.here H0' H' al E') H0' H' al E' (wipe σ vs) := ⟨f'.wd.here, f'.sg⟩
      have q0 : nth E' ix = .own io (.lst ds) := by
        rw [drop_of hlt] at q; exact q.1
      obtain ⟨p', xs', hp', _, hH', rl'⟩ := f'.ownLst q0
      obtain rfl : p' = p := by rw [hp] at hp'; cases hp'; rfl
      obtain ⟨vi, hvi, rvi⟩ := rl'.get hd
      have go : (Itl K p').go i H' := ⟨xs', vi, SqL.of hH', hvi⟩
      have yl : ∀ x H'', (Itl K p').yld i H' x H'' → ∃ H0'', Fr K (B.here H0' H' al E') H0'' H'' al E' (wipe σ vs) ∧ Ex H0' H0'' ∧ Rep K H0'' ds[i] x ∧ ∀ b o, H' b = some o → H'' b = some o := fun x H'' hy => by
        obtain ⟨rfl, h⟩ := hy
        have := h xs' (SqL.of hH')
        rw [hvi] at this
        cases this
        exact ⟨H0', fb, Ex.refl _, rvi, fun _ _ h => h⟩
      have keepD : ∀ {H0a Ha : Hp} {Ea : List Sl}, Wd K (B.here H0' H' al E') H0a Ha al Ea → Ha D = some (.lst accV) ∧ H0a D = none ∧ ∀ j jo e, nth Ea j = .own jo e → D ∉ al j := fun {H0a Ha Ea} wa => by
        have nf : ¬ (B.here H0' H' al E').fp D := fun ⟨jj, jo, e, hj, hz⟩ => hne jj jo e hj hz
        refine ⟨wa.kp D _ dV nf (fun _ z => by cases z), ?_, fun jj jo e hj z => ?_⟩
        · cases qd : H0a D with
          | none => rfl
          | some o =>
            rcases wa.nw D o qd with z | z | z
            · have z : H0' D = some o := z
              rw [d0] at z; cases z
            · have z : H' D = none := z
              rw [dV] at z; cases z
            · exact absurd z nf
        · rcases ((wa.own jj jo e hj).2 D z).2 with c | c
          · exact nf c
          · have c : H' D = none := c
            rw [dV] at c; cases c
      refine .inr ⟨go, fun H3 => ∃ H03 E3 acc3 accV3, Fr K B H03 H3 al E3 (wipe σ vs) ∧ Ex H0 H03 ∧ H03 D = none ∧ H3 D = some (.lst accV3) ∧ RepL K H03 acc3 accV3 ∧ (∀ j jo e, nth E3 j = .own jo e → D ∉ al j) ∧
        xLcLO (.own io (.lst ds)) ix xg xt xe vs (fun acc E2 => R (.lst acc) (backE E vs E2)) (ds.drop (i + 1)) acc3 E3, fun H3 z => ?_, fun x H'' hy => ?_⟩
      · obtain ⟨H03, E3, acc3, accV3, f3, e3, a3, b3, c3, n3, z⟩ := z
        exact ⟨ds.length - (i + 1), by omega, H03, E3, acc3, accV3, f3, e3, a3, b3, c3, n3, rfl, hlt, z⟩
      · obtain ⟨H0'', f2, e2, r2, _⟩ := yl x H'' hy
        rw [drop_of hlt] at q
        refine hg _ H0'' H'' al E' (wipe σ vs) f2 ds[i] x r2 _ _ q.2 fun E4 σ4 f4 w4 q4 => ?_
        have w5 : wipe σ4 vs = wipe σ vs := by rw [w4 vs hv, wipe_wipe]
        refine ⟨w5, ht _ H0'' H'' al E4 σ4 f4 _ _ q4 fun b E5 H05 H5 f5 e5 q5 => ?_⟩
        cases b with
        | true =>
          refine iteT ?_
          refine he _ H05 H5 al E5 σ4 f5 _ _ q5 fun y dy E6 H06 H6 f6 e6 r6 q6 => ?_
          obtain ⟨q7, n6⟩ := noOwn_ok q6
          obtain ⟨kD, kD0, kN⟩ := keepD f6.wd
          refine ⟨accV, kD, by rw [ra.length]; exact sz_lt q7.1, ?_⟩
          have fw : Fr K (B.here H0' H' al E') H06 H6 al (wipeE E6 vs) (wipe σ vs) := by
            have := f6.wipe n6
            rw [w5] at this
            exact this
          have fo : Fr K B H06 H6 al (wipeE E6 vs) (wipe σ vs) := ⟨f'.wd.back fw.wd, fw.sg⟩
          have own' : ∀ jj jo e, nth (wipeE E6 vs) jj = .own jo e → D ∉ al jj := (keepD fw.wd).2.2
          have ex6 : Ex H0' H06 := (e2.trans e5).trans e6
          have fm : Fr K B H06 (upd H6 D (.lst (accV ++ [y]))) al (wipeE E6 vs) (wipe σ vs) := by
            refine ⟨⟨fo.wd.ex.mut kD0, fun jj jo e hj => ?_, fo.wd.inj, fun b o hb nb nt => ?_, fo.wd.e0, fo.wd.nw, fun b hb => ?_, fo.wd.pin, tabs_put fo.wd.tb (keepD fw.wd).1 lst_tb, fo.wd.t0⟩, fo.sg⟩
            · obtain ⟨a, b⟩ := fo.wd.own jj jo e hj
              exact ⟨a.keep fun c hc => upd_ne fun z => own' jj jo e hj (by rw [← z]; exact hc), b⟩
            · have hbD : b ≠ D := fun z => by
                rw [z] at hb
                have : B.He D = none := f1.wd.lv _ hD
                rw [hb] at this; cases this
              rw [upd_ne hbD]
              exact fo.wd.kp b o hb nb nt
            · by_cases z : b = D
              · subst z; rw [upd_same] at hb; cases hb
              · rw [upd_ne z] at hb; exact fo.wd.lv b hb
          exact ⟨H06, wipeE E6 vs, acc ++ [dy], accV ++ [y], fm, e'.trans ex6, kD0, upd_same, (ra.mono ex6).append (.one r6), own', q7.2⟩
        | false =>
          refine iteF ?_
          obtain ⟨q7, n6⟩ := noOwn_ok q5
          have fw : Fr K (B.here H0' H' al E') H05 H5 al (wipeE E5 vs) (wipe σ vs) := by
            have := f5.wipe n6
            rw [w5] at this
            exact this
          obtain ⟨kD, kD0, kN⟩ := keepD fw.wd
          exact ⟨H05, wipeE E5 vs, acc, accV, ⟨f'.wd.back fw.wd, fw.sg⟩, (e'.trans e2).trans e5, kD0, kD, ra.mono (e2.trans e5), kN, q7⟩
    · have he : i = ds.length := by omega
      subst he
      rw [List.drop_length] at q
      obtain ⟨p', xs', hp', _, hH', rl'⟩ := f'.ownLst q.1
      obtain rfl : p' = p := by rw [hp] at hp'; cases hp'; rfl
      refine .inl ⟨⟨xs', SqL.of hH', by rw [rl'.length]; exact Nat.le_refl _⟩, ?_⟩
      have q := q.2
      have fr := f1.restore f' e' hn1
      have nD : ∀ jj jo e, nth (backE E vs E') jj = .own jo e → D ∉ al jj := fun jj jo e hj => by
        by_cases z : jj ∈ vs
        · exact absurd (backE_in z hj (by intro z; cases z)) (hn1 jj z jo e)
        · rw [backE_out z] at hj
          exact hne jj jo e hj
      exact k [D] (.lst acc) _ H0' H' fr (e1.trans e') ⟨D, accV, rfl, dV, ra⟩ (fun b hb => by rw [List.mem_singleton.mp hb]; exact ⟨d0, f1.wd.lv _ hD, nD⟩) q
end
end Pw
end

section
set_option maxRecDepth 100000
set_option maxHeartbeats 2000000
namespace Pw
open PySem L2
/-! ### lambdas, rows, data -/
def k_xTru2 (RB : Bool → List Sl → Prop) (E1 : List Sl) (p : Int) : Prop := RB (!decide (p = 0)) E1
theorem k_xTru2_ap {RB : Bool → List Sl → Prop} {E1 : List Sl} {p : Int} : k_xTru2 RB E1 p = (RB (!decide (p = 0)) E1) := rfl
def k_xTru1 (RB : Bool → List Sl → Prop) (d : D) (E1 : List Sl) : Prop := selI d (k_xTru2 RB E1)
theorem k_xTru1_ap {RB : Bool → List Sl → Prop} {d : D} {E1 : List Sl} : k_xTru1 RB d E1 = (selI d (k_xTru2 RB E1)) := rfl
theorem xTru_ap {x : XE} {E : List Sl} {RB : Bool → List Sl → Prop} : xTru x E RB = (x E (k_xTru1 RB)) := by
  show x E (fun d E1 => match d with | .int i => RB (!decide (i = 0)) E1 | _ => False) = _
  congr 1
def k_xPop2 (R : D → List Sl → Prop) (E : List Sl) (ix : Nat) (io : Bool) (ds : List D) (d : D) : Prop := R d (put E ix (.own io (.lst ds.dropLast)))
theorem k_xPop2_ap {R : D → List Sl → Prop} {E : List Sl} {ix : Nat} {io : Bool} {ds : List D} {d : D} : k_xPop2 R E ix io ds d = (R d (put E ix (.own io (.lst ds.dropLast)))) := rfl
def k_xPop1 (R : D → List Sl → Prop) (E : List Sl) (ix : Nat) (io : Bool) (ds : List D) : Prop := selSm (ds[ds.length - 1]?) (k_xPop2 R E ix io ds)
theorem k_xPop1_ap {R : D → List Sl → Prop} {E : List Sl} {ix : Nat} {io : Bool} {ds : List D} : k_xPop1 R E ix io ds = (selSm (ds[ds.length - 1]?) (k_xPop2 R E ix io ds)) := rfl
theorem xPop_ap {ix : Nat} {E : List Sl} {R : D → List Sl → Prop} : xPop ix E R = (selOL (nth E ix) (k_xPop1 R E ix)) := by
  unfold xPop onLst selOL
  cases nth E ix with
  | own io d => cases d <;> first | rfl | (rename_i ds; show (match ds[ds.length - 1]? with | some d => _ | none => False) = selSm _ _; cases ds[ds.length - 1]? <;> rfl)
  | _ => rfl
def k_xDInE4 (R : D → List Sl → Prop) (neg : Bool) (ks : List Key) (ds : List D) (E2 : List Sl) (kk : Key) : Prop := R (.bl (neg ^^ (lk ks ds kk).isSome)) E2
theorem k_xDInE4_ap {R : D → List Sl → Prop} {neg : Bool} {ks : List Key} {ds : List D} {E2 : List Sl} {kk : Key} : k_xDInE4 R neg ks ds E2 kk = (R (.bl (neg ^^ (lk ks ds kk).isSome)) E2) := rfl
def k_xDInE3 (y : D) (R : D → List Sl → Prop) (neg : Bool) (E2 : List Sl) (ks : List Key) (ds : List D) : Prop := selK y (k_xDInE4 R neg ks ds E2)
theorem k_xDInE3_ap {y : D} {R : D → List Sl → Prop} {neg : Bool} {E2 : List Sl} {ks : List Key} {ds : List D} : k_xDInE3 y R neg E2 ks ds = (selK y (k_xDInE4 R neg ks ds E2)) := rfl
def k_xDInE2 (y : D) (R : D → List Sl → Prop) (neg : Bool) (d : D) (E2 : List Sl) : Prop := selD2 d (k_xDInE3 y R neg E2)
theorem k_xDInE2_ap {y : D} {R : D → List Sl → Prop} {neg : Bool} {d : D} {E2 : List Sl} : k_xDInE2 y R neg d E2 = (selD2 d (k_xDInE3 y R neg E2)) := rfl
def k_xDInE1 (xe : XE) (R : D → List Sl → Prop) (neg : Bool) (y : D) (E1 : List Sl) : Prop := xe E1 (k_xDInE2 y R neg)
theorem k_xDInE1_ap {xe : XE} {R : D → List Sl → Prop} {neg : Bool} {y : D} {E1 : List Sl} : k_xDInE1 xe R neg y E1 = (xe E1 (k_xDInE2 y R neg)) := rfl
theorem xDInE_ap {neg : Bool} {xk : XE} {xe : XE} {E : List Sl} {R : D → List Sl → Prop} : xDInE neg xk xe E R = (xk E (k_xDInE1 xe R neg)) := by
  show xk E (fun y E1 => xe E1 fun d E2 => match d with | .dK ks ds => (match keyD y with | some k => R (.bl (neg ^^ (lk ks ds k).isSome)) E2 | none => False) | _ => False) = _
  congr 1
def k_xRevB2 (R : D → List Sl → Prop) (E1 : List Sl) (ds : List D) : Prop := R (.lst ds.dropLast.reverse) E1
theorem k_xRevB2_ap {R : D → List Sl → Prop} {E1 : List Sl} {ds : List D} : k_xRevB2 R E1 ds = (R (.lst ds.dropLast.reverse) E1) := rfl
def k_xRevB1 (R : D → List Sl → Prop) (d : D) (E1 : List Sl) : Prop := selL d (k_xRevB2 R E1)
theorem k_xRevB1_ap {R : D → List Sl → Prop} {d : D} {E1 : List Sl} : k_xRevB1 R d E1 = (selL d (k_xRevB2 R E1)) := rfl
theorem xRevB_ap {x : XE} {E : List Sl} {R : D → List Sl → Prop} : xRevB x E R = (x E (k_xRevB1 R)) := by
  show x E (fun d E1 => match d with | .lst ds => R (.lst ds.dropLast.reverse) E1 | _ => False) = _
  congr 1
def k_xSortA (R : D → List Sl → Prop) (d : D) (E1 : List Sl) : Prop := ∃ rows : List (List Int), d = .lst (rows.map rwD) ∧ rows.length ≤ 16777216 ∧ (∀ r ∈ rows, r.length ≤ 16777216) ∧ R (.lst ((rows.mergeSort leRow).map rwD)) E1
theorem xSortA_ap {x : XE} {E : List Sl} {R : D → List Sl → Prop} : xSortA x E R = x E (k_xSortA R) := rfl
/-- rows of numbers -/
abbrev natT (r : List Nat) : D := .tup (r.map fun x => D.int ((x : Nat) : Int))
def toI (r : List Nat) : List Int := r.map fun x => ((x : Nat) : Int)
theorem rwD_nat {r : List Nat} : rwD (toI r) = natT r := by
  unfold rwD toI natT
  rw [List.map_map]; rfl
theorem toI_inj {a b : List Nat} (h : toI a = toI b) : a = b := by
  have := congrArg (List.map Int.toNat) h
  unfold toI at this
  rw [List.map_map, List.map_map] at this
  have e : (Int.toNat ∘ fun x : Nat => ((x : Nat) : Int)) = id := funext fun x => Int.toNat_natCast x
  rw [e, List.map_id, List.map_id] at this
  exact this
theorem toI_len {r : List Nat} : (toI r).length = r.length := List.length_map ..
/-- first by length, then place by place -/
def leN (a b : List Nat) : Bool := leRow (toI a) (toI b)
theorem leN_total (a b : List Nat) : leN a b = true ∨ leN b a = true := (PySem.W.sortLe_total (PyProof.Rows.listOrd PyProof.Rows.itemOrd) false fun r => PySem.W.keyToks (keyR r)).total (toI a) (toI b)
theorem leN_trans {a b c : List Nat} (h1 : leN a b = true) (h2 : leN b c = true) : leN a c = true := (PySem.W.sortLe_total (PyProof.Rows.listOrd PyProof.Rows.itemOrd) false fun r => PySem.W.keyToks (keyR r)).trans (toI a) (toI b) (toI c) h1 h2
theorem toks_ints : ∀ {a b : List Int}, PySem.W.keyToksAll (a.map PyData.int) = PySem.W.keyToksAll (b.map PyData.int) → a = b
  | [], [], _ => rfl
  | [], _ :: _, h => by cases h
  | _ :: _, [], h => by cases h
  | x :: a, y :: b, h => by
    have h : (Sum.inl 1 :: (Sum.inl x :: PySem.W.keyToksAll (a.map PyData.int)) : List (Int ⊕ List Nat)) = Sum.inl 1 :: (Sum.inl y :: PySem.W.keyToksAll (b.map PyData.int)) := h
    obtain ⟨_, h⟩ := List.cons.inj h
    obtain ⟨e, h⟩ := List.cons.inj h
    rw [Sum.inl.inj e, toks_ints h]
theorem key_toks {r : List Int} : PySem.W.keyToks (keyR r) = Sum.inl 1 :: Sum.inl (r.length : Int) :: Sum.inl 1 :: (PySem.W.keyToksAll (r.map PyData.int) ++ [Sum.inl 0]) := by
  simp [keyR, PySem.W.keyToks, PySem.W.keyToksAll]
theorem leN_anti {a b : List Nat} (h1 : leN a b = true) (h2 : leN b a = true) : a = b := by
  have h1 : (!(PyProof.Rows.listOrd PyProof.Rows.itemOrd).blt (PySem.W.keyToks (keyR (toI b))) (PySem.W.keyToks (keyR (toI a)))) = true := h1
  have h2 : (!(PyProof.Rows.listOrd PyProof.Rows.itemOrd).blt (PySem.W.keyToks (keyR (toI a))) (PySem.W.keyToks (keyR (toI b)))) = true := h2
  rw [Bool.not_eq_true'] at h1 h2
  have h := (PyProof.Rows.listOrd PyProof.Rows.itemOrd).total _ _ h2 h1
  rw [key_toks, key_toks] at h
  obtain ⟨_, h⟩ := List.cons.inj h
  obtain ⟨_, h⟩ := List.cons.inj h
  obtain ⟨_, h⟩ := List.cons.inj h
  exact toI_inj (toks_ints (List.append_cancel_right h))
theorem leN_len {a b : List Nat} (h : leN a b = true) : a.length ≤ b.length := by
  by_cases hl : a.length ≤ b.length
  · exact hl
  · exfalso
    have h : (!PyProof.Rows.lexLt PyProof.Rows.itemOrd (PySem.W.keyToks (keyR (toI b))) (PySem.W.keyToks (keyR (toI a)))) = true := h
    rw [key_toks, key_toks, toI_len, toI_len] at h
    have hb : ((b.length : Nat) : Int) < (a.length : Nat) := by omega
    have hnb : ¬ ((a.length : Nat) : Int) < (b.length : Nat) := by omega
    simp [PyProof.Rows.lexLt, PyProof.Rows.itemOrd, PyProof.Rows.itemLt, hb, hnb] at h
theorem map_rwD {rows : List (List Nat)} : (rows.map toI).map rwD = rows.map natT := by
  rw [List.map_map]
  exact List.map_congr_left fun r _ => rwD_nat
theorem sort_toI {rows : List (List Nat)} : (rows.map toI).mergeSort leRow = (rows.mergeSort leN).map toI := (List.map_mergeSort (f := toI) (r := leN) (s := leRow) (l := rows) fun _ _ _ _ => rfl).symm
theorem k_xSortA_nat {rows : List (List Nat)} {R : D → List Sl → Prop} {E : List Sl} (h1 : rows.length ≤ 16777216) (h2 : ∀ r ∈ rows, r.length ≤ 16777216) (k : R (.lst ((rows.mergeSort leN).map natT)) E) : k_xSortA R (.lst (rows.map natT)) E := by
  refine ⟨rows.map toI, by rw [map_rwD], by rw [List.length_map]; exact h1, fun r hr => ?_, ?_⟩
  · obtain ⟨q, hq, rfl⟩ := List.mem_map.mp hr
    rw [toI_len]; exact h2 q hq
  · rw [sort_toI, map_rwD]; exact k
/-- a row, its length ahead -/
abbrev prN (r : List Nat) : D := .tup [.int (r.length : Nat), natT r]
theorem prR_nat {r : List Nat} : prR (toI r) = prN r := by
  unfold prR prN
  rw [toI_len, rwD_nat]
theorem xSortAny_nat {rows : List (List Nat)} {R : D → Prop} (hz : rows.length ≤ 16777216) (k : R (.lst ((rows.mergeSort leN).map prN))) : xSortAny [.lst (rows.map prN)] R := by
  have e : ∀ {rows : List (List Nat)}, (rows.map toI).map prR = rows.map prN := fun {rows} => by
    rw [List.map_map]
    exact List.map_congr_left fun r _ => prR_nat
  rw [← e]
  refine xSortAny_rows (by rw [List.length_map]; exact hz) ?_
  rw [sort_toI, e]; exact k
theorem sortT_eq {xs : List Nat} {R : D → Prop} (h : ∀ ys : List Int, ys.Perm (xs.map fun x => ((x : Nat) : Int)) → ys.Pairwise (· ≤ ·) → R (.lst (ys.map D.int))) : xSortTI [natT xs] R := by
  have e := intsOf_map (xs.map fun x => ((x : Nat) : Int))
  rw [List.map_map] at e
  show (match intsOf (xs.map fun x => D.int ((x : Nat) : Int)) with | some ns => ∀ ys : List Int, ys.Perm ns → ys.Pairwise (· ≤ ·) → R (.lst (ys.map D.int)) | none => False)
  rw [show (xs.map fun x => D.int ((x : Nat) : Int)) = xs.map (D.int ∘ fun x => ((x : Nat) : Int)) from rfl, e]
  exact h
theorem xSortTI_nat {xs : List Nat} (hnd : xs.Nodup) {R : D → Prop} (k : ∀ ys : List Nat, ys.Perm xs → ys.Pairwise (· < ·) → R (.lst (ys.map fun x => D.int ((x : Nat) : Int)))) : xSortTI [natT xs] R := by
  refine sortT_eq fun ys h1 h2 => ?_
  obtain ⟨zs, rfl, h3, h4⟩ := sort_nat hnd h1 h2
  have := k zs h3 h4
  rw [List.map_map]
  exact this
theorem leB_le {f : Int → Int} {a b : Int} (h : leB f a b = true) : f a ≤ f b := by
  by_cases hl : f a ≤ f b
  · exact hl
  · exfalso
    have h : (!PyProof.Rows.lexLt PyProof.Rows.itemOrd (PySem.W.keyToks (.tuple [.int (f b), .int b])) (PySem.W.keyToks (.tuple [.int (f a), .int a]))) = true := h
    have hb : f b < f a := by omega
    have hnb : ¬ f a < f b := by omega
    simp [PySem.W.keyToks, PySem.W.keyToksAll, PyProof.Rows.lexLt, PyProof.Rows.itemOrd, PyProof.Rows.itemLt, hb, hnb] at h
/-- sorted(d, key=..), d with numbers at numbers -/
theorem xSortB_own {E : List Sl} {i : Nat} {io : Bool} {l : List Nat} {F : Nat → Nat} {R : D → List Sl → Prop} (h : nth E i = .own io (.dK (kN l) (l.map fun v => D.int ((F v : Nat) : Int))) ∨ nth E i = .val (.dK (kN l) (l.map fun v => D.int ((F v : Nat) : Int)))) (hl : l.length ≤ 16777216)
    (k : ∀ ys : List Nat, ys.Perm l → ys.Pairwise (fun a b => F a ≤ F b) → R (.lst (ys.map fun x => D.int ((x : Nat) : Int))) E) : xSortB i E R := by
  have main : ∃ (ns : List Int) (f : Int → Int), kN l = ns.map Sum.inl ∧ (∀ n ∈ ns, lk (kN l) (l.map fun v => D.int ((F v : Nat) : Int)) (.inl n) = some (.int (f n))) ∧ ns.length ≤ 16777216 ∧ R (.lst ((ns.mergeSort (leB f)).map D.int)) E := by
    refine ⟨l.map fun k => ((k : Nat) : Int), fun n => (F n.toNat : Nat), by rw [List.map_map]; rfl, fun n hn => ?_, by rw [List.length_map]; exact hl, ?_⟩
    · obtain ⟨x, hx, rfl⟩ := List.mem_map.mp hn
      rw [lk_nat, if_pos hx]
      simp
    · have hp : ((l.map fun k => ((k : Nat) : Int)).mergeSort (leB fun n => (F n.toNat : Nat))).Perm (l.map fun k => ((k : Nat) : Int)) := List.mergeSort_perm _ _
      have hs := PySem.W.sort_pairwise (PySem.W.sortLe_total (PyProof.Rows.listOrd PyProof.Rows.itemOrd) false fun n : Int => PySem.W.keyToks (.tuple [.int (F n.toNat : Nat), .int n])) (l.map fun k => ((k : Nat) : Int))
      have hs : ((l.map fun k => ((k : Nat) : Int)).mergeSort (leB fun n => (F n.toNat : Nat))).Pairwise (fun a b => leB (fun n => (F n.toNat : Nat)) a b = true) := hs
      generalize (l.map fun k => ((k : Nat) : Int)).mergeSort (leB fun n => (F n.toNat : Nat)) = ys at hp hs
      obtain ⟨e1, e2⟩ := perm_nat hp
      rw [e1] at hs ⊢
      rw [List.map_map]
      refine k _ e2 ?_
      rw [List.pairwise_map] at hs
      refine hs.imp fun {a b} h => ?_
      have := leB_le h
      simp only [Int.toNat_natCast] at this
      omega
  unfold xSortB onD
  rcases h with h | h <;> rw [h] <;> exact main
theorem canLay_nats {r : List Nat} : PyData.canLayAll0 (pys (r.map fun x => D.int ((x : Nat) : Int))) = true := by
  rw [pys_map, List.map_map]
  have := canLay_ints (r := toI r)
  unfold toI at this
  rw [List.map_map] at this
  exact this
theorem sh_natT {r : List Nat} (h : ∀ x ∈ r, x < 10 ^ 12) (hl : r.length ≤ 100) : Sh 5000 1 (py (natT r)) := by
  have h1 := sh_ints (ns := toI r) fun z hz => by obtain ⟨x, hx, rfl⟩ := List.mem_map.mp hz; have := h x hx; omega
  have h2 := sh_tup h1
  have e : (toI r).map D.int = r.map fun x => D.int ((x : Nat) : Int) := by unfold toI; rw [List.map_map]; rfl
  rw [e, toI_len] at h2
  exact h2.mono (by omega) (Nat.le_refl _)
theorem sh_rows {rows : List (List Nat)} (h : ∀ r ∈ rows, r.length ≤ 100 ∧ ∀ x ∈ r, x < 10 ^ 12) : ShL (rows.length * 5001) 1 (pys (rows.map natT)) := by
  have := shL_all (w := 5000) (p := 1) (ds := rows.map natT) fun d hd => by
    obtain ⟨r, hr, rfl⟩ := List.mem_map.mp hd
    exact sh_natT (h r hr).2 (h r hr).1
  rw [List.length_map] at this
  exact this
/-- one list of rows and the same one -/
theorem eq_rows {n : Bool} {rows : List (List Nat)} {R : D → Prop} (h : ∀ r ∈ rows, r.length ≤ 100 ∧ ∀ x ∈ r, x < 10 ^ 12) (k : R (.bl (n ^^ true))) : xEqC n (.lst (rows.map natT)) (.lst (rows.map natT)) R :=
  eq_lst (sh_rows h) (by decide) k
/-- a row that is among some -/
theorem in_rows {n : Bool} {rows : List (List Nat)} {r : List Nat} {R : D → Prop} (h : ∀ r ∈ rows, r.length ≤ 100 ∧ ∀ x ∈ r, x < 10 ^ 12) (hr : r ∈ rows) (k : R (.bl (n ^^ true))) : xInD n (natT r) (.lst (rows.map natT)) R := by
  have h1 := sh_natT (h r hr).2 (h r hr).1
  refine ⟨shaped_ok h1 (by decide), shaped_ok (sh_lst (sh_rows h)) (by decide), ?_⟩
  have e : ((pys (rows.map natT)).any fun z => PyData.eqv z (py (natT r))) = true := by
    rw [List.any_eq_true, pys_map, List.map_map]
    refine ⟨py (natT r), List.mem_map.mpr ⟨r, hr, rfl⟩, ?_⟩
    show PyData.eqv (.tuple _) (.tuple _) = true
    simp only [PyData.eqv]
    exact SeqAt.eqvAll_refl _ canLay_nats
  rw [e]; exact k
/-! ### a comprehension over a list of one's own -/
def k_xLcO2 (S : Sl) (ix : Nat) (g : XG) (xt : XT) (xe : XE) (vs : List Nat) (R : D → List Sl → Prop) (ds : List D) (E1 : List Sl) (_ : Unit) : Prop := xLcLO S ix g xt xe vs (k_xLc3 R E1 vs) ds [] (wipeE E1 vs)
theorem k_xLcO2_ap {S : Sl} {ix : Nat} {g : XG} {xt : XT} {xe : XE} {vs : List Nat} {R : D → List Sl → Prop} {ds : List D} {E1 : List Sl} {u : Unit} : k_xLcO2 S ix g xt xe vs R ds E1 u = xLcLO S ix g xt xe vs (k_xLc3 R E1 vs) ds [] (wipeE E1 vs) := rfl
def k_xLcO1 (ix : Nat) (g : XG) (xt : XT) (xe : XE) (vs : List Nat) (R : D → List Sl → Prop) (E1 : List Sl) (io : Bool) (ds : List D) : Prop := nOw E1 (k_xLcO2 (.own io (.lst ds)) ix g xt xe vs R ds E1) vs
theorem k_xLcO1_ap {ix : Nat} {g : XG} {xt : XT} {xe : XE} {vs : List Nat} {R : D → List Sl → Prop} {E1 : List Sl} {io : Bool} {ds : List D} : k_xLcO1 ix g xt xe vs R E1 io ds = nOw E1 (k_xLcO2 (.own io (.lst ds)) ix g xt xe vs R ds E1) vs := rfl
theorem xLcO_ap {ix : Nat} {g : XG} {xt : XT} {xe : XE} {vs : List Nat} {E : List Sl} {R : D → List Sl → Prop} : xLcO ix g xt xe vs E R = selOL (nth E ix) (k_xLcO1 ix g xt xe vs R E) := by
  unfold xLcO onLst selOL
  cases nth E ix with
  | own io d => cases d <;> rfl
  | _ => rfl
theorem lcO_map {α : Type} {S : Sl} {ix : Nat} {g : XG} {xe : XE} {vs : List Nat} {R : List D → List Sl → Prop} {e : α → D} (f : α → D) : ∀ {l : List α} {acc : List D} {E : List Sl}, nth E ix = S →
    (∀ a, a ∈ l → ∀ k : D → List Sl → Prop, (∀ E', okE E E' vs → k (f a) E') → g (e a) E (k_xe xe k)) → acc.length + l.length ≤ 16777216 → R (acc ++ l.map f) E → xLcLO S ix g xYes xe vs R (l.map e) acc E := by
  intro l
  induction l with
  | nil => intro acc E hS _ _ h; rw [List.map_nil, List.append_nil] at h; exact ⟨hS, h⟩
  | cons a l ih =>
    intro acc E hS hs hl h
    refine ⟨hS, ?_⟩
    refine hs a List.mem_cons_self (fun y E3 => noOwn E3 vs (acc.length < 16777216 ∧ xLcLO S ix g xYes xe vs R (l.map e) (acc ++ [y]) (wipeE E3 vs))) fun E' ok => ?_
    rw [List.length_cons] at hl
    refine ok.2 _ ⟨by omega, ?_⟩
    rw [ok.1]
    refine ih hS (fun a ha => hs a (List.mem_cons_of_mem _ ha)) (by rw [List.length_append, List.length_singleton]; omega) ?_
    rw [List.append_assoc]
    exact h
end Pw
end

section
namespace GBf
/-! gaps: N of them, the j-th from a j to b j, at most w j; n events -/
def it (f : Nat → Nat) (x : Nat) : Nat → Nat
  | 0 => x
  | k + 1 => f (it f x k)
def sm (g : Nat → Int) : Nat → Int
  | 0 => 0
  | k + 1 => sm g k + g k
theorem it_add {f : Nat → Nat} {x : Nat} (i : Nat) : ∀ k, it f (it f x i) k = it f x (i + k)
  | 0 => rfl
  | k + 1 => congrArg f (it_add i k)
theorem pigeon : ∀ (n : Nat) (f : Nat → Nat), (∀ i, i ≤ n → f i < n) → ∃ i j, i < j ∧ j ≤ n ∧ f i = f j
  | 0, f, h => absurd (h 0 (Nat.le_refl _)) (Nat.not_lt_zero _)
  | n + 1, f, h => by
    by_cases q : ∃ i, i ≤ n ∧ f i = f (n + 1)
    · obtain ⟨i, hi, e⟩ := q
      exact ⟨i, n + 1, by omega, Nat.le_refl _, e⟩
    · have q' : ∀ i, i ≤ n → f i ≠ f (n + 1) := fun i hi e => q ⟨i, hi, e⟩
      obtain ⟨i, j, hij, hj, e⟩ := pigeon n (fun i => if f i = n then f (n + 1) else f i) fun i hi => by
        have h1 := h i (by omega)
        have h2 := h (n + 1) (by omega)
        have h3 := q' i hi
        show (if f i = n then f (n + 1) else f i) < n
        by_cases z : f i = n
        · rw [if_pos z]; omega
        · rw [if_neg z]; omega
      refine ⟨i, j, hij, by omega, ?_⟩
      have h1 := q' i (by omega)
      have h2 := q' j hj
      by_cases z1 : f i = n
      · by_cases z2 : f j = n
        · omega
        · simp only [if_pos z1, if_neg z2] at e; exact absurd e.symm h2
      · by_cases z2 : f j = n
        · simp only [if_neg z1, if_pos z2] at e; exact absurd e h1
        · simp only [if_neg z1, if_neg z2] at e; exact e
section
variable (n N : Nat) (a b : Nat → Nat) (w : Nat → Int)
def Feas (x : Nat → Int) : Prop := ∀ j, j < N → x (b j) - x (a j) ≤ w j
def prd (c : Nat → Option Nat) (v : Nat) : Nat := match c v with
  | some j => a j
  | none => v
def wt (c : Nat → Option Nat) (v : Nat) : Int := match c v with
  | some j => w j
  | none => 0
/-- a ring of what came last, from x back to x in k steps -/
def Cyc (c : Nat → Option Nat) (x k : Nat) : Prop := 0 < k ∧ it (prd a c) x k = x ∧ ∀ i, i < k → ∃ j, c (it (prd a c) x i) = some j
structure Inv (p i : Nat) (t : Nat → Int) (c : Nat → Option Nat) (l : Option Nat) (u : Nat → Nat) : Prop where
  up : ∀ v, v < n → u v ≤ p
  cu : ∀ v, v < n → u v ≠ 0 → ∃ j, c v = some j
  cj : ∀ v j, v < n → c v = some j → j < N ∧ b j = v ∧ t (a j) + w j ≤ t v ∧ u v ≤ u (a j) + 1
  ls : ∀ v, l = some v → v < n ∧ u v = p
  ln : l = none → ∀ v, v < n → u v < p
  g1 : ∀ j, j < i → j < N → t (b j) ≤ t (a j) + w j ∨ u (a j) = p
  g2 : ∀ j, i ≤ j → j < N → t (b j) ≤ t (a j) + w j ∨ p ≤ u (a j) + 1
  cy : ∀ x k, x < n → Cyc a c x k → sm (fun i => wt w c (it (prd a c) x i)) k < 0
def Ok : Prop := ∀ j, j < N → a j < n ∧ b j < n
variable {n N a b w} {p i : Nat} {t : Nat → Int} {c : Nat → Option Nat} {l : Option Nat} {u : Nat → Nat}
theorem inv_start : Inv n N a b w 1 0 (fun _ => 0) (fun _ => none) none (fun _ => 0) where
  up := fun _ _ => Nat.zero_le _
  cu := fun _ _ h => absurd rfl h
  cj := fun _ _ _ h => by cases h
  ls := fun _ h => by cases h
  ln := fun _ _ _ => Nat.succ_pos _
  g1 := fun _ h => absurd h (Nat.not_lt_zero _)
  g2 := fun _ _ _ => .inr (Nat.le_refl _)
  cy := fun x k _ h => by obtain ⟨j, hj⟩ := h.2.2 0 h.1; cases hj
theorem inv_next (h : Inv n N a b w p N t c l u) : Inv n N a b w (p + 1) 0 t c none u where
  up := fun v hv => Nat.le_succ_of_le (h.up v hv)
  cu := h.cu
  cj := h.cj
  ls := fun _ z => by cases z
  ln := fun _ v hv => Nat.lt_succ_of_le (h.up v hv)
  g1 := fun _ z => absurd z (Nat.not_lt_zero _)
  g2 := fun j _ hj => by rcases h.g1 j hj hj with z | z
                         · exact .inl z
                         · exact .inr (by omega)
  cy := h.cy
theorem inv_keep (h : Inv n N a b w p i t c l u) (hle : t (b i) ≤ t (a i) + w i) : Inv n N a b w p (i + 1) t c l u where
  up := h.up
  cu := h.cu
  cj := h.cj
  ls := h.ls
  ln := h.ln
  g1 := fun j hj hN => by
    by_cases q : j = i
    · subst q; exact .inl hle
    · exact h.g1 j (by omega) hN
  g2 := fun j hj hN => h.g2 j (by omega) hN
  cy := h.cy
theorem prd_eq {v j : Nat} (h : c v = some j) : prd a c v = a j := by unfold prd; rw [h]
theorem wt_eq {v j : Nat} (h : c v = some j) : wt w c v = w j := by unfold wt; rw [h]
theorem prd_same {c c' : Nat → Option Nat} {v : Nat} (e : c v = c' v) : prd a c v = prd a c' v := by unfold prd; rw [e]
theorem wt_same {c c' : Nat → Option Nat} {v : Nat} (e : c v = c' v) : wt w c v = wt w c' v := by unfold wt; rw [e]
theorem sm_congr {f g : Nat → Int} : ∀ {k : Nat}, (∀ i, i < k → f i = g i) → sm f k = sm g k
  | 0, _ => rfl
  | k + 1, h => by
    show sm f k + f k = sm g k + g k
    rw [sm_congr fun i hi => h i (by omega), h k (by omega)]
theorem inv_upd (ok : Ok n N a b) (hp : 0 < p) (hi : i < N) (h : Inv n N a b w p i t c l u) (hlt : t (a i) + w i < t (b i)) :
    Inv n N a b w p (i + 1) (fun v => if v = b i then t (a i) + w i else t v) (fun v => if v = b i then some i else c v) (some (b i)) (fun v => if v = b i then p else u v) := by
  obtain ⟨hai, hbi⟩ := ok i hi
  have tl : ∀ v, (if v = b i then t (a i) + w i else t v) ≤ t v := fun v => by
    by_cases q : v = b i
    · rw [if_pos q, q]; omega
    · rw [if_neg q]; exact Int.le_refl _
  have ug : ∀ v, v < n → u v ≤ (if v = b i then p else u v) := fun v hv => by
    by_cases q : v = b i
    · rw [if_pos q]; exact h.up v hv
    · rw [if_neg q]; exact Nat.le_refl _
  have low : p ≤ (if a i = b i then p else u (a i)) + 1 := by
    by_cases q : a i = b i
    · rw [if_pos q]; omega
    · rw [if_neg q]
      rcases h.g2 i (Nat.le_refl _) hi with z | z
      · omega
      · exact z
  refine { up := fun v hv => ?_, cu := fun v hv hu => ?_, cj := fun v j hv hc => ?_, ls := fun v hv => ?_, ln := (fun z => nomatch z), g1 := fun j hj hN => ?_, g2 := fun j hj hN => ?_, cy := fun x k hx hc => ?_ }
  · by_cases q : v = b i
    · simp only [if_pos q]; exact Nat.le_refl _
    · simp only [if_neg q]; exact h.up v hv
  · by_cases q : v = b i
    · exact ⟨i, if_pos q⟩
    · simp only [if_neg q] at hu ⊢; exact h.cu v hv hu
  · by_cases q : v = b i
    · simp only [if_pos q] at hc ⊢
      cases hc
      refine ⟨hi, q.symm, ?_, low⟩
      have := tl (a i)
      omega
    · simp only [if_neg q] at hc ⊢
      obtain ⟨h1, h2, h3, h4⟩ := h.cj v j hv hc
      have := tl (a j)
      have := ug (a j) (ok j h1).1
      exact ⟨h1, h2, by omega, by omega⟩
  · cases hv
    exact ⟨hbi, if_pos rfl⟩
  · by_cases q : j = i
    · subst q
      simp only [if_pos trivial]
      by_cases z : a j = b j
      · exact .inr (if_pos z)
      · left; simp only [if_neg z]; exact Int.le_refl _
    · rcases h.g1 j (by omega) hN with z | z
      · by_cases y : a j = b i
        · exact .inr (if_pos y)
        · left; simp only [if_neg y]; have := tl (b j); omega
      · right
        by_cases y : a j = b i
        · exact if_pos y
        · simp only [if_neg y]; exact z
  · rcases h.g2 j (by omega) hN with z | z
    · by_cases y : a j = b i
      · right; simp only [if_pos y]; omega
      · left; simp only [if_neg y]; have := tl (b j); omega
    · right
      have := ug (a j) (ok j hN).1
      omega
  · -- rings
    generalize hc' : (fun v => if v = b i then some i else c v) = c' at hc
    have c1 : c' (b i) = some i := by rw [← hc']; exact if_pos rfl
    have c2 : ∀ v, v ≠ b i → c' v = c v := fun v hv => by rw [← hc']; exact if_neg hv
    have lt : ∀ m, m ≤ k → it (prd a c') x m < n := fun m => by
      induction m with
      | zero => intro _; exact hx
      | succ m ih =>
        intro hm
        have im := ih (by omega)
        obtain ⟨j, hj⟩ := hc.2.2 m (by omega)
        show prd a c' _ < n
        rw [prd_eq hj]
        by_cases q : it (prd a c') x m = b i
        · rw [q, c1] at hj; cases hj; exact hai
        · rw [c2 _ q] at hj; exact (ok j (h.cj _ j im hj).1).1
    have step : ∀ m, m < k → wt w c' (it (prd a c') x m) ≤ t (it (prd a c') x m) - t (it (prd a c') x (m + 1)) ∧ (it (prd a c') x m = b i → wt w c' (it (prd a c') x m) < t (it (prd a c') x m) - t (it (prd a c') x (m + 1))) := fun m hm => by
      obtain ⟨j, hj⟩ := hc.2.2 m hm
      have e1 : it (prd a c') x (m + 1) = a j := prd_eq hj
      have e2 : wt w c' (it (prd a c') x m) = w j := wt_eq hj
      rw [e1, e2]
      by_cases q : it (prd a c') x m = b i
      · rw [q, c1] at hj; cases hj
        rw [q]
        exact ⟨by omega, fun _ => by omega⟩
      · rw [c2 _ q] at hj
        have := (h.cj _ j (lt m (by omega)) hj).2.2.1
        exact ⟨by omega, fun z => absurd z q⟩
    by_cases q : ∃ m, m < k ∧ it (prd a c') x m = b i
    · obtain ⟨m0, hm0, e0⟩ := q
      have tel : ∀ m, m ≤ k → sm (fun i => wt w c' (it (prd a c') x i)) m ≤ t x - t (it (prd a c') x m) ∧ (m0 < m → sm (fun i => wt w c' (it (prd a c') x i)) m < t x - t (it (prd a c') x m)) := fun m => by
        induction m with
        | zero => intro _; exact ⟨by show (0 : Int) ≤ t x - t x; omega, fun z => absurd z (Nat.not_lt_zero _)⟩
        | succ m ih =>
          intro hm
          obtain ⟨i1, i2⟩ := ih (by omega)
          obtain ⟨s1, s2⟩ := step m (by omega)
          show sm _ m + wt w c' (it (prd a c') x m) ≤ _ ∧ (_ → sm _ m + wt w c' (it (prd a c') x m) < _)
          refine ⟨by omega, fun z => ?_⟩
          by_cases y : m = m0
          · subst y; have := s2 e0; omega
          · have := i2 (by omega); omega
      have := (tel k (Nat.le_refl _)).2 hm0
      rw [hc.2.1] at this
      omega
    · have q' : ∀ m, m < k → it (prd a c') x m ≠ b i := fun m hm e => q ⟨m, hm, e⟩
      have same : ∀ m, m ≤ k → it (prd a c') x m = it (prd a c) x m := fun m => by
        induction m with
        | zero => intro _; rfl
        | succ m ih =>
          intro hm
          show prd a c' _ = prd a c _
          rw [← ih (by omega)]
          exact prd_same (c2 _ (q' m (by omega)))
      have := h.cy x k hx ⟨hc.1, by rw [← same k (Nat.le_refl _)]; exact hc.2.1, fun m hm => by
        obtain ⟨j, hj⟩ := hc.2.2 m hm
        rw [c2 _ (q' m hm), same m (by omega)] at hj
        exact ⟨j, hj⟩⟩
      rw [sm_congr fun m hm => by show wt w c' _ = wt w c (it (prd a c) x m); rw [← same m (by omega)]; exact wt_same (c2 _ (q' m hm))]
      exact this
theorem inv_feas (ok : Ok n N a b) (h : Inv n N a b w p N t c none u) : Feas N a b w t := fun j hj => by
  rcases h.g1 j hj hj with z | z
  · omega
  · have := h.ln rfl _ (ok j hj).1; omega
/-- behind the last turn: back from what changed last -/
theorem inv_back (ok : Ok n N a b) {v : Nat} (h : Inv n N a b w n N t c (some v) u) : ∀ i, i ≤ n → it (prd a c) v i < n ∧ n ≤ u (it (prd a c) v i) + i
  | 0, _ => ⟨(h.ls v rfl).1, by have := (h.ls v rfl).2; show n ≤ u v + 0; omega⟩
  | i + 1, hi => by
    obtain ⟨h1, h2⟩ := inv_back ok h i (by omega)
    obtain ⟨j, hj⟩ := h.cu _ h1 (by omega)
    obtain ⟨q1, q2, q3, q4⟩ := h.cj _ j h1 hj
    have e : it (prd a c) v (i + 1) = a j := prd_eq hj
    rw [e]
    exact ⟨(ok j q1).1, by omega⟩
theorem inv_some (ok : Ok n N a b) {v : Nat} (h : Inv n N a b w n N t c (some v) u) {i : Nat} (hi : i < n) : ∃ j, c (it (prd a c) v i) = some j ∧ j < N := by
  obtain ⟨h1, h2⟩ := inv_back ok h i (by omega)
  obtain ⟨j, hj⟩ := h.cu _ h1 (by omega)
  exact ⟨j, hj, (h.cj _ j h1 hj).1⟩
/-- and there a ring stands -/
theorem inv_ring (ok : Ok n N a b) {v : Nat} (h : Inv n N a b w n N t c (some v) u) : ∃ k, 0 < k ∧ k ≤ n ∧ it (prd a c) (it (prd a c) v n) k = it (prd a c) v n ∧ ∀ i, ∃ j, c (it (prd a c) (it (prd a c) v n) i) = some j ∧ j < N := by
  obtain ⟨i, j, hij, hj, e⟩ := pigeon n (it (prd a c) v) fun i hi => (inv_back ok h i hi).1
  have per : ∀ m, it (prd a c) v (i + m) = it (prd a c) v (j + m) := fun m => by
    rw [← it_add i m, ← it_add j m, e]
  have per2 : ∀ m q, i ≤ q → it (prd a c) v (q + m * (j - i)) = it (prd a c) v q := fun m => by
    induction m with
    | zero => intro q _; simp
    | succ m ih =>
      intro q hq
      have e1 : q + (m + 1) * (j - i) = (q + (j - i)) + m * (j - i) := by rw [Nat.add_mul]; omega
      rw [e1, ih _ (by omega)]
      have := per (q - i)
      rw [show i + (q - i) = q by omega, show j + (q - i) = q + (j - i) by omega] at this
      exact this.symm
  have all : ∀ q, i ≤ q → ∃ r, i ≤ r ∧ r < j ∧ it (prd a c) v q = it (prd a c) v r := fun q hq => by
    refine ⟨i + (q - i) % (j - i), by omega, ?_, ?_⟩
    · have := Nat.mod_lt (q - i) (show 0 < j - i by omega); omega
    · have h1 := per2 ((q - i) / (j - i)) (i + (q - i) % (j - i)) (by omega)
      have h2 := Nat.mod_add_div (q - i) (j - i)
      rw [Nat.mul_comm] at h2
      rw [show i + (q - i) % (j - i) + (q - i) / (j - i) * (j - i) = q by omega] at h1
      exact h1
  refine ⟨j - i, by omega, by omega, ?_, fun m => ?_⟩
  · rw [it_add]
    have := per2 1 n (by omega)
    rw [Nat.one_mul] at this
    exact this
  · rw [it_add]
    obtain ⟨r, h1, h2, h3⟩ := all (n + m) (by omega)
    rw [h3]
    exact inv_some ok h (by omega)
theorem ring_neg {v x k : Nat} (h : Inv n N a b w n N t c (some v) u) (hx : x < n) (hk : 0 < k) (he : it (prd a c) x k = x) (hs : ∀ i, i < k → ∃ j, c (it (prd a c) x i) = some j) : sm (fun i => wt w c (it (prd a c) x i)) k < 0 := h.cy x k hx ⟨hk, he, hs⟩
theorem ring_lt (ok : Ok n N a b) (h : Inv n N a b w p N t c l u) {x : Nat} (hx : x < n) : ∀ m, it (prd a c) x m < n
  | 0 => hx
  | m + 1 => by
    have im := ring_lt ok h hx m
    show prd a c _ < n
    cases hj : c (it (prd a c) x m) with
    | some j => rw [prd_eq hj]; exact (ok j (h.cj _ j im hj).1).1
    | none => rw [show prd a c (it (prd a c) x m) = it (prd a c) x m by rw [prd]; rw [hj]]; exact im
theorem ring_unfeas (ok : Ok n N a b) {v : Nat} (h : Inv n N a b w n N t c (some v) u) (x : Nat → Int) (hx : Feas N a b w x) : False := by
  obtain ⟨k, hk, _, he, hs⟩ := inv_ring ok h
  have hv := (inv_back ok h n (Nat.le_refl _)).1
  have neg := ring_neg h hv hk he fun i hi => let ⟨j, hj, _⟩ := hs i; ⟨j, hj⟩
  have lt := ring_lt ok h hv
  have tel : ∀ m, x (it (prd a c) v n) - x (it (prd a c) (it (prd a c) v n) m) ≤ sm (fun i => wt w c (it (prd a c) (it (prd a c) v n) i)) m := fun m => by
    induction m with
    | zero => show x _ - x _ ≤ (0 : Int); exact Int.le_of_eq (Int.sub_self _)
    | succ m ih =>
      obtain ⟨j, hj, hN⟩ := hs m
      have e1 : it (prd a c) (it (prd a c) v n) (m + 1) = a j := prd_eq hj
      have e2 : wt w c (it (prd a c) (it (prd a c) v n) m) = w j := wt_eq hj
      show x _ - x _ ≤ sm _ m + wt w c (it (prd a c) (it (prd a c) v n) m)
      rw [e1, e2]
      have q := (h.cj _ j (lt m) hj).2.1
      have := hx j hN
      rw [q] at this
      omega
  have := tel k
  rw [he] at this
  omega
end
end GBf
end

section
namespace GBf
/-! walks through gaps -/
section
variable (N : Nat) (a b : Nat → Nat) (w : Nat → Int)
inductive Wk (s : Nat) : Nat → Nat → Int → Prop
  | z : Wk s 0 s 0
  | s (k e : Nat) (c : Int) (j : Nat) : Wk s k e c → j < N → a j = e → Wk s (k + 1) (b j) (c + w j)
variable {N a b w} {n : Nat}
theorem Wk.cat {s k e : Nat} {c : Int} (h : Wk N a b w s k e c) : ∀ {k' e' c'}, Wk N a b w e k' e' c' → Wk N a b w s (k + k') e' (c + c') := by
  intro k' e' c' h'
  induction h' with
  | z => rw [Int.add_zero]; exact h
  | s k1 e1 c1 j _ hj ha ih => rw [← Int.add_assoc]; exact Wk.s _ _ _ j ih hj ha
theorem Wk.one {j : Nat} (hj : j < N) : Wk N a b w (a j) 1 (b j) (w j) := by
  have := Wk.s (s := a j) (N := N) (a := a) (b := b) (w := w) 0 _ 0 j Wk.z hj rfl
  rw [Int.zero_add] at this
  exact this
theorem Wk.head {s k e : Nat} {c : Int} (h : Wk N a b w s k e c) : (k = 0 ∧ s = e ∧ c = 0) ∨ ∃ j k' c', j < N ∧ a j = s ∧ k = k' + 1 ∧ c = w j + c' ∧ Wk N a b w (b j) k' e c' := by
  induction h with
  | z => exact .inl ⟨rfl, rfl, rfl⟩
  | s k1 e1 c1 j h1 hj ha ih =>
    right
    rcases ih with ⟨h2, h3, h4⟩ | ⟨j', k', c', h2, h3, h4, h5, h6⟩
    · subst h2 h4
      refine ⟨j, 0, 0, hj, by rw [ha, h3], rfl, by omega, Wk.z⟩
    · refine ⟨j', k' + 1, c' + w j, h2, h3, by omega, by omega, Wk.s _ _ _ j h6 hj ha⟩
theorem Wk.feas {x : Nat → Int} (hx : Feas N a b w x) {s k e : Nat} {c : Int} (h : Wk N a b w s k e c) : x e - x s ≤ c := by
  induction h with
  | z => omega
  | s k1 e1 c1 j h1 hj ha ih => have := hx j hj; rw [ha] at this; omega
/-- the walk's places -/
theorem Wk.path {s k e : Nat} {c : Int} (h : Wk N a b w s k e c) : ∃ (f : Nat → Nat) (g : Nat → Int), f 0 = s ∧ f k = e ∧ g k = c ∧ g 0 = 0 ∧ ∀ i, i < k → ∃ j, j < N ∧ a j = f i ∧ b j = f (i + 1) ∧ g (i + 1) = g i + w j := by
  induction h with
  | z => exact ⟨fun _ => s, fun _ => 0, rfl, rfl, rfl, rfl, fun i h => absurd h (Nat.not_lt_zero _)⟩
  | s k1 e1 c1 j h1 hj ha ih =>
    obtain ⟨f, g, q1, q2, q3, q4, q5⟩ := ih
    refine ⟨fun i => if i = k1 + 1 then b j else f i, fun i => if i = k1 + 1 then c1 + w j else g i, ?_, ?_, ?_, ?_, fun i hi => ?_⟩
    · simp only; rw [if_neg (by omega)]; exact q1
    · simp
    · simp
    · simp only; rw [if_neg (by omega)]; exact q4
    · by_cases h : i = k1
      · subst h
        refine ⟨j, hj, ?_, ?_, ?_⟩
        · simp only; rw [if_neg (by omega), q2]; exact ha
        · simp
        · simp [q3]
      · obtain ⟨j', z1, z2, z3, z4⟩ := q5 i (by omega)
        refine ⟨j', z1, ?_, ?_, ?_⟩
        · simp only; rw [if_neg (by omega)]; exact z2
        · simp only; rw [if_neg (by omega)]; exact z3
        · simp only; rw [if_neg (by omega), if_neg (by omega)]; exact z4
theorem path_wk {f : Nat → Nat} {g : Nat → Int} {k : Nat} (h : ∀ i, i < k → ∃ j, j < N ∧ a j = f i ∧ b j = f (i + 1) ∧ g (i + 1) = g i + w j) (i : Nat) : ∀ m, i + m ≤ k → Wk N a b w (f i) m (f (i + m)) (g (i + m) - g i) := by
  intro m
  induction m with
  | zero => intro _; rw [Nat.add_zero, Int.sub_self]; exact Wk.z
  | succ m ih =>
    intro hm
    obtain ⟨j, h1, h2, h3, h4⟩ := h (i + m) (by omega)
    have := Wk.s _ _ _ j (ih (by omega)) h1 h2
    rw [h3] at this
    rw [show i + (m + 1) = i + m + 1 from rfl, h4, show g (i + m) + w j - g i = g (i + m) - g i + w j by omega]
    exact this
theorem Wk.lt (ok : Ok n N a b) {s k e : Nat} {c : Int} (h : Wk N a b w s k e c) (hs : s < n) : e < n := by
  induction h with
  | z => exact hs
  | s k1 e1 c1 j h1 hj ha ih => exact (ok j hj).2
/-- no more than n - 1 gaps are needed -/
theorem Wk.short (ok : Ok n N a b) {x : Nat → Int} (hx : Feas N a b w x) {s e : Nat} (hs : s < n) : ∀ {k : Nat} {c : Int}, Wk N a b w s k e c → ∃ k' c', k' < n ∧ c' ≤ c ∧ Wk N a b w s k' e c' := by
  intro k
  induction k using Nat.strongRecOn with
  | _ k ih =>
    intro c h
    by_cases hk : k < n
    · exact ⟨k, c, hk, Int.le_refl _, h⟩
    · obtain ⟨f, g, q1, q2, q3, q4, q5⟩ := h.path
      have sub := path_wk q5
      have flt : ∀ i, i ≤ k → f i < n := fun i hi => by
        have := sub 0 i (by omega)
        rw [q1, Nat.zero_add] at this
        exact this.lt ok hs
      obtain ⟨i, j, hij, hj, eij⟩ := pigeon n f fun i hi => flt i (by omega)
      have w1 := sub 0 i (by omega)
      have w2 := sub i (j - i) (by omega)
      have w3 := sub j (k - j) (by omega)
      rw [Nat.zero_add, q1, q4] at w1
      rw [show i + (j - i) = j by omega] at w2
      rw [show j + (k - j) = k by omega, q2, q3] at w3
      have c0 := w2.feas hx
      rw [← eij] at c0 w3
      have w4 := w1.cat w3
      obtain ⟨k', c', z1, z2, z3⟩ := ih (i + (k - j)) (by omega) w4
      exact ⟨k', c', z1, by omega, z3⟩
/-! the tightest: p turns behind, i gaps of the next one -/
variable (N a b w) in
structure Far (s p i : Nat) (F : Nat → Option Int) : Prop where
  snd : ∀ v d, F v = some d → ∃ k, Wk N a b w s k v d
  all : ∀ k v c, k ≤ p → Wk N a b w s k v c → ∃ d, F v = some d ∧ d ≤ c
  nxt : ∀ j, j < i → j < N → ∀ k c, k ≤ p → Wk N a b w s k (a j) c → ∃ d, F (b j) = some d ∧ d ≤ c + w j
theorem far_start {s : Nat} : Far N a b w s 0 0 (fun v => if v = s then some 0 else none) where
  snd := fun v d h => by
    by_cases q : v = s
    · simp only [if_pos q] at h; cases h; rw [q]; exact ⟨0, Wk.z⟩
    · simp only [if_neg q] at h; cases h
  all := fun k v c hk h => by
    have : k = 0 := by omega
    subst this
    cases h
    exact ⟨0, if_pos rfl, Int.le_refl _⟩
  nxt := fun _ h => absurd h (Nat.not_lt_zero _)
theorem far_next {s p : Nat} {F : Nat → Option Int} (h : Far N a b w s p N F) : Far N a b w s (p + 1) 0 F where
  snd := h.snd
  all := fun k v c hk hw => by
    by_cases q : k ≤ p
    · exact h.all k v c q hw
    · have : k = p + 1 := by omega
      subst this
      cases hw with
      | s k1 e1 c1 j h1 hj ha =>
        obtain ⟨d, h2, h3⟩ := h.nxt j hj hj p c1 (Nat.le_refl _) (by rw [ha]; exact h1)
        exact ⟨d, h2, h3⟩
  nxt := fun _ z => absurd z (Nat.not_lt_zero _)
theorem far_keep {s p i : Nat} {F : Nat → Option Int} (h : Far N a b w s p i F) (hk : ∀ d, F (a i) = some d → ∃ d', F (b i) = some d' ∧ d' ≤ d + w i) : Far N a b w s p (i + 1) F where
  snd := h.snd
  all := h.all
  nxt := fun j hj hN k c hkp hw => by
    by_cases q : j = i
    · subst q
      obtain ⟨d, h1, h2⟩ := h.all k _ c hkp hw
      obtain ⟨d', h3, h4⟩ := hk d h1
      exact ⟨d', h3, by omega⟩
    · exact h.nxt j (by omega) hN k c hkp hw
theorem far_upd {s p i : Nat} {F : Nat → Option Int} (hi : i < N) (h : Far N a b w s p i F) {d : Int} (hd : F (a i) = some d) (hlt : ∀ d', F (b i) = some d' → d + w i < d') :
    Far N a b w s p (i + 1) (fun v => if v = b i then some (d + w i) else F v) where
  snd := fun v e he => by
    by_cases q : v = b i
    · simp only [if_pos q] at he
      cases he
      obtain ⟨k, hk⟩ := h.snd _ _ hd
      rw [q]
      exact ⟨k + 1, Wk.s _ _ _ i hk hi rfl⟩
    · simp only [if_neg q] at he; exact h.snd v e he
  all := fun k v c hk hw => by
    obtain ⟨e, h1, h2⟩ := h.all k v c hk hw
    by_cases q : v = b i
    · simp only [if_pos q]
      rw [q] at h1
      have := hlt e h1
      exact ⟨_, rfl, by omega⟩
    · simp only [if_neg q]; exact ⟨e, h1, h2⟩
  nxt := fun j hj hN k c hkp hw => by
    by_cases q : j = i
    · subst q
      obtain ⟨e, h1, h2⟩ := h.all k _ c hkp hw
      rw [hd] at h1
      cases h1
      exact ⟨_, if_pos rfl, by omega⟩
    · obtain ⟨e, h1, h2⟩ := h.nxt j (by omega) hN k c hkp hw
      by_cases z : b j = b i
      · simp only [if_pos z]
        rw [z] at h1
        have := hlt e h1
        exact ⟨_, rfl, by omega⟩
      · simp only [if_neg z]; exact ⟨e, h1, h2⟩
/-- behind n turns: the least sums -/
def Least (N : Nat) (a b : Nat → Nat) (w : Nat → Int) (s v : Nat) : Option Int → Prop
  | some d => (∃ k, Wk N a b w s k v d) ∧ ∀ k c, Wk N a b w s k v c → d ≤ c
  | none => ∀ k c, ¬ Wk N a b w s k v c
theorem far_end (ok : Ok n N a b) {x : Nat → Int} (hx : Feas N a b w x) {s : Nat} (hs : s < n) {F : Nat → Option Int} (h : Far N a b w s n 0 F) (v : Nat) : Least N a b w s v (F v) := by
  have all : ∀ k c, Wk N a b w s k v c → ∃ d, F v = some d ∧ d ≤ c := fun k c hw => by
    obtain ⟨k', c', h1, h2, h3⟩ := hw.short ok hx hs
    obtain ⟨d, h4, h5⟩ := h.all k' v c' (by omega) h3
    exact ⟨d, h4, by omega⟩
  cases hF : F v with
  | none =>
    intro k c hw
    obtain ⟨d, h1, _⟩ := all k c hw
    rw [hF] at h1; cases h1
  | some d =>
    refine ⟨h.snd v d hF, fun k c hw => ?_⟩
    obtain ⟨d', h1, h2⟩ := all k c hw
    rw [hF] at h1; cases h1; exact h2
end
end GBf
end

section
namespace GBf
theorem nodup_len {m : Nat} {l : List Nat} (nd : l.Nodup) (h : ∀ k ∈ l, k < m) : l.length ≤ m := by
  refine Nat.le_of_not_lt fun hl => ?_
  obtain ⟨i, j, hij, hj, e⟩ := pigeon m (fun i => l.getD i 0) fun i hi => by
    have hi' : i < l.length := by omega
    show l.getD i 0 < m
    rw [List.getD_eq_getElem?_getD, List.getElem?_eq_getElem hi']
    exact h _ (List.getElem_mem hi')
  have hi' : i < l.length := by omega
  have hj' : j < l.length := by omega
  have e : l.getD i 0 = l.getD j 0 := e
  rw [List.getD_eq_getElem?_getD, List.getElem?_eq_getElem hi', List.getD_eq_getElem?_getD, List.getElem?_eq_getElem hj'] at e
  have e : l[i] = l[j] := e
  have := (List.nodup_iff_pairwise_ne.mp nd)
  rw [List.pairwise_iff_getElem] at this
  exact this i j hi' hj' hij e
theorem filter_len_eq {α : Type} {p : α → Bool} : ∀ {l : List α}, l.length ≤ (l.filter p).length → ∀ x ∈ l, p x = true
  | [], _, _, h => by cases h
  | a :: l, h, x, hx => by
    by_cases q : p a = true
    · rw [List.filter_cons_of_pos q, List.length_cons, List.length_cons] at h
      rcases List.mem_cons.mp hx with e | e
      · rw [e]; exact q
      · exact filter_len_eq (by omega) x e
    · rw [List.filter_cons_of_neg q, List.length_cons] at h
      have := List.length_filter_le p l
      omega
theorem filter_len_lt {α : Type} {p : α → Bool} {l : List α} (h : (l.filter p).length < l.length) : ∃ x ∈ l, p x = false := by
  refine Classical.byContradiction fun z => ?_
  have : l.filter p = l := List.filter_eq_self.mpr fun a ha => by
    cases q : p a with
    | true => rfl
    | false => exact absurd ⟨a, ha, q⟩ z
  rw [this] at h
  omega
section
variable (m : Nat) (need : Nat → Int) (o : Nat → List Nat) (br md : List Nat)
def cnt (l : List Nat) (k : Nat) : Nat := ((o k).filter fun x => decide (x ∈ l)).length
def cntT (l : List Nat) (F : Nat → Nat) (t k : Nat) : Nat := ((o k).filter fun x => decide (x ∈ l ∧ F x < t)).length
structure RI (T : Nat) (l : List Nat) (F : Nat → Nat) : Prop where
  nd : l.Nodup
  lt : ∀ k ∈ l, k < m
  mad : ∀ k ∈ md, k ∈ l ∧ F k = 0
  le : ∀ k ∈ l, F k ≤ T
  pos : ∀ k ∈ l, k ∉ md → 1 ≤ F k ∧ k ∉ br ∧ need k ≤ (cntT o l F (F k) k : Nat) ∧ (2 ≤ F k → (cntT o l F (F k - 1) k : Nat) < need k)
  non : ∀ k, k < m → k ∉ l → k ∉ br → T = 0 ∨ (cntT o l F T k : Nat) < need k
/-- what is found at last -/
structure RF (l : List Nat) (F : Nat → Nat) : Prop where
  nd : l.Nodup
  lt : ∀ k ∈ l, k < m
  mad : ∀ k ∈ md, k ∈ l ∧ F k = 0
  pos : ∀ k ∈ l, k ∉ md → 1 ≤ F k ∧ k ∉ br ∧ need k ≤ (cntT o l F (F k) k : Nat) ∧ (2 ≤ F k → (cntT o l F (F k - 1) k : Nat) < need k)
  non : ∀ k, k < m → k ∉ l → k ∉ br → (cnt o l k : Nat) < need k
  bd : ∀ k ∈ l, F k ≤ m + 2
variable {m need o br md} {T : Nat} {l : List Nat} {F : Nat → Nat}
theorem ri_start (nd : md.Nodup) (lt : ∀ k ∈ md, k < m) : RI m need o br md 0 md (fun _ => 0) where
  nd := nd
  lt := lt
  mad := fun k hk => ⟨hk, rfl⟩
  le := fun _ _ => Nat.le_refl _
  pos := fun k h1 h2 => absurd h1 h2
  non := fun _ _ _ _ => .inl rfl
theorem cntT_all (h : ∀ k ∈ l, F k ≤ T) (k : Nat) : cntT o l F (T + 1) k = cnt o l k := by
  unfold cntT cnt
  congr 1
  refine List.filter_congr fun x _ => ?_
  by_cases q : x ∈ l
  · have := h x q; simp [q]; omega
  · simp [q]
theorem ri_turn (h : RI m need o br md T l F) {fr : List Nat} (nf : fr.Nodup) (hf : ∀ k, k ∈ fr ↔ k < m ∧ k ∉ l ∧ k ∉ br ∧ need k ≤ (cnt o l k : Nat)) :
    RI m need o br md (T + 1) (l ++ fr) (fun x => if x ∈ fr then T + 1 else F x) := by
  have dis : ∀ k ∈ l, k ∉ fr := fun k h1 h2 => ((hf k).mp h2).2.1 h1
  have same : ∀ t k, t ≤ T + 1 → cntT o (l ++ fr) (fun x => if x ∈ fr then T + 1 else F x) t k = cntT o l F t k := fun t k ht => by
    unfold cntT
    congr 1
    refine List.filter_congr fun x _ => ?_
    by_cases q : x ∈ fr
    · have hx : x ∉ l := fun z => dis x z q
      simp [q, hx]; omega
    · simp [q]
  refine { nd := ?_, lt := fun k hk => ?_, mad := fun k hk => ?_, le := fun k hk => ?_, pos := fun k hk hn => ?_, non := fun k hk hn hb => ?_ }
  · exact List.nodup_append.mpr ⟨h.nd, nf, fun a ha b hb e => dis a ha (by rw [e]; exact hb)⟩
  · rcases List.mem_append.mp hk with z | z
    · exact h.lt k z
    · exact ((hf k).mp z).1
  · obtain ⟨h1, h2⟩ := h.mad k hk
    exact ⟨List.mem_append_left _ h1, (if_neg (dis k h1)).trans h2⟩
  · by_cases q : k ∈ fr
    · simp only [if_pos q]; exact Nat.le_refl _
    · simp only [if_neg q]
      rcases List.mem_append.mp hk with z | z
      · exact Nat.le_succ_of_le (h.le k z)
      · exact absurd z q
  · by_cases q : k ∈ fr
    · obtain ⟨h1, h2, h3, h4⟩ := (hf k).mp q
      simp only [if_pos q]
      refine ⟨by omega, h3, ?_, fun h5 => ?_⟩
      · rw [same _ k (Nat.le_refl _), cntT_all h.le]; exact h4
      · rw [Nat.add_sub_cancel, same _ k (by omega)]
        rcases h.non k h1 h2 h3 with z | z
        · omega
        · exact z
    · rcases List.mem_append.mp hk with z | z
      · obtain ⟨h1, h2, h3, h4⟩ := h.pos k z hn
        have hle := h.le k z
        simp only [if_neg q]
        refine ⟨h1, h2, by rw [same _ k (by omega)]; exact h3, fun h5 => by rw [same _ k (by omega)]; exact h4 h5⟩
      · exact absurd z q
  · right
    rw [same _ k (Nat.le_refl _), cntT_all h.le]
    refine Int.lt_of_not_ge fun z => hn (List.mem_append_right _ ((hf k).mpr ⟨hk, fun y => hn (List.mem_append_left _ y), hb, z⟩))
theorem ri_end (h : RI m need o br md T l F) (hT : T ≤ m + 2) (hf : ∀ k, ¬ (k < m ∧ k ∉ l ∧ k ∉ br ∧ need k ≤ (cnt o l k : Nat))) : RF m need o br md l F where
  nd := h.nd
  lt := h.lt
  mad := h.mad
  pos := h.pos
  non := fun k hk hn hb => Int.lt_of_not_ge fun z => hf k ⟨hk, hn, hb, z⟩
  bd := fun k hk => Nat.le_trans (h.le k hk) hT
end
/-! ### promises that need all -/
section
variable {m : Nat} {o : Nat → List Nat} {N : Nat} {a b : Nat → Nat} {w : Nat → Int} {l : List Nat} {F : Nat → Nat}
/-- the gaps of promises: the beginning is m -/
structure Gp (m : Nat) (o : Nat → List Nat) (N : Nat) (a b : Nat → Nat) (w : Nat → Int) : Prop where
  snd : ∀ j, j < N → a j < m ∧ (b j = m ∨ b j ∈ o (a j)) ∧ w j = -1
  beg : ∀ k, k < m → ∃ j, j < N ∧ a j = k ∧ b j = m
  oth : ∀ k x, k < m → x ∈ o k → ∃ j, j < N ∧ a j = k ∧ b j = x
theorem Gp.ok (g : Gp m o N a b w) (ho : ∀ k x, k < m → x ∈ o k → x < m) : Ok (m + 1) N a b := fun j hj => by
  obtain ⟨h1, h2, _⟩ := g.snd j hj
  refine ⟨by omega, ?_⟩
  rcases h2 with z | z
  · omega
  · have := ho _ _ h1 z; omega
/-- if all are kept the rounds are times -/
theorem feas_of (g : Gp m o N a b w) (ho : ∀ k x, k < m → x ∈ o k → x < m) (h : RF m (fun k => ((o k).length : Nat)) o [] [] l F) (all : ∀ k, k < m → k ∈ l) : Feas N a b w fun k => if k = m then 0 else (F k : Nat) := fun j hj => by
  obtain ⟨h1, h2, h3⟩ := g.snd j hj
  obtain ⟨p1, _, p2, _⟩ := h.pos _ (all _ h1) (by simp)
  have hne : a j ≠ m := by omega
  simp only [if_neg hne]
  rw [h3]
  rcases h2 with z | z
  · rw [z, if_pos rfl]; omega
  · have hb := ho _ _ h1 z
    have hne2 : b j ≠ m := by omega
    rw [if_neg hne2]
    unfold cntT at p2
    have := filter_len_eq (Int.ofNat_le.mp p2) _ z
    have := (of_decide_eq_true this).2
    omega
theorem all_of (g : Gp m o N a b w) (ho : ∀ k x, k < m → x ∈ o k → x < m) {x : Nat → Int} (hx : Feas N a b w x) (h : RF m (fun k => ((o k).length : Nat)) o [] [] l F) : ∀ k, k < m → k ∈ l := by
  have main : ∀ (q : Nat) k, k < m → (x k - x m).toNat = q → k ∈ l := by
    intro q
    induction q using Nat.strongRecOn with
    | _ q ih =>
      intro k hk hq
      refine Classical.byContradiction fun hn => ?_
      have hlt := h.non k hk hn (by simp)
      unfold cnt at hlt
      obtain ⟨y, hy, hz⟩ := filter_len_lt (Int.ofNat_lt.mp hlt)
      have hym := ho k y hk hy
      obtain ⟨j, h1, h2, h3⟩ := g.oth k y hk hy
      have e1 := hx j h1
      rw [h2, h3, (g.snd j h1).2.2] at e1
      obtain ⟨j2, h4, h5, h6⟩ := g.beg y hym
      have e2 := hx j2 h4
      rw [h5, h6, (g.snd j2 h4).2.2] at e2
      have := ih _ (by omega) y hym rfl
      exact of_decide_eq_false hz this
  exact fun k hk => main _ k hk rfl
theorem round_tight (g : Gp m o N a b w) (ho : ∀ k x, k < m → x ∈ o k → x < m) (h : RF m (fun k => ((o k).length : Nat)) o [] [] l F) (all : ∀ k, k < m → k ∈ l) {k : Nat} (hk : k < m) : F k = 1 ∨ ∃ x, x ∈ o k ∧ F k = F x + 1 := by
  obtain ⟨p1, _, p2, p3⟩ := h.pos _ (all _ hk) (by simp)
  by_cases q : F k = 1
  · exact .inl q
  · right
    have := p3 (by omega)
    unfold cntT at this
    obtain ⟨y, hy, hz⟩ := filter_len_lt (Int.ofNat_lt.mp this)
    have hz := of_decide_eq_false hz
    have h2 := filter_len_eq (Int.ofNat_le.mp p2) _ hy
    have h2 := (of_decide_eq_true h2).2
    have h3 : ¬ F y < F k - 1 := fun z => hz ⟨all y (ho k y hk hy), z⟩
    exact ⟨y, hy, by omega⟩
theorem round_walk (g : Gp m o N a b w) (ho : ∀ k x, k < m → x ∈ o k → x < m) (h : RF m (fun k => ((o k).length : Nat)) o [] [] l F) (all : ∀ k, k < m → k ∈ l) : ∀ (q k : Nat), k < m → F k = q → ∃ i, Wk N a b w k i m (-((q : Nat) : Int)) := by
  intro q
  induction q with
  | zero => intro k hk hq; have := (h.pos _ (all _ hk) (by simp)).1; omega
  | succ q ih =>
    intro k hk hq
    rcases round_tight g ho h all hk with z | ⟨x, hx, z⟩
    · obtain ⟨j, h1, h2, h3⟩ := g.beg k hk
      have := Wk.one (N := N) (a := a) (b := b) (w := w) h1
      rw [h2, h3, (g.snd j h1).2.2] at this
      exact ⟨1, by rw [show -((q + 1 : Nat) : Int) = -1 by omega]; exact this⟩
    · obtain ⟨j, h1, h2, h3⟩ := g.oth k x hk hx
      have w1 := Wk.one (N := N) (a := a) (b := b) (w := w) h1
      rw [h2, h3, (g.snd j h1).2.2] at w1
      obtain ⟨i, w2⟩ := ih x (ho k x hk hx) (by omega)
      exact ⟨1 + i, by rw [show -((q + 1 : Nat) : Int) = -1 + -((q : Nat) : Int) by omega]; exact w1.cat w2⟩
theorem least_round (g : Gp m o N a b w) (ho : ∀ k x, k < m → x ∈ o k → x < m) (h : RF m (fun k => ((o k).length : Nat)) o [] [] l F) (all : ∀ k, k < m → k ∈ l) {k : Nat} (hk : k < m) {r : Option Int} (hr : Least N a b w k m r) : r = some (-((F k : Nat) : Int)) := by
  obtain ⟨i, hw⟩ := round_walk g ho h all (F k) k hk rfl
  cases r with
  | none => exact absurd hw (hr _ _)
  | some d =>
    obtain ⟨⟨k', hd⟩, hle⟩ := hr
    have h1 := hle _ _ hw
    have h2 := hd.feas (feas_of g ho h all)
    have hne : k ≠ m := by omega
    simp only [if_pos trivial, if_neg hne] at h2
    congr 1
    omega
/-- one less is too little -/
theorem not_less (g : Gp m o N a b w) (ho : ∀ k x, k < m → x ∈ o k → x < m) (h : RF m (fun k => ((o k).length : Nat)) o [] [] l F) (all : ∀ k, k < m → k ∈ l) {k : Nat} (hk : k < m) {x : Nat → Int} (hm : x m = 0) (hkk : x k = (F k : Nat) - 1) (ho2 : ∀ i, i < m → i ≠ k → x i = (F i : Nat)) : ¬ Feas N a b w x := fun hx => by
  rcases round_tight g ho h all hk with z | ⟨y, hy, z⟩
  · obtain ⟨j, h1, h2, h3⟩ := g.beg k hk
    have := hx j h1
    rw [h2, h3, (g.snd j h1).2.2, hm, hkk] at this
    omega
  · obtain ⟨j, h1, h2, h3⟩ := g.oth k y hk hy
    have := hx j h1
    have hyk : y ≠ k := fun e => by rw [e] at z; omega
    rw [h2, h3, (g.snd j h1).2.2, hkk, ho2 y (ho k y hk hy) hyk] at this
    omega
/-- from the beginning nothing leads -/
theorem no_out (g : Gp m o N a b w) {i e : Nat} {c : Int} (h : Wk N a b w m i e c) : e = m := by
  rcases h.head with ⟨_, h1, _⟩ | ⟨j, k', c', h1, h2, _⟩
  · exact h1.symm
  · have := (g.snd j h1).1; omega
/-- with one broken -/
theorem stuck_iff (g : Gp m o N a b w) (ho : ∀ k x, k < m → x ∈ o k → x < m) (h : RF m (fun k => ((o k).length : Nat)) o [] [] l F) (all : ∀ k, k < m → k ∈ l) {q : Nat} (hq : q < m) {l2 : List Nat} {F2 : Nat → Nat}
    (h2 : RF m (fun k => if k = q then ((o k).length : Nat) + 1 else ((o k).length : Nat)) o [] [] l2 F2) {k : Nat} (hk : k < m) : k ∉ l2 ↔ ∃ i c, Wk N a b w k i q c := by
  have hq2 : q ∉ l2 := fun z => by
    obtain ⟨_, _, p, _⟩ := h2.pos q z (by simp)
    simp only [if_pos trivial] at p
    unfold cntT at p
    have := List.length_filter_le (fun x => decide (x ∈ l2 ∧ F2 x < F2 q)) (o q)
    omega
  constructor
  · have main : ∀ (t k : Nat), k < m → F k = t → k ∉ l2 → ∃ i c, Wk N a b w k i q c := by
      intro t
      induction t using Nat.strongRecOn with
      | _ t ih =>
        intro k hk ht hn
        by_cases e : k = q
        · subst e; exact ⟨0, 0, Wk.z⟩
        · have p := h2.non k hk hn (by simp)
          simp only [if_neg e] at p
          unfold cnt at p
          obtain ⟨y, hy, hz⟩ := filter_len_lt (Int.ofNat_lt.mp p)
          have hz := of_decide_eq_false hz
          obtain ⟨_, _, p2, _⟩ := h.pos k (all k hk) (by simp)
          have p3 := (of_decide_eq_true (filter_len_eq (Int.ofNat_le.mp p2) _ hy)).2
          obtain ⟨i, c, hw⟩ := ih (F y) (by omega) y (ho k y hk hy) rfl hz
          obtain ⟨j, h1, h2, h3⟩ := g.oth k y hk hy
          have w1 := Wk.one (N := N) (a := a) (b := b) (w := w) h1
          rw [h2, h3] at w1
          exact ⟨1 + i, _, w1.cat hw⟩
    exact main _ k hk rfl
  · have main : ∀ (i : Nat) (k : Nat) (c : Int), k < m → Wk N a b w k i q c → k ∉ l2 := by
      intro i
      induction i with
      | zero =>
        intro k c _ hw
        cases hw
        exact hq2
      | succ i ih =>
        intro k c hk hw
        rcases hw.head with ⟨z, _, _⟩ | ⟨j, k', c', h1, h3, h4, _, h5⟩
        · omega
        · have : k' = i := by omega
          subst this
          rcases (g.snd j h1).2.1 with z | z
          · rw [z] at h5
            have := no_out g h5
            omega
          · rw [h3] at z
            have hy := ih _ _ (ho k _ hk z) h5
            intro hkl
            obtain ⟨_, _, p, _⟩ := h2.pos k hkl (by simp)
            have p' : (((o k).length : Nat) : Int) ≤ (cntT o l2 F2 (F2 k) k : Nat) := by
              by_cases e : k = q
              · exact absurd (by rw [← e]; exact hkl) hq2
              · simp only [if_neg e] at p; exact p
            unfold cntT at p'
            have := (of_decide_eq_true (filter_len_eq (Int.ofNat_le.mp p') _ z)).1
            exact hy this
    rintro ⟨i, c, hw⟩
    exact main i k c hk hw
/-- what hangs, turn by turn -/
structure Hg (m : Nat) (N : Nat) (a b : Nat → Nat) (w : Nat → Int) (q t : Nat) (l : List Nat) : Prop where
  nd : l.Nodup
  lt : ∀ k ∈ l, k < m
  snd : ∀ k ∈ l, ∃ i c, Wk N a b w k i q c
  all : ∀ k, k < m → ∀ i c, i ≤ t → Wk N a b w k i q c → k ∈ l
theorem hg_start {q : Nat} (hq : q < m) : Hg m N a b w q 0 [q] where
  nd := by simp
  lt := fun k hk => by rw [List.mem_singleton.mp hk]; exact hq
  snd := fun k hk => by rw [List.mem_singleton.mp hk]; exact ⟨0, 0, Wk.z⟩
  all := fun k _ i c hi hw => by
    have : i = 0 := by omega
    subst this
    cases hw
    exact List.mem_singleton.mpr rfl
theorem hg_turn (g : Gp m o N a b w) (ho : ∀ k x, k < m → x ∈ o k → x < m) {q t : Nat} (hq : q < m) (h : Hg m N a b w q t l) : Hg m N a b w q (t + 1) (l ++ (List.range m).filter fun k => decide (k ∉ l) && (o k).any fun x => decide (x ∈ l)) where
  nd := List.nodup_append.mpr ⟨h.nd, List.Pairwise.filter _ List.nodup_range, fun x hx y hy e => by
    have := (List.mem_filter.mp hy).2
    rw [Bool.and_eq_true] at this
    exact of_decide_eq_true this.1 (by rw [← e]; exact hx)⟩
  lt := fun k hk => by
    rcases List.mem_append.mp hk with z | z
    · exact h.lt k z
    · exact List.mem_range.mp (List.mem_filter.mp z).1
  snd := fun k hk => by
    rcases List.mem_append.mp hk with z | z
    · exact h.snd k z
    · obtain ⟨z1, z2⟩ := List.mem_filter.mp z
      rw [Bool.and_eq_true, List.any_eq_true] at z2
      obtain ⟨x, hx, hxl⟩ := z2.2
      obtain ⟨i, c, hw⟩ := h.snd x (of_decide_eq_true hxl)
      obtain ⟨j, h1, h2, h3⟩ := g.oth k x (List.mem_range.mp z1) hx
      have w1 := Wk.one (N := N) (a := a) (b := b) (w := w) h1
      rw [h2, h3] at w1
      exact ⟨1 + i, _, w1.cat hw⟩
  all := fun k hk i c hi hw => by
    by_cases z : k ∈ l
    · exact List.mem_append_left _ z
    · refine List.mem_append_right _ (List.mem_filter.mpr ⟨List.mem_range.mpr hk, ?_⟩)
      rw [Bool.and_eq_true, List.any_eq_true]
      refine ⟨decide_eq_true z, ?_⟩
      rcases hw.head with ⟨z1, z2, _⟩ | ⟨j, k', c', h1, h3, h4, _, h5⟩
      · exact absurd (h.all k hk 0 0 (Nat.zero_le _) (by rw [z2]; exact Wk.z)) z
      · rcases (g.snd j h1).2.1 with y | y
        · rw [y] at h5
          have := no_out g h5
          omega
        · rw [h3] at y
          exact ⟨b j, y, decide_eq_true (h.all _ (ho k _ hk y) k' c' (by omega) h5)⟩
theorem hg_end (g : Gp m o N a b w) (ho : ∀ k x, k < m → x ∈ o k → x < m) {x : Nat → Int} (hx : Feas N a b w x) {q : Nat} (h : Hg m N a b w q m l) {k : Nat} (hk : k < m) : k ∈ l ↔ ∃ i c, Wk N a b w k i q c := by
  constructor
  · exact h.snd k
  · rintro ⟨i, c, hw⟩
    obtain ⟨k', c', h1, _, h2⟩ := hw.short (g.ok ho) hx (by omega)
    exact h.all k hk k' c' (by omega) h2
end
end GBf
end

section
namespace Pw
/-! ### rows of numbers, least ones of some -/
structure RO (le : List Nat → List Nat → Bool) : Prop where
  total : ∀ a b, le a b = true ∨ le b a = true
  trans : ∀ a b c, le a b = true → le b c = true → le a c = true
  anti : ∀ a b, le a b = true → le b a = true → a = b
  len : ∀ a b, le a b = true → a.length ≤ b.length
abbrev Asc (r : List Nat) : Prop := r.Pairwise (· < ·)
def Sub (a b : List Nat) : Prop := ∀ x ∈ a, x ∈ b
theorem asc_sub_len : ∀ {b a : List Nat}, Asc a → Asc b → Sub a b → a.length ≤ b.length ∧ (b.length ≤ a.length → a = b)
  | [], [], _, _, _ => ⟨Nat.le_refl _, fun _ => rfl⟩
  | [], x :: a, _, _, h => by have := h x List.mem_cons_self; cases this
  | y :: b, [], _, _, _ => ⟨Nat.zero_le _, fun h => by simp at h⟩
  | y :: b, x :: a, ha, hb, h => by
    have ha2 := List.pairwise_cons.mp ha
    have hb2 := List.pairwise_cons.mp hb
    by_cases e : x = y
    · subst e
      have hs : Sub a b := fun z hz => by
        rcases List.mem_cons.mp (h z (List.mem_cons_of_mem _ hz)) with q | q
        · subst q; exact absurd (ha2.1 z hz) (Nat.lt_irrefl _)
        · exact q
      obtain ⟨h1, h2⟩ := asc_sub_len ha2.2 hb2.2 hs
      refine ⟨by simp only [List.length_cons]; omega, fun hl => ?_⟩
      rw [h2 (by simp only [List.length_cons] at hl; omega)]
    · have hxb : x ∈ b := by
        rcases List.mem_cons.mp (h x List.mem_cons_self) with q | q
        · exact absurd q e
        · exact q
      have hyx := hb2.1 x hxb
      have hs : Sub (x :: a) b := fun z hz => by
        rcases List.mem_cons.mp (h z hz) with q | q
        · subst q
          rcases List.mem_cons.mp hz with q | q
          · exact absurd q.symm e
          · have := ha2.1 z q; omega
        · exact q
      obtain ⟨h1, h2⟩ := asc_sub_len ha hb2.2 hs
      refine ⟨by simp only [List.length_cons] at h1 ⊢; omega, fun hl => ?_⟩
      simp only [List.length_cons] at h1 hl; omega
theorem asc_ext {a b : List Nat} (ha : Asc a) (hb : Asc b) (h1 : Sub a b) (h2 : Sub b a) : a = b := (asc_sub_len ha hb h1).2 (asc_sub_len hb ha h2).1
/-- does one of the rows lie in it -/
def hasLess (found : List (List Nat)) (row : List Nat) : Bool := found.any fun less => less.all fun one => decide (one ∈ row)
theorem hasLess_iff {found : List (List Nat)} {row : List Nat} : hasLess found row = true ↔ ∃ y ∈ found, Sub y row := by
  unfold hasLess Sub
  rw [List.any_eq_true]
  constructor
  · rintro ⟨y, hy, h⟩
    exact ⟨y, hy, fun x hx => of_decide_eq_true (List.all_eq_true.mp h x hx)⟩
  · rintro ⟨y, hy, h⟩
    exact ⟨y, hy, List.all_eq_true.mpr fun x hx => decide_eq_true (h x hx)⟩
def ins (found : List (List Nat)) (row : List Nat) : List (List Nat) := if hasLess found row = true then found else found ++ [row]
def lea (rows : List (List Nat)) : List (List Nat) := rows.foldl ins []
theorem lea_snoc {pre : List (List Nat)} {a : List Nat} : lea (pre ++ [a]) = ins (lea pre) a := by
  unfold lea
  rw [List.foldl_append]; rfl
theorem lea_len : ∀ {rows : List (List Nat)} {acc : List (List Nat)}, (rows.foldl ins acc).length ≤ acc.length + rows.length
  | [], _ => Nat.le_refl _
  | r :: rows, acc => by
    have := lea_len (rows := rows) (acc := ins acc r)
    have h2 : (ins acc r).length ≤ acc.length + 1 := by
      unfold ins
      split
      · omega
      · rw [List.length_append]; exact Nat.le_refl _
    rw [List.foldl_cons, List.length_cons]
    omega
theorem lea_sub : ∀ {rows : List (List Nat)} {acc : List (List Nat)} {x : List Nat}, x ∈ rows.foldl ins acc → x ∈ acc ∨ x ∈ rows
  | [], _, _, h => .inl h
  | r :: rows, acc, x, h => by
    rcases lea_sub (rows := rows) (acc := ins acc r) h with q | q
    · unfold ins at q
      split at q
      · exact .inl q
      · rcases List.mem_append.mp q with z | z
        · exact .inl z
        · rw [List.mem_singleton.mp z]; exact .inr List.mem_cons_self
    · exact .inr (List.mem_cons_of_mem _ q)
theorem lea_in {rows : List (List Nat)} {x : List Nat} (h : x ∈ lea rows) : x ∈ rows := by
  rcases lea_sub h with q | q
  · cases q
  · exact q
def Least (L : List (List Nat)) (x : List Nat) : Prop := x ∈ L ∧ ∀ y ∈ L, Sub y x → y = x
variable {le : List Nat → List Nat → Bool}
theorem lea_main (O : RO le) : ∀ l : List (List Nat), l.reverse.Pairwise (fun a b => le a b = true) → (∀ r ∈ l.reverse, Asc r) → ((lea l.reverse).Pairwise (fun a b => le a b = true ∧ a ≠ b) ∧ ∀ x, x ∈ lea l.reverse ↔ Least l.reverse x) ∧ ∀ y ∈ l.reverse, ∃ z ∈ lea l.reverse, Sub z y := by
  intro l
  induction l with
  | nil => intro _ _; exact ⟨⟨.nil, fun x => ⟨fun h => (by cases h), fun h => (by cases h.1)⟩⟩, fun y hy => (by cases hy)⟩
  | cons a l ih =>
    intro hp ha
    rw [List.reverse_cons] at hp ha ⊢
    have hp2 := List.pairwise_append.mp hp
    obtain ⟨⟨i1, i2⟩, i3⟩ := ih hp2.1 fun r hr => ha r (List.mem_append_left _ hr)
    generalize l.reverse = P at *
    have hPa : ∀ y ∈ P, le y a = true := fun y hy => hp2.2.2 y hy a (List.mem_singleton.mpr rfl)
    have haa : Asc a := ha a (by simp)
    rw [lea_snoc]
    have sub_of : ∀ x ∈ P, Sub a x → a = x := fun x hx hs => by
      have hax := ha x (List.mem_append_left _ hx)
      exact (asc_sub_len haa hax hs).2 (O.len _ _ (hPa x hx))
    unfold ins
    split
    · rename_i hless
      obtain ⟨y, hy, hya⟩ := hasLess_iff.mp hless
      have hyP := ((i2 y).mp hy).1
      refine ⟨⟨i1, fun x => ?_⟩, fun z hz => ?_⟩
      · rw [i2]
        constructor
        · rintro ⟨h1, h2⟩
          refine ⟨List.mem_append_left _ h1, fun z hz hs => ?_⟩
          rcases List.mem_append.mp hz with q | q
          · exact h2 z q hs
          · rw [List.mem_singleton.mp q] at hs ⊢
            exact sub_of x h1 hs
        · rintro ⟨h1, h2⟩
          rcases List.mem_append.mp h1 with q | q
          · exact ⟨q, fun z hz hs => h2 z (List.mem_append_left _ hz) hs⟩
          · have e := List.mem_singleton.mp q
            subst e
            have := h2 y (List.mem_append_left _ hyP) hya
            subst this
            exact ⟨hyP, fun z hz hs => h2 z (List.mem_append_left _ hz) hs⟩
      · rcases List.mem_append.mp hz with q | q
        · exact i3 z q
        · rw [List.mem_singleton.mp q]; exact ⟨y, hy, hya⟩
    · rename_i hless
      have no : ∀ y ∈ lea P, ¬ Sub y a := fun y hy hs => hless (hasLess_iff.mpr ⟨y, hy, hs⟩)
      have noP : ∀ y ∈ P, ¬ Sub y a := fun y hy hs => by
        obtain ⟨z, hz, hzy⟩ := i3 y hy
        exact no z hz fun x hx => hs x (hzy x hx)
      refine ⟨⟨List.pairwise_append.mpr ⟨i1, List.pairwise_singleton _ _, fun x hx b hb => ?_⟩, fun x => ?_⟩, fun z hz => ?_⟩
      · rw [List.mem_singleton.mp hb]
        refine ⟨hPa x ((i2 x).mp hx).1, fun e => ?_⟩
        subst e
        exact no x hx fun _ h => h
      · rw [List.mem_append, i2, List.mem_singleton]
        constructor
        · rintro (⟨h1, h2⟩ | h)
          · refine ⟨List.mem_append_left _ h1, fun z hz hs => ?_⟩
            rcases List.mem_append.mp hz with q | q
            · exact h2 z q hs
            · rw [List.mem_singleton.mp q] at hs ⊢
              exact sub_of x h1 hs
          · subst h
            refine ⟨by simp, fun z hz hs => ?_⟩
            rcases List.mem_append.mp hz with q | q
            · exact absurd hs (noP z q)
            · exact List.mem_singleton.mp q
        · rintro ⟨h1, h2⟩
          rcases List.mem_append.mp h1 with q | q
          · exact .inl ⟨q, fun z hz hs => h2 z (List.mem_append_left _ hz) hs⟩
          · exact .inr (List.mem_singleton.mp q)
      · rcases List.mem_append.mp hz with q | q
        · obtain ⟨w, hw, hs⟩ := i3 z q
          exact ⟨w, List.mem_append_left _ hw, hs⟩
        · rw [List.mem_singleton.mp q]; exact ⟨a, by simp, fun _ h => h⟩
theorem lea_ok (O : RO le) {L : List (List Nat)} (h1 : L.Pairwise (fun a b => le a b = true)) (h2 : ∀ r ∈ L, Asc r) : (lea L).Pairwise (fun a b => le a b = true ∧ a ≠ b) ∧ ∀ x, x ∈ lea L ↔ Least L x := by
  have := lea_main O L.reverse (by rw [List.reverse_reverse]; exact h1) (by rw [List.reverse_reverse]; exact h2)
  rw [List.reverse_reverse] at this
  exact this.1
theorem lea_below (O : RO le) {L : List (List Nat)} (h1 : L.Pairwise (fun a b => le a b = true)) (h2 : ∀ r ∈ L, Asc r) : ∀ y ∈ L, ∃ z ∈ lea L, Sub z y := by
  have := lea_main O L.reverse (by rw [List.reverse_reverse]; exact h1) (by rw [List.reverse_reverse]; exact h2)
  rw [List.reverse_reverse] at this
  exact this.2
theorem strict_eq (O : RO le) : ∀ {xs ys : List (List Nat)}, xs.Pairwise (fun a b => le a b = true ∧ a ≠ b) → ys.Pairwise (fun a b => le a b = true ∧ a ≠ b) → (∀ x, x ∈ xs ↔ x ∈ ys) → xs = ys
  | [], [], _, _, _ => rfl
  | [], y :: ys, _, _, h => by have := (h y).mpr List.mem_cons_self; cases this
  | x :: xs, [], _, _, h => by have := (h x).mp List.mem_cons_self; cases this
  | x :: xs, y :: ys, h1, h2, h => by
    have p1 := List.pairwise_cons.mp h1
    have p2 := List.pairwise_cons.mp h2
    have e : x = y := by
      rcases List.mem_cons.mp ((h x).mp List.mem_cons_self) with q | q
      · exact q
      · rcases List.mem_cons.mp ((h y).mpr List.mem_cons_self) with q2 | q2
        · exact q2.symm
        · exact O.anti _ _ (p1.1 y q2).1 (p2.1 x q).1
    subst e
    congr 1
    refine strict_eq O p1.2 p2.2 fun z => ⟨fun hz => ?_, fun hz => ?_⟩
    · rcases List.mem_cons.mp ((h z).mp (List.mem_cons_of_mem _ hz)) with q | q
      · subst q; exact absurd rfl (p1.1 z hz).2
      · exact q
    · rcases List.mem_cons.mp ((h z).mpr (List.mem_cons_of_mem _ hz)) with q | q
      · subst q; exact absurd rfl (p2.1 z hz).2
      · exact q
/-- two lists in order, each row of either over one of the other: their least rows are the same -/
theorem lea_eq (O : RO le) {L M : List (List Nat)} (h1 : L.Pairwise (fun a b => le a b = true)) (h2 : M.Pairwise (fun a b => le a b = true)) (a1 : ∀ r ∈ L, Asc r) (a2 : ∀ r ∈ M, Asc r)
    (c1 : ∀ x ∈ L, ∃ y ∈ M, Sub y x) (c2 : ∀ y ∈ M, ∃ x ∈ L, Sub x y) : lea L = lea M := by
  obtain ⟨s1, m1⟩ := lea_ok O h1 a1
  obtain ⟨s2, m2⟩ := lea_ok O h2 a2
  have half : ∀ {L M : List (List Nat)}, (∀ r ∈ L, Asc r) → (∀ r ∈ M, Asc r) → (∀ x ∈ L, ∃ y ∈ M, Sub y x) → (∀ y ∈ M, ∃ x ∈ L, Sub x y) → ∀ x, Least L x → Least M x := fun {L M} a1 a2 c1 c2 x ⟨hx, hm⟩ => by
    obtain ⟨y, hy, hyx⟩ := c1 x hx
    obtain ⟨x2, hx2, hxy⟩ := c2 y hy
    have e := hm x2 hx2 fun z hz => hyx z (hxy z hz)
    subst e
    have e2 := asc_ext (a2 y hy) (a1 x2 hx) hyx hxy
    subst e2
    refine ⟨hy, fun z hz hs => ?_⟩
    obtain ⟨x3, hx3, h3⟩ := c2 z hz
    have e3 := hm x3 hx3 fun q hq => hs q (h3 q hq)
    subst e3
    exact asc_ext (a2 z hz) (a2 x3 hy) hs h3
  exact strict_eq O s1 s2 fun x => by rw [m1, m2]; exact ⟨half a1 a2 c1 c2 x, half a2 a1 c2 c1 x⟩
/-- all the rows that are made of some numbers, one number after the other -/
def subL (row : List Nat) : List (List Nat) := row.foldl (fun f one => f ++ f.map fun s => s ++ [one]) [[]]
theorem subL_snoc {pre : List Nat} {a : Nat} : subL (pre ++ [a]) = subL pre ++ (subL pre).map fun s => s ++ [a] := by
  unfold subL
  rw [List.foldl_append]; rfl
theorem subL_len : ∀ l : List Nat, (subL l.reverse).length = 2 ^ l.length
  | [] => rfl
  | a :: l => by rw [List.reverse_cons, subL_snoc, List.length_append, List.length_map, subL_len l, List.length_cons, Nat.pow_succ]; omega
theorem subL_mem : ∀ {l : List Nat}, Asc l → ∀ x, x ∈ subL l ↔ Asc x ∧ Sub x l := by
  have main : ∀ l : List Nat, Asc l.reverse → ∀ x, x ∈ subL l.reverse ↔ Asc x ∧ Sub x l.reverse := by
    intro l
    induction l with
    | nil =>
      intro _ x
      show x ∈ [[]] ↔ _
      rw [List.mem_singleton]
      constructor
      · rintro rfl; exact ⟨.nil, fun _ h => h⟩
      · rintro ⟨_, h⟩
        cases x with
        | nil => rfl
        | cons a x => have := h a List.mem_cons_self; cases this
    | cons a l ih =>
      intro hp x
      rw [List.reverse_cons] at hp ⊢
      have hp2 := List.pairwise_append.mp hp
      have ih := ih hp2.1
      generalize l.reverse = P at *
      have hPa : ∀ y ∈ P, y < a := fun y hy => hp2.2.2 y hy a (List.mem_singleton.mpr rfl)
      rw [subL_snoc, List.mem_append, List.mem_map]
      constructor
      · rintro (h | ⟨s, hs, rfl⟩)
        · obtain ⟨h1, h2⟩ := (ih x).mp h
          exact ⟨h1, fun z hz => List.mem_append_left _ (h2 z hz)⟩
        · obtain ⟨h1, h2⟩ := (ih s).mp hs
          refine ⟨List.pairwise_append.mpr ⟨h1, List.pairwise_singleton _ _, fun z hz b hb => ?_⟩, fun z hz => ?_⟩
          · rw [List.mem_singleton.mp hb]; exact hPa z (h2 z hz)
          · rcases List.mem_append.mp hz with q | q
            · exact List.mem_append_left _ (h2 z q)
            · rw [List.mem_singleton.mp q]; simp
      · rintro ⟨h1, h2⟩
        by_cases ha : a ∈ x
        · right
          have hne : x ≠ [] := fun z => by rw [z] at ha; cases ha
          have hl : x = x.dropLast ++ [x.getLast hne] := (List.dropLast_concat_getLast hne).symm
          have hlast : x.getLast hne = a := by
            rw [hl] at h1 ha
            have hq := List.pairwise_append.mp h1
            have hin := h2 (x.getLast hne) (List.getLast_mem hne)
            rcases List.mem_append.mp ha with q | q
            · have h3 := hq.2.2 a q _ (List.mem_singleton.mpr rfl)
              rcases List.mem_append.mp hin with r | r
              · have := hPa _ r; omega
              · have := List.mem_singleton.mp r; omega
            · exact (List.mem_singleton.mp q).symm
          rw [hlast] at hl
          have h1' := h1
          rw [hl] at h1'
          have hq := List.pairwise_append.mp h1'
          refine ⟨x.dropLast, (ih _).mpr ⟨hq.1, fun z hz => ?_⟩, hl.symm⟩
          have hza := hq.2.2 z hz a (List.mem_singleton.mpr rfl)
          rcases List.mem_append.mp (h2 z (by rw [hl]; exact List.mem_append_left _ hz)) with r | r
          · exact r
          · have := List.mem_singleton.mp r; omega
        · left
          refine (ih x).mpr ⟨h1, fun z hz => ?_⟩
          rcases List.mem_append.mp (h2 z hz) with r | r
          · exact r
          · rw [List.mem_singleton.mp r] at hz; exact absurd hz ha
  intro l hl x
  have := main l.reverse (by rw [List.reverse_reverse]; exact hl) x
  rw [List.reverse_reverse] at this
  exact this
/-- every choice is a number's bits -/
theorem bits_of : ∀ (m : Nat) (p : Nat → Bool), ∃ n, n < 2 ^ m ∧ ∀ k, k < m → n.testBit k = p k
  | 0, _ => ⟨0, by decide, fun k h => absurd h (Nat.not_lt_zero _)⟩
  | m + 1, p => by
    obtain ⟨n, h1, h2⟩ := bits_of m p
    cases hp : p m with
    | false =>
      refine ⟨n, by rw [Nat.pow_succ]; omega, fun k hk => ?_⟩
      by_cases e : k = m
      · subst e; rw [hp]; exact Nat.testBit_lt_two_pow h1
      · exact h2 k (by omega)
    | true =>
      refine ⟨2 ^ m + n, by rw [Nat.pow_succ]; omega, fun k hk => ?_⟩
      by_cases e : k = m
      · subst e; rw [hp, Nat.testBit_two_pow_add_eq, Nat.testBit_lt_two_pow h1]; rfl
      · rw [Nat.testBit_two_pow_add_gt (by omega)]; exact h2 k (by omega)
def bitRow (m n : Nat) : List Nat := (List.range m).filter fun k => n.testBit k
theorem bitRow_asc {m n : Nat} : Asc (bitRow m n) := List.Pairwise.filter _ List.pairwise_lt_range
theorem bitRow_lt {m n x : Nat} (h : x ∈ bitRow m n) : x < m := List.mem_range.mp (List.mem_filter.mp h).1
theorem bitRow_all {m : Nat} {r : List Nat} (ha : Asc r) (hl : ∀ x ∈ r, x < m) : ∃ n, n < 2 ^ m ∧ bitRow m n = r := by
  obtain ⟨n, h1, h2⟩ := bits_of m fun k => decide (k ∈ r)
  refine ⟨n, h1, asc_ext bitRow_asc ha (fun x hx => ?_) fun x hx => ?_⟩
  · obtain ⟨h3, h4⟩ := List.mem_filter.mp hx
    rw [h2 x (List.mem_range.mp h3)] at h4
    exact of_decide_eq_true h4
  · exact List.mem_filter.mpr ⟨List.mem_range.mpr (hl x hx), by rw [h2 x (hl x hx)]; exact decide_eq_true hx⟩
end Pw
end

namespace Pw
open GBf
section
variable (need : Nat → Int) (o : Nat → List Nat)
/-- a way of waiting from q, the last one on it -/
inductive Wy (q : Nat) : List Nat → Nat → Prop
  | one : Wy q [q] q
  | snoc {w : List Nat} {x y : Nat} : Wy q w x → need x ≠ 0 → y ∈ o x → y ∉ w → Wy q (w ++ [y]) y
variable {need o} {q x y : Nat} {w : List Nat}
theorem Wy.last : ∀ {w : List Nat} {x : Nat}, Wy need o q w x → ∃ w', w = w' ++ [x]
  | _, _, .one => ⟨[], rfl⟩
  | _, _, .snoc (w := w) _ _ _ _ => ⟨w, rfl⟩
theorem Wy.uniq {y : Nat} (h : Wy need o q w x) (h2 : Wy need o q w y) : x = y := by
  obtain ⟨a, rfl⟩ := h.last
  obtain ⟨b, e⟩ := h2.last
  have := (List.append_inj' e rfl).2
  exact (List.cons.inj this).1
theorem Wy.nodup : ∀ {w : List Nat} {x : Nat}, Wy need o q w x → w.Nodup
  | _, _, .one => by simp
  | _, _, .snoc h _ _ hn => by
    rw [List.nodup_append]
    refine ⟨h.nodup, by simp, fun a ha b hb => ?_⟩
    rw [List.mem_singleton.mp hb]
    exact fun e => hn (e ▸ ha)
theorem Wy.lt {m : Nat} (ho : ∀ k x, k < m → x ∈ o k → x < m) (hq : q < m) : ∀ {w : List Nat} {x : Nat}, Wy need o q w x → ∀ y ∈ w, y < m
  | _, _, .one, y, hy => by rw [List.mem_singleton.mp hy]; exact hq
  | _, _, .snoc (x := x) h hx hy hn, z, hz => by
    have ih := h.lt ho hq
    rcases List.mem_append.mp hz with r | r
    · exact ih z r
    · rw [List.mem_singleton.mp r]
      obtain ⟨w', e⟩ := h.last
      exact ho x _ (ih x (by rw [e]; simp)) hy
theorem Wy.last_mem (h : Wy need o q w x) : x ∈ w := by
  obtain ⟨w', e⟩ := h.last
  rw [e]; simp
theorem Wy.head_mem : ∀ {w : List Nat} {x : Nat}, Wy need o q w x → q ∈ w
  | _, _, .one => by simp
  | _, _, .snoc h _ _ _ => List.mem_append_left _ h.head_mem
theorem Wy.cons {k : Nat} (hk : need k ≠ 0) (hy : q ∈ o k) : ∀ {w : List Nat} {x : Nat}, Wy need o q w x → k ∉ w → Wy need o k (k :: w) x
  | _, _, .one, hn => .snoc (w := [k]) .one hk hy (by simpa using fun e => hn (by rw [e]; simp))
  | _, _, .snoc (w := w) h hx hz hn, hk2 => by
    have ih := h.cons hk hy fun z => hk2 (List.mem_append_left _ z)
    refine .snoc (w := k :: w) ih hx hz fun z => ?_
    rcases List.mem_cons.mp z with e | e
    · exact hk2 (by rw [← e]; simp)
    · exact hn e
/-- a way and a beginning of it -/
theorem Wy.next : ∀ {v : List Nat} {y : Nat}, Wy need o q v y → ∀ {w : List Nat} {x : Nat}, Wy need o q w x → w <+: v → v = w ∨ ∃ z, need x ≠ 0 ∧ z ∈ o x ∧ z ∉ w ∧ (w ++ [z]) <+: v
  | _, _, .one, w, x, hw, hp => by
    obtain ⟨w', e⟩ := hw.last
    subst e
    obtain ⟨t, ht⟩ := hp
    have hl := congrArg List.length ht
    simp only [List.length_append, List.length_singleton] at hl
    have h1 : w'.length = 0 := by omega
    have h2 : t.length = 0 := by omega
    have h1 := List.length_eq_zero_iff.mp h1
    have h2 := List.length_eq_zero_iff.mp h2
    subst h1 h2
    exact .inl (by simpa using ht.symm)
  | _, _, .snoc (w := v) (x := x') (y := z) h hx hz hn, w, x, hw, hp => by
    rcases List.prefix_concat_iff.mp hp with e | hp2
    · exact .inl e.symm
    · rcases h.next hw hp2 with e | ⟨u, h1, h2, h3, h4⟩
      · subst e
        have := hw.uniq h
        subst this
        exact .inr ⟨z, hx, hz, hn, List.prefix_refl _⟩
      · exact .inr ⟨u, h1, h2, h3, h4.trans (List.prefix_append _ _)⟩
/-! ### the search -/
/-- the rows found, the ways in line -/
structure Dfs (m q : Nat) (found line : List (List Nat)) : Prop where
  fnd : ∀ r ∈ found, ∃ w x, Wy need o q w x ∧ need x = 0 ∧ Asc r ∧ r.Perm w
  lin : ∀ w ∈ line, ∃ x, Wy need o q w x
  all : ∀ w x, Wy need o q w x → need x = 0 → (∃ r ∈ found, r.Perm w) ∨ ∃ w' ∈ line, w' <+: w
theorem dfs_start {m : Nat} : Dfs (need := need) (o := o) m q [] [[q]] where
  fnd := fun r h => by cases h
  lin := fun w h => by rw [List.mem_singleton.mp h]; exact ⟨q, .one⟩
  all := fun w x h _ => by
    refine .inr ⟨[q], by simp, ?_⟩
    have : ∀ {w : List Nat} {x : Nat}, Wy need o q w x → [q] <+: w := fun {w x} h => by
      induction h with
      | one => exact List.prefix_refl _
      | snoc _ _ _ _ ih => exact ih.trans (List.prefix_append _ _)
    exact this h
theorem dfs_end {m : Nat} {found line : List (List Nat)} {r : List Nat} (h : Dfs (need := need) (o := o) m q found (line ++ [w])) (hw : Wy need o q w x) (hx : need x = 0) (ha : Asc r) (hr : r.Perm w) : Dfs (need := need) (o := o) m q (found ++ [r]) line where
  fnd := fun r' h' => by
    rcases List.mem_append.mp h' with e | e
    · exact h.fnd r' e
    · rw [List.mem_singleton.mp e]; exact ⟨w, x, hw, hx, ha, hr⟩
  lin := fun w' h' => h.lin w' (List.mem_append_left _ h')
  all := fun v y hv hy => by
    rcases h.all v y hv hy with ⟨r', h1, h2⟩ | ⟨w', h1, h2⟩
    · exact .inl ⟨r', List.mem_append_left _ h1, h2⟩
    · rcases List.mem_append.mp h1 with e | e
      · exact .inr ⟨w', e, h2⟩
      · have e := List.mem_singleton.mp e
        subst e
        rcases hv.next hw h2 with e | ⟨z, h3, _⟩
        · subst e; exact .inl ⟨r, by simp, hr⟩
        · exact absurd hx h3
theorem dfs_more {m : Nat} {found line : List (List Nat)} (h : Dfs (need := need) (o := o) m q found (line ++ [w])) (hw : Wy need o q w x) (hx : need x ≠ 0) :
    Dfs (need := need) (o := o) m q found (line ++ ((o x).filter fun z => decide (z ∉ w)).map fun z => w ++ [z]) where
  fnd := h.fnd
  lin := fun w' h' => by
    rcases List.mem_append.mp h' with e | e
    · exact h.lin w' (List.mem_append_left _ e)
    · obtain ⟨z, hz, rfl⟩ := List.mem_map.mp e
      obtain ⟨h1, h2⟩ := List.mem_filter.mp hz
      exact ⟨z, .snoc hw hx h1 (of_decide_eq_true h2)⟩
  all := fun v y hv hy => by
    rcases h.all v y hv hy with h1 | ⟨w', h1, h2⟩
    · exact .inl h1
    · right
      rcases List.mem_append.mp h1 with e | e
      · exact ⟨w', List.mem_append_left _ e, h2⟩
      · have e := List.mem_singleton.mp e
        subst e
        rcases hv.next hw h2 with e | ⟨z, _, h4, h5, h6⟩
        · subst e
          exact absurd ((hw.uniq hv) ▸ hy) hx
        · exact ⟨w' ++ [z], List.mem_append_right _ (List.mem_map.mpr ⟨z, List.mem_filter.mpr ⟨h4, decide_eq_true h5⟩, rfl⟩), h6⟩
/-- how much a way of a length may still bring -/
def Wt (m : Nat) : Nat → Nat
  | 0 => 1
  | r + 1 => 1 + m * Wt m r
theorem wt_pos {m r : Nat} : 1 ≤ Wt m r := by cases r <;> simp [Wt]
def mea (m : Nat) (line : List (List Nat)) : Nat := (line.map fun w => Wt m (m - w.length)).sum
theorem mea_app {m : Nat} {a b : List (List Nat)} : mea m (a ++ b) = mea m a + mea m b := by unfold mea; rw [List.map_append, List.sum_append]
theorem mea_one {m : Nat} : mea m [w] = Wt m (m - w.length) := by simp [mea]
theorem mea_len {m : Nat} : ∀ {line : List (List Nat)}, line.length ≤ mea m line
  | [] => Nat.zero_le _
  | a :: l => by
    have := mea_len (m := m) (line := l)
    have h2 := wt_pos (m := m) (r := m - a.length)
    show l.length + 1 ≤ Wt m (m - a.length) + mea m l
    omega
theorem mea_more {m : Nat} {l : List Nat} (hl : l.length ≤ m) (hw : w.length < m) : mea m (l.map fun z => w ++ [z]) < Wt m (m - w.length) := by
  obtain ⟨r, hr⟩ : ∃ r, m - w.length = r + 1 := ⟨m - w.length - 1, by omega⟩
  have e : mea m (l.map fun z => w ++ [z]) = l.length * Wt m r := by
    clear hl
    induction l with
    | nil => simp [mea]
    | cons a l ih =>
      have : mea m ((a :: l).map fun z => w ++ [z]) = Wt m (m - (w ++ [a]).length) + mea m (l.map fun z => w ++ [z]) := by simp [mea]
      rw [this, ih, List.length_cons, Nat.succ_mul, List.length_append, List.length_singleton]
      have : m - (w.length + 1) = r := by omega
      rw [this]; omega
  rw [e, hr]
  have := Nat.mul_le_mul_right (Wt m r) hl
  simp only [Wt]
  omega
/-! ### ways and what is found -/
variable {m : Nat} {br md l : List Nat} {F : Nat → Nat}
theorem rf_base (h : RF m need o br md l F) (hx : x < m) (hb : x ∉ br) (hz : need x = 0) : x ∈ l ∧ F x ≤ 1 := by
  by_cases hl : x ∈ l
  · refine ⟨hl, ?_⟩
    by_cases hm : x ∈ md
    · have := (h.mad x hm).2; omega
    · obtain ⟨h1, _, _, h4⟩ := h.pos x hl hm
      by_cases h2 : 2 ≤ F x
      · have := h4 h2; omega
      · omega
  · have := h.non x hx hl hb; omega
theorem rf_step (h : RF m need o br md l F) (hx : x < m) (hb : x ∉ br) (hn : need x ≤ 1) (hy : y ∈ o x) (hyl : y ∈ l) : x ∈ l ∧ F x ≤ F y + 1 := by
  by_cases hl : x ∈ l
  · refine ⟨hl, ?_⟩
    by_cases hm : x ∈ md
    · have := (h.mad x hm).2; omega
    · obtain ⟨h1, _, _, h4⟩ := h.pos x hl hm
      by_cases h2 : 2 ≤ F x
      · have h5 := h4 h2
        have h6 : cntT o l F (F x - 1) x = 0 := by omega
        unfold cntT at h6
        have h7 := List.length_eq_zero_iff.mp h6
        have h8 : ¬ (y ∈ l ∧ F y < F x - 1) := fun z => by
          have : y ∈ (o x).filter fun x_1 => decide (x_1 ∈ l ∧ F x_1 < F x - 1) := List.mem_filter.mpr ⟨hy, decide_eq_true z⟩
          rw [h7] at this; cases this
        have : ¬ F y < F x - 1 := fun z => h8 ⟨hyl, z⟩
        omega
      · omega
  · exfalso
    have h5 := h.non x hx hl hb
    have h6 : cnt o l x = 0 := by omega
    unfold cnt at h6
    have h7 := List.length_eq_zero_iff.mp h6
    have : y ∈ (o x).filter fun x => decide (x ∈ l) := List.mem_filter.mpr ⟨hy, decide_eq_true hyl⟩
    rw [h7] at this; cases this
/-- a way to one that is found: so is its beginning -/
theorem down (h : RF m need o br md l F) (ho : ∀ k x, k < m → x ∈ o k → x < m) (h1 : ∀ k, k < m → need k ≤ 1) (hq : q < m) : ∀ {w : List Nat} {x : Nat}, Wy need o q w x → x ∈ l → (∀ y ∈ w, y ∉ br) → q ∈ l ∧ F q + 1 ≤ F x + w.length
  | _, _, .one, hx, _ => ⟨hx, Nat.le_refl _⟩
  | _, _, .snoc (w := w) (x := x') hw hx hy hn, hyl, hb => by
    have hx' : x' < m := hw.lt ho hq x' hw.last_mem
    obtain ⟨s1, s2⟩ := rf_step h hx' (hb x' (List.mem_append_left _ hw.last_mem)) (h1 x' hx') hy hyl
    obtain ⟨i1, i2⟩ := down h ho h1 hq hw s1 fun y hy => hb y (List.mem_append_left _ hy)
    refine ⟨i1, ?_⟩
    rw [List.length_append, List.length_singleton]
    omega
/-- from one that is found a way leads to one that needs nothing, or is made -/
theorem up (h : RF m need o br md l F) (h0 : ∀ k, k < m → need k = 0 ∨ need k = 1) : ∀ (n k : Nat), F k ≤ n → k ∈ l → ∃ w x, Wy need o k w x ∧ (x ∈ md ∨ need x = 0) ∧ (∀ y ∈ w, y ∈ l ∧ F y ≤ F k ∧ (y ∉ br ∨ y ∈ md)) ∧ w.length ≤ F k + 1 ∧ (md = [] → w.length ≤ F k) := by
  intro n
  induction n with
  | zero =>
    intro k hk hl
    by_cases hm : k ∈ md
    · refine ⟨[k], k, .one, .inl hm, fun y hy => ?_, by simp, fun e => by rw [e] at hm; cases hm⟩
      rw [List.mem_singleton.mp hy]; exact ⟨hl, Nat.le_refl _, .inr hm⟩
    · have := (h.pos k hl hm).1; omega
  | succ n ih =>
    intro k hk hl
    by_cases hm : k ∈ md
    · refine ⟨[k], k, .one, .inl hm, fun y hy => ?_, by simp, fun e => by rw [e] at hm; cases hm⟩
      rw [List.mem_singleton.mp hy]; exact ⟨hl, Nat.le_refl _, .inr hm⟩
    · obtain ⟨p1, p2, p3, _⟩ := h.pos k hl hm
      rcases h0 k (h.lt k hl) with hz | hz
      · refine ⟨[k], k, .one, .inr hz, fun y hy => ?_, by simp, fun _ => by simpa using p1⟩
        rw [List.mem_singleton.mp hy]; exact ⟨hl, Nat.le_refl _, .inl p2⟩
      · have hc : cntT o l F (F k) k ≠ 0 := by omega
        unfold cntT at hc
        obtain ⟨y, hy⟩ := List.exists_mem_of_length_pos (Nat.pos_of_ne_zero hc)
        obtain ⟨hy1, hy2⟩ := List.mem_filter.mp hy
        obtain ⟨hy3, hy4⟩ := of_decide_eq_true hy2
        obtain ⟨w, x, hw, hx, hall, hlen, hlen2⟩ := ih y (by omega) hy3
        have hkw : k ∉ w := fun z => by have := (hall k z).2.1; omega
        refine ⟨k :: w, x, hw.cons (by omega) hy1 hkw, hx, fun z hz => ?_, by simp only [List.length_cons]; omega, fun e => by have := hlen2 e; simp only [List.length_cons]; omega⟩
        rcases List.mem_cons.mp hz with e | e
        · rw [e]; exact ⟨hl, Nat.le_refl _, .inl p2⟩
        · obtain ⟨a1, a2, a3⟩ := hall z e
          exact ⟨a1, by omega, a3⟩
/-! ### orders -/
def Ord (need : Nat → Int) (o : Nat → List Nat) (r : List Nat) : Prop := ∀ pre a post, r = pre ++ a :: post → need a ≤ (cnt o pre a : Nat)
theorem cnt_mono {p p' : List Nat} {k : Nat} (h : ∀ x ∈ p, x ∈ p') : cnt o p k ≤ cnt o p' k := by
  unfold cnt
  induction o k with
  | nil => exact Nat.le_refl _
  | cons a l ih =>
    by_cases h1 : a ∈ p
    · rw [List.filter_cons_of_pos (by simpa using h1), List.filter_cons_of_pos (by simpa using h a h1), List.length_cons, List.length_cons]; omega
    · rw [List.filter_cons_of_neg (by simpa using h1)]
      refine Nat.le_trans ih ?_
      by_cases h2 : a ∈ p'
      · rw [List.filter_cons_of_pos (by simpa using h2), List.length_cons]; omega
      · rw [List.filter_cons_of_neg (by simpa using h2)]; exact Nat.le_refl _
theorem cnt_pos {p : List Nat} {k x : Nat} (h1 : x ∈ o k) (h2 : x ∈ p) : 1 ≤ cnt o p k := by
  unfold cnt
  exact List.length_pos_of_mem (List.mem_filter.mpr ⟨h1, by simpa using h2⟩)
theorem fil_le {P Q : Nat → Bool} : ∀ {l : List Nat}, (∀ x ∈ l, P x = true → Q x = true) → (l.filter P).length ≤ (l.filter Q).length
  | [], _ => Nat.le_refl _
  | b :: t, key => by
    have ih := fil_le (l := t) fun x hx => key x (List.mem_cons_of_mem _ hx)
    by_cases h1 : P b = true
    · have h2 := key b List.mem_cons_self h1
      rw [List.filter_cons_of_pos h1, List.filter_cons_of_pos h2, List.length_cons, List.length_cons]; omega
    · rw [List.filter_cons_of_neg h1]
      refine Nat.le_trans ih ?_
      by_cases h2 : Q b = true
      · rw [List.filter_cons_of_pos h2, List.length_cons]; omega
      · rw [List.filter_cons_of_neg h2]; exact Nat.le_refl _
/-- what is found, round by round -/
theorem ord_of (h : RF m need o [] [] l F) {ys : List Nat} (hp : ys.Perm l) (hs : ys.Pairwise fun a b => F a ≤ F b) : Ord need o ys := by
  intro pre a post e
  have hal : a ∈ l := hp.mem_iff.mp (by rw [e]; simp)
  obtain ⟨_, _, p3, _⟩ := h.pos a hal (by simp)
  have : cntT o l F (F a) a ≤ cnt o pre a := by
    unfold cntT cnt
    have key : ∀ x ∈ o a, x ∈ l ∧ F x < F a → x ∈ pre := fun x _ ⟨hx, hlt⟩ => by
      have hx2 : x ∈ pre ++ a :: post := by rw [← e]; exact hp.mem_iff.mpr hx
      rcases List.mem_append.mp hx2 with q | q
      · exact q
      · rw [e] at hs
        have h2 := (List.pairwise_cons.mp (List.pairwise_append.mp hs).2.1).1
        rcases List.mem_cons.mp q with z | z
        · rw [z] at hlt; omega
        · have := h2 x z; omega
    exact fil_le fun x hx h => decide_eq_true (key x hx (of_decide_eq_true h))
  omega
theorem Ord.pre {a b : List Nat} (h : Ord need o (a ++ b)) : Ord need o a := fun p x r e => h p x (r ++ b) (by rw [e]; simp)
/-- one behind the other -/
theorem Wy.step : ∀ {w : List Nat} {x : Nat}, Wy need o q w x → ∀ {w1 w2 : List Nat} {a u : Nat}, w = w1 ++ a :: u :: w2 → need a ≠ 0 ∧ u ∈ o a
  | _, _, .one, w1, w2, a, u, e => by
    have := congrArg List.length e
    simp at this
    omega
  | _, _, .snoc (w := w) (x := x) (y := y) hw hx hy hn, w1, w2, a, u, e => by
    rcases List.eq_nil_or_concat w2 with z | ⟨w3, b, z⟩
    · subst z
      have e2 : w ++ [y] = (w1 ++ [a]) ++ [u] := by rw [e]; simp
      obtain ⟨e3, e4⟩ := List.append_inj' e2 rfl
      have e4 : y = u := (List.cons.inj e4).1
      obtain ⟨w', e5⟩ := hw.last
      rw [e5] at e3
      have e6 := (List.append_inj' e3 rfl).2
      have e6 : x = a := (List.cons.inj e6).1
      subst e4 e6
      exact ⟨hx, hy⟩
    · subst z
      have e2 : w ++ [y] = (w1 ++ a :: u :: w3) ++ [b] := by rw [e]; simp
      exact hw.step (List.append_inj' e2 rfl).1
theorem Wy.head : ∀ {w : List Nat} {x : Nat}, Wy need o q w x → ∃ t, w = q :: t
  | _, _, .one => ⟨[], rfl⟩
  | _, _, .snoc (y := y) h _ _ _ => by
    obtain ⟨t, e⟩ := h.head
    exact ⟨t ++ [y], by rw [e]; rfl⟩
/-- one that cannot be left out is waited for -/
theorem needed {A S : List Nat} {x z : Nat} (h1 : ∀ k, k < m → need k ≤ 1) (hlt : ∀ k ∈ S, k < m) (h : Ord need o (A ++ z :: S)) (hn : ¬ Ord need o (A ++ S)) (hw : Wy need o q S.reverse x) : need x ≠ 0 ∧ z ∈ o x := by
  by_cases hc : need x ≠ 0 ∧ z ∈ o x
  · exact hc
  · refine absurd (fun pre a post e => ?_) hn
    rcases List.append_eq_append_iff.mp e with ⟨t, e1, e2⟩ | ⟨t, e1, e2⟩
    · -- a stands in S
      cases t with
      | nil =>
        obtain ⟨w', ew⟩ := hw.last
        have eS : S = x :: w'.reverse := by rw [← List.reverse_reverse S, ew]; simp
        have e2 : S = a :: post := by simpa using e2
        rw [eS] at e2
        have e3 : x = a := (List.cons.inj e2).1
        rw [List.append_nil] at e1
        subst e1 e3
        have h2 := h (pre ++ [z]) x w'.reverse (by rw [eS]; simp)
        by_cases hz : need x = 0
        · omega
        · have hzo : z ∉ o x := fun y => hc ⟨hz, y⟩
          have : cnt o (pre ++ [z]) x = cnt o pre x := by
            unfold cnt
            congr 1
            refine List.filter_congr fun y hy => ?_
            have : y ≠ z := fun e => hzo (e ▸ hy)
            simp [this]
          omega
      | cons t0 t' =>
        rcases List.eq_nil_or_concat (t0 :: t') with z0 | ⟨t2, u, z0⟩
        · cases z0
        · rw [z0] at e1 e2
          have e2 : S = t2 ++ u :: a :: post := by rw [e2]; simp
          have e3 : S.reverse = post.reverse ++ a :: u :: t2.reverse := by rw [e2]; simp
          have h3 := (hw.step e3).2
          have h4 : 1 ≤ cnt o pre a := cnt_pos h3 (by rw [e1]; simp)
          have h5 := h1 a (hlt a (by rw [e2]; simp))
          omega
    · -- a stands in A
      cases t with
      | nil =>
        have e2 : a :: post = S := by simpa using e2
        rw [List.append_nil] at e1
        obtain ⟨w', ew⟩ := hw.last
        have eS : S = x :: w'.reverse := by rw [← List.reverse_reverse S, ew]; simp
        rw [eS] at e2
        have e3 : a = x := (List.cons.inj e2).1
        subst e1 e3
        have h2 := h (A ++ [z]) a w'.reverse (by rw [eS]; simp)
        by_cases hz : need a = 0
        · omega
        · have hzo : z ∉ o a := fun y => hc ⟨hz, y⟩
          have : cnt o (A ++ [z]) a = cnt o A a := by
            unfold cnt
            congr 1
            refine List.filter_congr fun y hy => ?_
            have : y ≠ z := fun e => hzo (e ▸ hy)
            simp [this]
          omega
      | cons t0 t' =>
        have e3 : a = t0 := (List.cons.inj e2).1
        subst e3
        exact h pre a (t' ++ z :: S) (by rw [e1]; simp)
end
end Pw

section
set_option maxRecDepth 100000
set_option maxHeartbeats 4000000
namespace K99
open PySem L2 Pw
def top (i : Nat) : Stmt := PySem.Challenge.pw_portgrants_k99_promises_that_need_one.main.body.getD i (.Pass ⟨0, 0, 0, 0⟩)
structure Txt (K : PySem.W.Frag) (mg : Str → Option Value) : Prop where
  b_abs : mg "abs" = none
  b_all : mg "all" = none
  b_any : mg "any" = none
  b_enumerate : mg "enumerate" = none
  b_int : mg "int" = none
  b_len : mg "len" = none
  b_list : mg "list" = none
  b_range : mg "range" = none
  b_set : mg "set" = none
  b_sorted : mg "sorted" = none
  b_tuple : mg "tuple" = none
  c_MAX_HUNG : ∃ t, mg "MAX_HUNG" = some (.int 9 t)
  c_MAX_PROMISES : ∃ t, mg "MAX_PROMISES" = some (.int 24 t)
abbrev s__law_stream : Stmt := top 28
def xb__law_stream : XS := xSeq (xAsgO (xLst (xvNil)) 1)
    (xSeq (xFor (xiAny (xSl (xVar 0) (xNoPart) (xPart (xC (.int 63))))) (xgName 2) (xSeq (xAsg (xCB xAbs (xvCons (xCBp xInt1 2) (xvNil))) (xgName 3))
    (xIfS (xB (xOp (xGe) (xVar 3) (xOp xPow (xC (.int 10)) (xC (.int 18))))) (xFor (xiR1 (xC (.int 60))) (xgName 4) (xSeq (xDrop (xAppend 1 (xOp xMod (xCBp xInt1 3) (xC (.int 1009)))))
    (xSeq (xAsg (xOp xDiv (xVar 3) (xC (.int 1009))) (xgName 3))
    (xIfS (xB (xOp (xEq) (xVar 3) (xC (.int 0)))) (xBreak) (xNext))))) (xSeq (xAsg (xOp xMod (xCBp xInt1 3) (xC (.int 2147483647))) (xgName 5))
    (xFor (xiR1 (xC (.int 10))) (xgName 4) (xSeq (xAsg (xOp xMod (xCB xInt1 (xvCons (xOp xAdd (xOp xAdd (xOp xMul (xVar 5) (xC (.int 48271))) (xOp xMul (xC (.int 7)) (xVar 4))) (xC (.int 11))) (xvNil))) (xC (.int 2147483647))) (xgName 5))
    (xDrop (xAppend 1 (xOp xMod (xOp xMod (xCB xInt1 (xvCons (xOp xAdd (xOp xMul (xVar 5) (xC (.int 69621))) (xVar 4)) (xvNil))) (xC (.int 2147483629))) (xC (.int 1009)))))))))))
    (xSeq (xIfS (xB (xOp (xEq) (xCBp xLen 1) (xC (.int 0)))) (xDrop (xAppend 1 (xC (.int 0)))) (xNext))
    (xRet (xVar 1))))
def x__law_stream : XF := fnX 6 1 xb__law_stream
abbrev s__law_next : Stmt := top 29
def xb__law_next : XS := xSeq (xSetIx 0 (xC (.int 1)) (xOp xAdd (xIxP 0 (xC (.int 1))) (xC (.int 1))))
    (xSeq (xAsg (xOp xDiv (xIxP 0 (xC (.int 1))) (xCB xLen (xvCons (xIxP 0 (xC (.int 0))) (xvNil)))) (xgName 2))
    (xRet (xOp xMod (xCB xInt1 (xvCons (xOp xAdd (xOp xAdd (xOp xIx (xIxP 0 (xC (.int 0))) (xOp xMod (xIxP 0 (xC (.int 1))) (xCB xLen (xvCons (xIxP 0 (xC (.int 0))) (xvNil))))) (xOp xMul (xVar 2) (xC (.int 389)))) (xOp xMul (xOp xMul (xIxP 0 (xC (.int 1))) (xVar 2)) (xC (.int 17)))) (xvNil))) (xVar 1))))
def x__law_next : XF := fnX 3 2 xb__law_next
abbrev s__law_ones : Stmt := top 31
def xb__law_ones : XS := xSeq (xAsg (xOp xAdd (xC (.int 1)) (xCall 2 x__law_next (xaRef 0 (xaCons (xC (.int 7)) (xaNil))))) (xgName 1))
    (xSeq (xAsgO (xLst (xvNil)) 2)
    (xSeq (xFor (xiR1 (xVar 1)) (xgName 3) (xSeq (xAsg (xCB xTupleOf (xvCons (xShr (xLc (xiR1 (xVar 1)) (xgName 5) (xB (xOp (xEq) (xCall 2 x__law_next (xaRef 0 (xaCons (xC (.int 3)) (xaNil)))) (xC (.int 0)))) (xVar 5) [5])) (xvNil))) (xgName 4))
    (xSeq (xAsg (xCB xInt1 (xvCons (xOp (xGt) (xCall 2 x__law_next (xaRef 0 (xaCons (xC (.int 4)) (xaNil)))) (xC (.int 0))) (xvNil))) (xgName 6))
    (xDrop (xAppend 2 (xTup (xvCons (xVar 6) (xvCons (xVar 4) (xvNil)))))))))
    (xRet (xCB xTupleOf (xvCons (xVar 2) (xvNil))))))
def x__law_ones : XF := fnX 7 1 xb__law_ones
abbrev s__law_ways : Stmt := top 32
def xb__law_ways : XS := xSeq (xAsgO (xLst (xvNil)) 2)
    (xSeq (xAsgO (xLst (xvCons (xTup (xvCons (xVar 1) (xvNil))) (xvNil))) 3)
    (xSeq (xWhile (xB (xOp (xGt) (xCBp xLen 3) (xC (.int 0)))) (xSeq (xAsg (xPop 3) (xgName 4))
    (xIfS (xB (xOp (xEq) (xOp xIx (xIxP 0 (xIxP 4 (xUn xNeg (xC (.int 1))))) (xC (.int 0))) (xC (.int 0)))) (xDrop (xAppend 2 (xCB xTupleOf (xvCons (xShr (xCBp xSortTI 4)) (xvNil))))) (xDrop (xExtend 3 (xShr (xLc (xiAny (xOp xIx (xIxP 0 (xIxP 4 (xUn xNeg (xC (.int 1))))) (xC (.int 1)))) (xgName 5) (xB (xOpR (xInC true) (xVar 5) 4)) (xOp xAdd (xVar 4) (xTup (xvCons (xVar 5) (xvNil)))) [5])))))))
    (xRet (xVar 2))))
def x__law_ways : XF := fnX 6 2 xb__law_ways
abbrev s_check_promise : Stmt := top 11
def xb_check_promise : XS := xSeq (xAsg (xVar 1) (xgTup 2 (xgCons (xgName 2) (xgCons (xgName 3) (xgNil)))))
    (xSeq (xIfS (xOr (xB (xOp (xNe) (xShr (xCB xListOf (xvCons (xVar 3) (xvNil)))) (xShr (xSortSet (xVar 3))))) (xNot (xB (xCB xAll (xvCons (xShr (xLc (xiAny (xVar 3)) (xgName 4) (xYes) (xChain (xLe) (xLt) (xC (.int 0)) (xVar 4) (xCBp xLen 0)) [4])) (xvNil)))))) (xNever) (xNext))
    (xIfS (xNot (xB (xChain (xLe) (xLe) (xC (.int 0)) (xVar 2) (xOp xAdd (xCBp xLen 3) (xC (.int 1)))))) (xNever) (xNext)))
def x_check_promise : XF := fnX 5 2 xb_check_promise
abbrev s_check_promises : Stmt := top 12
def xb_check_promises : XS := xSeq (xIfS (xB (xOp (xGt) (xCBp xLen 0) (xC (.int 24)))) (xNever) (xNext))
    (xFor (xiAny (xVar 0)) (xgName 1) (xDrop (xCall 2 x_check_promise (xaCons (xVar 0) (xaCons (xVar 1) (xaNil))))))
def x_check_promises : XF := fnX 2 1 xb_check_promises
abbrev s_rounds_of : Stmt := top 14
def xb_rounds_of : XS := xSeq (xAsgO (xDc (xiAny (xVar 2)) (xgName 4) xYes (xVar 4) (xC (.int 0)) [4]) 3)
    (xSeq (xAsg (xC (.int 0)) (xgName 5))
    (xSeq (xAsg (xC (.bl true)) (xgName 6))
    (xSeq (xWhile (xB (xVar 6)) (xSeq (xAug 5 (fun a b => a + b) (xC (.int 1)))
    (xSeq (xAsgO (xLst (xvNil)) 7)
    (xSeq (xFor (xiEnum (xVar 0)) (xgTup 2 (xgCons (xgName 4) (xgCons (xgTup 2 (xgCons (xgName 8) (xgCons (xgName 9) (xgNil)))) (xgNil)))) (xSeq (xIfS (xOr (xB (xDIn false (xVar 4) 3)) (xB (xOpR (xInC false) (xVar 4) 1))) (xCont) (xNext))
    (xIfS (xB (xOp (xGe) (xCB xLen (xvCons (xShr (xLc (xiAny (xVar 9)) (xgName 10) (xB (xDIn false (xVar 10) 3)) (xVar 10) [10])) (xvNil))) (xVar 8))) (xDrop (xAppend 7 (xVar 4))) (xNext))))
    (xSeq (xDrop (xDUpd 3 (xShr (xDc (xiAny (xVar 7)) (xgName 4) xYes (xVar 4) (xVar 5) [4]))))
    (xAsg (xOp (xGt) (xCBp xLen 7) (xC (.int 0))) (xgName 6)))))))
    (xRet (xVar 3)))))
def x_rounds_of : XF := fnX 11 3 xb_rounds_of
abbrev s_kept : Stmt := top 15
def xb_kept : XS := xSeq (xDrop (xCall 1 x_check_promises (xaCons (xVar 0) (xaNil))))
    (xRet (xCB xTupleOf (xvCons (xShr (xCB xSortD (xvCons (xCall 3 x_rounds_of (xaCons (xVar 0) (xaCons (xTup (xvNil)) (xaCons (xTup (xvNil)) (xaNil))))) (xvNil)))) (xvNil))))
def x_kept : XF := fnX 1 1 xb_kept
abbrev s_rounds : Stmt := top 16
def xb_rounds : XS := xSeq (xDrop (xCall 1 x_check_promises (xaCons (xVar 0) (xaNil))))
    (xSeq (xAsg (xCall 3 x_rounds_of (xaCons (xVar 0) (xaCons (xTup (xvNil)) (xaCons (xTup (xvNil)) (xaNil))))) (xgName 1))
    (xRet (xCB xTupleOf (xvCons (xShr (xLc (xiR1 (xCBp xLen 0)) (xgName 2) (xYes) (xDGet2 1 (xVar 2) (xC (.int 0))) [2])) (xvNil)))))
def x_rounds : XF := fnX 3 1 xb_rounds
abbrev s__law_least : Stmt := top 33
def xb__law_least : XS := xSeq (xAsgO (xLst (xvNil)) 1)
    (xSeq (xFor (xiAny (xShr (xCB xSortAny (xvCons (xShr (xLc (xiAny (xVar 0)) (xgName 3) (xYes) (xTup (xvCons (xCBp xLen 3) (xvCons (xVar 3) (xvNil)))) [3])) (xvNil))))) (xgTup 2 (xgCons (xgName 2) (xgCons (xgName 3) (xgNil)))) (xIfS (xNot (xB (xCB xAny (xvCons (xShr (xLcO 1 (xgName 5) (xYes) (xCB xAll (xvCons (xShr (xLc (xiAny (xVar 5)) (xgName 4) (xYes) (xOpR (xInC false) (xVar 4) 3) [4])) (xvNil))) [5])) (xvNil))))) (xDrop (xAppend 1 (xVar 3))) (xNext)))
    (xRet (xVar 1)))
def x__law_least : XF := fnX 6 1 xb__law_least
abbrev s_check_number : Stmt := top 13
def xb_check_number : XS := xIfS (xNot (xB (xChain (xLe) (xLt) (xC (.int 0)) (xVar 1) (xCBp xLen 0)))) (xNever) (xNext)
def x_check_number : XF := fnX 2 2 xb_check_number
abbrev s_check_few : Stmt := top 21
def xb_check_few : XS := xSeq (xDrop (xCall 1 x_check_promises (xaCons (xVar 0) (xaNil))))
    (xSeq (xDrop (xCall 2 x_check_number (xaCons (xVar 0) (xaCons (xVar 1) (xaNil)))))
    (xIfS (xB (xOp (xGt) (xCBp xLen 0) (xC (.int 9)))) (xNever) (xNext)))
def x_check_few : XF := fnX 2 2 xb_check_few
abbrev s_subsets : Stmt := top 6
def xb_subsets : XS := xSeq (xAsg (xShr (xLc (xiR1 (xOp xShl (xC (.int 1)) (xVar 0))) (xgName 3) (xYes) (xCB xTupleOf (xvCons (xShr (xLc (xiR1 (xVar 0)) (xgName 2) (xTru (xOp xBand (xOp xShrI (xVar 3) (xVar 2)) (xC (.int 1)))) (xVar 2) [2])) (xvNil))) [3])) (xgName 1))
    (xRet (xShr (xSortA (xVar 1))))
def x_subsets : XF := fnX 4 1 xb_subsets
abbrev s_least_of : Stmt := top 7
def xb_least_of : XS := xSeq (xAsgO (xLst (xvNil)) 1)
    (xSeq (xFor (xiAny (xVar 0)) (xgName 2) (xIfS (xNot (xB (xCB xAny (xvCons (xShr (xLcO 1 (xgName 4) (xYes) (xCB xAll (xvCons (xShr (xLc (xiAny (xVar 4)) (xgName 3) (xYes) (xOpR (xInC false) (xVar 3) 2) [3])) (xvNil))) [4])) (xvNil))))) (xDrop (xAppend 1 (xVar 2))) (xNext)))
    (xRet (xVar 1)))
def x_least_of : XF := fnX 5 1 xb_least_of
abbrev s_least_keepers : Stmt := top 25
def xb_least_keepers : XS := xSeq (xDrop (xCall 2 x_check_few (xaCons (xVar 0) (xaCons (xVar 1) (xaNil)))))
    (xSeq (xAsgO (xLst (xvNil)) 2)
    (xSeq (xFor (xiAny (xCall 1 x_subsets (xaCons (xCBp xLen 0) (xaNil)))) (xgName 3) (xSeq (xAsg (xCB xTupleOf (xvCons (xShr (xLc (xiR1 (xCBp xLen 0)) (xgName 5) (xB (xOpR (xInC true) (xVar 5) 3)) (xVar 5) [5])) (xvNil))) (xgName 4))
    (xIfS (xAnd (xB (xOpR (xInC false) (xVar 1) 3)) (xB (xDInE false (xVar 1) (xCall 3 x_rounds_of (xaCons (xVar 0) (xaCons (xVar 4) (xaCons (xTup (xvNil)) (xaNil)))))))) (xDrop (xAppend 2 (xVar 3))) (xNext))))
    (xRet (xCall 1 x_least_of (xaCons (xVar 2) (xaNil))))))
def x_least_keepers : XF := fnX 6 2 xb_least_keepers
abbrev s__law_subsets : Stmt := top 30
def xb__law_subsets : XS := xSeq (xAsg (xShr (xLst (xvCons (xTup (xvNil)) (xvNil)))) (xgName 1))
    (xSeq (xFor (xiAny (xVar 0)) (xgName 2) (xAsg (xOp xAdd (xVar 1) (xShr (xLc (xiAny (xVar 1)) (xgName 3) (xYes) (xOp xAdd (xVar 3) (xTup (xvCons (xVar 2) (xvNil)))) [3]))) (xgName 1)))
    (xRet (xShr (xLc (xiAny (xShr (xCB xSortAny (xvCons (xShr (xLc (xiAny (xVar 1)) (xgName 3) (xYes) (xTup (xvCons (xCBp xLen 3) (xvCons (xVar 3) (xvNil)))) [3])) (xvNil))))) (xgTup 2 (xgCons (xgName 4) (xgCons (xgName 3) (xgNil)))) (xYes) (xVar 3) [4, 3]))))
def x__law_subsets : XF := fnX 5 1 xb__law_subsets
abbrev s_least_breakers : Stmt := top 23
def xb_least_breakers : XS := xSeq (xDrop (xCall 2 x_check_few (xaCons (xVar 0) (xaCons (xVar 1) (xaNil)))))
    (xSeq (xAsg (xShr (xLc (xiAny (xCall 1 x_subsets (xaCons (xCBp xLen 0) (xaNil)))) (xgName 3) (xB (xOpR (xInC true) (xVar 1) 3)) (xVar 3) [3])) (xgName 2))
    (xRet (xCall 1 x_least_of (xaCons (xShr (xLc (xiAny (xVar 2)) (xgName 3) (xB (xDInE true (xVar 1) (xCall 3 x_rounds_of (xaCons (xVar 0) (xaCons (xVar 3) (xaCons (xTup (xvNil)) (xaNil))))))) (xVar 3) [3])) (xaNil)))))
def x_least_breakers : XF := fnX 4 2 xb_least_breakers
abbrev s_is_order : Stmt := top 17
def xb_is_order : XS := xSeq (xDrop (xCall 1 x_check_promises (xaCons (xVar 0) (xaNil))))
    (xSeq (xAsgO (xDNew) 2)
    (xSeq (xFor (xiAny (xVar 1)) (xgName 3) (xSeq (xIfS (xOr (xNot (xB (xChain (xLe) (xLt) (xC (.int 0)) (xVar 3) (xCBp xLen 0)))) (xB (xDIn false (xVar 3) 2))) (xRet (xC (.bl false))) (xNext))
    (xSeq (xAsg (xIxP 0 (xVar 3)) (xgTup 2 (xgCons (xgName 4) (xgCons (xgName 5) (xgNil)))))
    (xSeq (xIfS (xB (xOp (xLt) (xCB xLen (xvCons (xShr (xLc (xiAny (xVar 5)) (xgName 6) (xB (xDIn false (xVar 6) 2)) (xVar 6) [6])) (xvNil))) (xVar 4))) (xRet (xC (.bl false))) (xNext))
    (xDPut 2 (xVar 3) (xC (.bl true)))))))
    (xRet (xC (.bl true)))))
def x_is_order : XF := fnX 7 2 xb_is_order
abbrev s_order_to : Stmt := top 18
def xb_order_to : XS := xSeq (xDrop (xCall 1 x_check_promises (xaCons (xVar 0) (xaNil))))
    (xSeq (xDrop (xCall 2 x_check_number (xaCons (xVar 0) (xaCons (xVar 1) (xaNil)))))
    (xSeq (xAsg (xCall 3 x_rounds_of (xaCons (xVar 0) (xaCons (xTup (xvNil)) (xaCons (xTup (xvNil)) (xaNil))))) (xgName 2))
    (xSeq (xIfS (xB (xDIn true (xVar 1) 2)) (xNever) (xNext))
    (xSeq (xAsg (xShr (xSortB 2)) (xgName 3))
    (xSeq (xAsg (xSl (xVar 3) (xNoPart) (xPart (xOp xAdd (xIndexP 3 (xVar 1)) (xC (.int 1))))) (xgName 3))
    (xSeq (xFor (xiAny (xRevB (xVar 3))) (xgName 4) (xSeq (xAsg (xShr (xLc (xiAny (xVar 3)) (xgName 6) (xB (xOp (xNe) (xVar 6) (xVar 4))) (xVar 6) [6])) (xgName 5))
    (xIfS (xB (xCall 2 x_is_order (xaCons (xVar 0) (xaCons (xVar 5) (xaNil))))) (xAsg (xVar 5) (xgName 3)) (xNext))))
    (xRet (xCB xTupleOf (xvCons (xVar 3) (xvNil))))))))))
def x_order_to : XF := fnX 7 2 xb_order_to
abbrev s_least_makers : Stmt := top 24
def xb_least_makers : XS := xSeq (xDrop (xCall 2 x_check_few (xaCons (xVar 0) (xaCons (xVar 1) (xaNil)))))
    (xSeq (xAsg (xShr (xLc (xiAny (xCall 1 x_subsets (xaCons (xCBp xLen 0) (xaNil)))) (xgName 3) (xB (xOpR (xInC true) (xVar 1) 3)) (xVar 3) [3])) (xgName 2))
    (xRet (xCall 1 x_least_of (xaCons (xShr (xLc (xiAny (xVar 2)) (xgName 3) (xB (xDInE false (xVar 1) (xCall 3 x_rounds_of (xaCons (xVar 0) (xaCons (xTup (xvNil)) (xaCons (xVar 3) (xaNil))))))) (xVar 3) [3])) (xaNil)))))
def x_least_makers : XF := fnX 4 2 xb_least_makers
abbrev s_is_stuck : Stmt := top 19
def xb_is_stuck : XS := xSeq (xDrop (xCall 1 x_check_promises (xaCons (xVar 0) (xaNil))))
    (xSeq (xIfS (xOr (xB (xOp (xNe) (xShr (xCB xListOf (xvCons (xVar 1) (xvNil)))) (xShr (xSortSet (xVar 1))))) (xNot (xB (xCB xAll (xvCons (xShr (xLc (xiAny (xVar 1)) (xgName 2) (xYes) (xChain (xLe) (xLt) (xC (.int 0)) (xVar 2) (xCBp xLen 0)) [2])) (xvNil)))))) (xRet (xC (.bl false))) (xNext))
    (xSeq (xFor (xiAny (xVar 1)) (xgName 2) (xSeq (xAsg (xIxP 0 (xVar 2)) (xgTup 2 (xgCons (xgName 3) (xgCons (xgName 4) (xgNil)))))
    (xIfS (xB (xOp (xGe) (xCB xLen (xvCons (xShr (xLc (xiAny (xVar 4)) (xgName 5) (xB (xOpR (xInC true) (xVar 5) 1)) (xVar 5) [5])) (xvNil))) (xVar 3))) (xRet (xC (.bl false))) (xNext))))
    (xRet (xC (.bl true)))))
def x_is_stuck : XF := fnX 6 2 xb_is_stuck
abbrev s_least_stuck : Stmt := top 22
def xb_least_stuck : XS := xSeq (xDrop (xCall 2 x_check_few (xaCons (xVar 0) (xaCons (xVar 1) (xaNil)))))
    (xRet (xCall 1 x_least_of (xaCons (xShr (xLc (xiAny (xCall 1 x_subsets (xaCons (xCBp xLen 0) (xaNil)))) (xgName 2) (xAnd (xB (xOpR (xInC false) (xVar 1) 2)) (xB (xCall 2 x_is_stuck (xaCons (xVar 0) (xaCons (xVar 2) (xaNil)))))) (xVar 2) [2])) (xaNil))))
def x_least_stuck : XF := fnX 3 2 xb_least_stuck
abbrev s_stuck : Stmt := top 20
def xb_stuck : XS := xSeq (xDrop (xCall 1 x_check_promises (xaCons (xVar 0) (xaNil))))
    (xSeq (xAsg (xCall 3 x_rounds_of (xaCons (xVar 0) (xaCons (xTup (xvNil)) (xaCons (xTup (xvNil)) (xaNil))))) (xgName 1))
    (xRet (xCB xTupleOf (xvCons (xShr (xLc (xiR1 (xCBp xLen 0)) (xgName 2) (xB (xDIn true (xVar 2) 1)) (xVar 2) [2])) (xvNil)))))
def x_stuck : XF := fnX 3 1 xb_stuck
abbrev s_bears_itself : Stmt := top 26
def xb_bears_itself : XS := xSeq (xDrop (xCall 1 x_check_promises (xaCons (xVar 0) (xaNil))))
    (xSeq (xIfS (xOr (xB (xOp (xNe) (xShr (xCB xListOf (xvCons (xVar 1) (xvNil)))) (xShr (xSortSet (xVar 1))))) (xNot (xB (xCB xAll (xvCons (xShr (xLc (xiAny (xVar 1)) (xgName 2) (xYes) (xChain (xLe) (xLt) (xC (.int 0)) (xVar 2) (xCBp xLen 0)) [2])) (xvNil)))))) (xRet (xC (.bl false))) (xNext))
    (xSeq (xFor (xiAny (xVar 1)) (xgName 2) (xSeq (xAsg (xIxP 0 (xVar 2)) (xgTup 2 (xgCons (xgName 3) (xgCons (xgName 4) (xgNil)))))
    (xIfS (xB (xOp (xLt) (xCB xLen (xvCons (xShr (xLc (xiAny (xVar 4)) (xgName 5) (xB (xOpR (xInC false) (xVar 5) 1)) (xVar 5) [5])) (xvNil))) (xVar 3))) (xRet (xC (.bl false))) (xNext))))
    (xRet (xC (.bl true)))))
def x_bears_itself : XF := fnX 6 2 xb_bears_itself
abbrev s_law : Stmt := top 34
def xb_law : XS := xSeq (xAsgO (xLst (xvCons (xCall 1 x__law_stream (xaCons (xVar 0) (xaNil))) (xvCons (xC (.int 0)) (xvNil)))) 1)
    (xSeq (xFor (xiR1 (xC (.int 4))) (xgName 2) (xSeq (xAsg (xCall 1 x__law_ones (xaRef 1 (xaNil))) (xgName 3))
    (xSeq (xAsg (xCBp xLen 3) (xgName 4))
    (xSeq (xAsg (xCall 2 x__law_next (xaRef 1 (xaCons (xVar 4) (xaNil)))) (xgName 5))
    (xSeq (xAsg (xShr (xLc (xiR1 (xVar 4)) (xgName 7) (xYes) (xCall 2 x__law_ways (xaCons (xVar 3) (xaCons (xVar 7) (xaNil)))) [7])) (xgName 6))
    (xSeq (xIfS (xB (xOp (xNe) (xCall 1 x_kept (xaCons (xVar 3) (xaNil))) (xCB xTupleOf (xvCons (xShr (xLc (xiR1 (xVar 4)) (xgName 7) (xB (xOp (xGt) (xCB xLen (xvCons (xIxP 6 (xVar 7)) (xvNil))) (xC (.int 0)))) (xVar 7) [7])) (xvNil))))) (xRet (xC (.bl false))) (xNext))
    (xSeq (xAsg (xCB xTupleOf (xvCons (xShr (xLc (xiAny (xVar 6)) (xgName 10) (xYes) (xOp xIx (xOp xAdd (xShr (xCB xSortI (xvCons (xShr (xLc (xiAny (xVar 10)) (xgName 9) (xYes) (xCBp xLen 9) [9])) (xvNil)))) (xShr (xLst (xvCons (xC (.int 0)) (xvNil))))) (xC (.int 0))) [10])) (xvNil))) (xgName 8))
    (xSeq (xIfS (xB (xOp (xNe) (xCall 1 x_rounds (xaCons (xVar 3) (xaNil))) (xVar 8))) (xRet (xC (.bl false))) (xNext))
    (xSeq (xAsg (xCall 1 x__law_least (xaCons (xIxP 6 (xVar 5)) (xaNil))) (xgName 10))
    (xSeq (xIfS (xB (xOp (xNe) (xCall 2 x_least_keepers (xaCons (xVar 3) (xaCons (xVar 5) (xaNil)))) (xVar 10))) (xRet (xC (.bl false))) (xNext))
    (xSeq (xAsg (xShr (xLc (xiR1 (xVar 4)) (xgName 7) (xB (xOp (xNe) (xVar 7) (xVar 5))) (xVar 7) [7])) (xgName 11))
    (xSeq (xAsg (xShr (xLc (xiAny (xCall 1 x__law_subsets (xaCons (xVar 11) (xaNil)))) (xgName 13) (xB (xCB xAll (xvCons (xShr (xLc (xiAny (xVar 10)) (xgName 9) (xYes) (xCB xAny (xvCons (xShr (xLc (xiAny (xVar 9)) (xgName 7) (xYes) (xOpR (xInC false) (xVar 7) 13) [7])) (xvNil))) [9])) (xvNil)))) (xVar 13) [13])) (xgName 12))
    (xSeq (xIfS (xB (xOp (xNe) (xCall 2 x_least_breakers (xaCons (xVar 3) (xaCons (xVar 5) (xaNil)))) (xCall 1 x__law_least (xaCons (xVar 12) (xaNil))))) (xRet (xC (.bl false))) (xNext))
    (xSeq (xIfS (xB (xOp (xGt) (xCBp xLen 10) (xC (.int 0)))) (xSeq (xAsg (xCall 2 x_order_to (xaCons (xVar 3) (xaCons (xVar 5) (xaNil)))) (xgName 13))
    (xSeq (xIfS (xOr (xB (xOp (xNe) (xIxP 13 (xUn xNeg (xC (.int 1)))) (xVar 5))) (xOr (xB (xOp (xInD true) (xCB xTupleOf (xvCons (xShr (xCBp xSortTI 13)) (xvNil))) (xIxP 6 (xVar 5)))) (xB (xOp (xNe) (xOp xIx (xIxP 3 (xIxP 13 (xC (.int 0)))) (xC (.int 0))) (xC (.int 0)))))) (xRet (xC (.bl false))) (xNext))
    (xSeq (xFor (xiR2 (xC (.int 1)) (xCBp xLen 13)) (xgName 7) (xIfS (xB (xOp (xInC true) (xIxP 13 (xOp xSub (xVar 7) (xC (.int 1)))) (xOp xIx (xIxP 3 (xIxP 13 (xVar 7))) (xC (.int 1))))) (xRet (xC (.bl false))) (xNext)))
    (xIfS (xOr (xB (xOp (xNe) (xCall 2 x_least_makers (xaCons (xVar 3) (xaCons (xVar 5) (xaNil)))) (xShr (xLst (xvCons (xTup (xvNil)) (xvNil)))))) (xB (xOp (xNe) (xCall 2 x_least_stuck (xaCons (xVar 3) (xaCons (xVar 5) (xaNil)))) (xShr (xLst (xvNil)))))) (xRet (xC (.bl false))) (xNext))))) (xSeq (xAsg (xCall 2 x_least_makers (xaCons (xVar 3) (xaCons (xVar 5) (xaNil)))) (xgName 14))
    (xIfS (xOr (xNot (xB (xCB xAll (xvCons (xShr (xLc (xiAny (xVar 14)) (xgName 13) (xYes) (xOp (xEq) (xCBp xLen 13) (xC (.int 1))) [13])) (xvNil))))) (xB (xOp (xInC true) (xVar 5) (xCall 1 x_stuck (xaCons (xVar 3) (xaNil)))))) (xRet (xC (.bl false))) (xNext))))
    (xSeq (xAsg (xCB xTupleOf (xvCons (xShr (xLc (xiAny (xCall 1 x_stuck (xaCons (xVar 3) (xaNil)))) (xgName 7) (xB (xOp (xGt) (xCB xLen (xvCons (xOp xIx (xIxP 3 (xVar 7)) (xC (.int 1))) (xvNil))) (xC (.int 0)))) (xVar 7) [7])) (xvNil))) (xgName 15))
    (xIfS (xAnd (xB (xCall 2 x_bears_itself (xaCons (xVar 3) (xaCons (xVar 15) (xaNil))))) (xB (xCB xAny (xvCons (xShr (xLc (xiAny (xVar 15)) (xgName 7) (xYes) (xOp (xInC false) (xVar 7) (xCall 1 x_kept (xaCons (xVar 3) (xaNil)))) [7])) (xvNil))))) (xRet (xC (.bl false))) (xNext)))))))))))))))))
    (xRet (xC (.bl true))))
def x_law : XF := fnX 16 1 xb_law
section
variable {P : Program} {w : World} {K : PySem.W.Frag} {mg : Str → Option Value} {base : Heap}
theorem sc__law_stream : FnScope ["script", "numbers", "cell", "rest", "k", "mixed"] ["script"] (defScope s__law_stream) := ⟨rfl, rfl, rfl, by decide +kernel, rfl, by decide +kernel, by decide +kernel⟩
theorem gd__law_stream {f : Addr} {fd : FuncData} (T : Txt K mg) (a : At K mg "_law_stream" s__law_stream ["script"] f fd) : Gd P w K mg base 1 "_law_stream" ["script"] x__law_stream := by
  exact .mk' a (fn_word (N := ["script", "numbers", "cell", "rest", "k", "mixed"]) a.F sc__law_stream (fun cdv A outer s H E hr =>
    pss_cons (ps_set (i := 1) sc__law_stream.nd rfl (by first | exact Or.inl rfl | exact Or.inr rfl) (pe_lst (pa_nil)))
    (pss_cons (ps_for PassesOwn.never rfl (pi_any (pe_slice slAny (pv 0) (po_none) (po_some (pe_int)))) (pg_name (i := 2) sc__law_stream.nd rfl (by first | exact Or.inl rfl | exact Or.inr rfl)) (pss_cons (ps_set (i := 3) sc__law_stream.nd rfl (by first | exact Or.inl rfl | exact Or.inr rfl) (pe_callB call_abs (by rfl) T.b_abs (by decide +kernel) (pa_cons (pe_callTy call_int1 (by rfl) T.b_int (by decide +kernel) (pa_cons (pv 2) pa_nil)) (pa_nil))))
    (pss_one (ps_if (pt_cmpR op_ge (pv 3) (pe_op op_pow (pe_int) (pe_int)) (nomark _)) (pss_one (ps_for PassesOwn.never rfl (pi_range1 (by rfl) T.b_range (pa_cons (pe_int) pa_nil)) (pg_name (i := 4) sc__law_stream.nd rfl (by first | exact Or.inl rfl | exact Or.inr rfl)) (pss_cons (ps_expr (pe_bm PySem.F.plainAttrs_list PySem.F.slot_list_append PySem.F.type_list_append mt_append (pv 1) (pa_cons (pe_op op_modN (pe_callTy call_int1 (by rfl) T.b_int (by decide +kernel) (pa_cons (pv 3) pa_nil)) (pe_int)) pa_nil)))
    (pss_cons (ps_set (i := 3) sc__law_stream.nd rfl (by first | exact Or.inl rfl | exact Or.inr rfl) (pe_op op_fdivN (pv 3) (pe_int)))
    (pss_one (ps_if (pt_cmpR (opEq (hu64 hr)) (pv 3) (pe_int) (nomark _)) (pss_one (ps_break)) (pss_nil))))))) (pss_cons (ps_set (i := 5) sc__law_stream.nd rfl (by first | exact Or.inl rfl | exact Or.inr rfl) (pe_op op_modN (pe_callTy call_int1 (by rfl) T.b_int (by decide +kernel) (pa_cons (pv 3) pa_nil)) (pe_int)))
    (pss_one (ps_for PassesOwn.never rfl (pi_range1 (by rfl) T.b_range (pa_cons (pe_int) pa_nil)) (pg_name (i := 4) sc__law_stream.nd rfl (by first | exact Or.inl rfl | exact Or.inr rfl)) (pss_cons (ps_set (i := 5) sc__law_stream.nd rfl (by first | exact Or.inl rfl | exact Or.inr rfl) (pe_op op_modN (pe_callTy call_int1 (by rfl) T.b_int (by decide +kernel) (pa_cons (pe_op opAdd (pe_op opAdd (pe_op op_mul (pv 5) (pe_int)) (pe_op op_mul (pe_int) (pv 4))) (pe_int)) (pa_nil))) (pe_int)))
    (pss_one (ps_expr (pe_bm PySem.F.plainAttrs_list PySem.F.slot_list_append PySem.F.type_list_append mt_append (pv 1) (pa_cons (pe_op op_modN (pe_op op_modN (pe_callTy call_int1 (by rfl) T.b_int (by decide +kernel) (pa_cons (pe_op opAdd (pe_op op_mul (pv 5) (pe_int)) (pv 4)) (pa_nil))) (pe_int)) (pe_int)) pa_nil))))))))))))
    (pss_cons (ps_if (pt_cmpR (opEq (hu64 hr)) (pe_callB callLen (by rfl) T.b_len (by decide +kernel) (pa_cons (pv 1) pa_nil)) (pe_int) (nomark _)) (pss_one (ps_expr (pe_bm PySem.F.plainAttrs_list PySem.F.slot_list_append PySem.F.type_list_append mt_append (pv 1) (pa_cons (pe_int) pa_nil)))) (pss_nil))
    (pss_one (ps_ret (pv 1))))))
    (xb := xb__law_stream) (rs_seq (rs_asgO (ff_lst (rv_nil)))
    (rs_seq (rs_for (ri_any (rf_sl (rf_var) (ro_none) (ro_some (rf_int)))) (rg_name) (rs_seq (rs_asg (rf_cb pu_abs.rfB (rv_cons (rf_cbp pu_int) (rv_nil))) rg_name)
    (rs_if (rt_test (rf_op pu_ge.rf2 (rf_var) (rf_op pu_pow.rf2 (rf_int) (rf_int)))) (rs_for (ri_rng1 (rf_int)) (rg_name) (rs_seq (rs_drop (rf_append (rf_op pu_mod.rf2 (rf_cbp pu_int) (rf_int))))
    (rs_seq (rs_asg (rf_op pu_div.rf2 (rf_var) (rf_int)) rg_name)
    (rs_if (rt_test (rf_op pu_eq.rf2 (rf_var) (rf_int))) (rs_break) (rs_next))))) (rs_seq (rs_asg (rf_op pu_mod.rf2 (rf_cbp pu_int) (rf_int)) rg_name)
    (rs_for (ri_rng1 (rf_int)) (rg_name) (rs_seq (rs_asg (rf_op pu_mod.rf2 (rf_cb pu_int.rfB (rv_cons (rf_op rf_add (rf_op rf_add (rf_op pu_mul.rf2 (rf_var) (rf_int)) (rf_op pu_mul.rf2 (rf_int) (rf_var))) (rf_int)) (rv_nil))) (rf_int)) rg_name)
    (rs_drop (rf_append (rf_op pu_mod.rf2 (rf_op pu_mod.rf2 (rf_cb pu_int.rfB (rv_cons (rf_op rf_add (rf_op pu_mul.rf2 (rf_var) (rf_int)) (rf_var)) (rv_nil))) (rf_int)) (rf_int))))))))))
    (rs_seq (rs_if (rt_test (rf_op pu_eq.rf2 (rf_cbp pu_len) (rf_int))) (rs_drop (rf_append (rf_int))) (rs_next))
    (rs_ret (rf_var))))))
theorem sc__law_next : FnScope ["state", "many", "turn"] ["state", "many"] (defScope s__law_next) := ⟨rfl, rfl, rfl, by decide +kernel, rfl, by decide +kernel, by decide +kernel⟩
theorem gd__law_next {f : Addr} {fd : FuncData} (T : Txt K mg) (a : At K mg "_law_next" s__law_next ["state", "many"] f fd) : Gd P w K mg base 1 "_law_next" ["state", "many"] x__law_next := by
  exact .mk' a (fn_word (N := ["state", "many", "turn"]) a.F sc__law_next (fun cdv A outer s H E hr =>
    pss_cons (ps_asg (pe_op opAdd (pe_ix ix_seq (pv 0) (pe_int) (fun _ _ => rfl)) (pe_int)) (pg_sub (pv 0) (pe_int) set_list))
    (pss_cons (ps_set (i := 2) sc__law_next.nd rfl (by first | exact Or.inl rfl | exact Or.inr rfl) (pe_op op_fdivN (pe_ix ix_seq (pv 0) (pe_int) (fun _ _ => rfl)) (pe_callB callLen (by rfl) T.b_len (by decide +kernel) (pa_cons (pe_ix ix_seq (pv 0) (pe_int) (fun _ _ => rfl)) (pa_nil)))))
    (pss_one (ps_ret (pe_op op_modN (pe_callTy call_int1 (by rfl) T.b_int (by decide +kernel) (pa_cons (pe_op opAdd (pe_op opAdd (pe_ix ix_seq (pe_ix ix_seq (pv 0) (pe_int) (fun _ _ => rfl)) (pe_op op_modN (pe_ix ix_seq (pv 0) (pe_int) (fun _ _ => rfl)) (pe_callB callLen (by rfl) T.b_len (by decide +kernel) (pa_cons (pe_ix ix_seq (pv 0) (pe_int) (fun _ _ => rfl)) (pa_nil)))) (fun _ _ => rfl)) (pe_op op_mul (pv 2) (pe_int))) (pe_op op_mul (pe_op op_mul (pe_ix ix_seq (pv 0) (pe_int) (fun _ _ => rfl)) (pv 2)) (pe_int))) (pa_nil))) (pv 1))))))
    (xb := xb__law_next) (rs_seq (rs_setIx (rf_int) (rf_op rf_add (rf_ixP (rf_int)) (rf_int)))
    (rs_seq (rs_asg (rf_op pu_div.rf2 (rf_ixP (rf_int)) (rf_cb pu_len.rfB (rv_cons (rf_ixP (rf_int)) (rv_nil)))) rg_name)
    (rs_ret (rf_op pu_mod.rf2 (rf_cb pu_int.rfB (rv_cons (rf_op rf_add (rf_op rf_add (rf_op rf_ix (rf_ixP (rf_int)) (rf_op pu_mod.rf2 (rf_ixP (rf_int)) (rf_cb pu_len.rfB (rv_cons (rf_ixP (rf_int)) (rv_nil))))) (rf_op pu_mul.rf2 (rf_var) (rf_int))) (rf_op pu_mul.rf2 (rf_op pu_mul.rf2 (rf_ixP (rf_int)) (rf_var)) (rf_int))) (rv_nil))) (rf_var))))))
theorem sc__law_ones : FnScope ["state", "many", "rows", "k", "others", "other", "needed"] ["state"] (defScope s__law_ones) := ⟨rfl, rfl, rfl, by decide +kernel, rfl, by decide +kernel, by decide +kernel⟩
theorem gd__law_ones {f : Addr} {fd : FuncData} (T : Txt K mg) (a : At K mg "_law_ones" s__law_ones ["state"] f fd) (g__law_next : Gd P w K mg base 1 "_law_next" ["state", "many"] x__law_next) : Gd P w K mg base 2 "_law_ones" ["state"] x__law_ones := by
  obtain ⟨f__law_next, fd__law_next, m__law_next, k__law_next, b__law_next, G__law_next⟩ := g__law_next
  exact .mk' a (fn_word (N := ["state", "many", "rows", "k", "others", "other", "needed"]) a.F sc__law_ones (fun cdv A outer s H E hr =>
    pss_cons (ps_set (i := 1) sc__law_ones.nd rfl (by first | exact Or.inl rfl | exact Or.inr rfl) (pe_op opAdd (pe_int) (pe_call G__law_next (hr.mono (by decide)) (by rfl) m__law_next k__law_next b__law_next .nil pass0 (pa_cons (pv 0) (pa_cons (pe_int) (pa_nil))))))
    (pss_cons (ps_set (i := 2) sc__law_ones.nd rfl (by first | exact Or.inl rfl | exact Or.inr rfl) (pe_lst (pa_nil)))
    (pss_cons (ps_for PassesOwn.never rfl (pi_range1 (by rfl) T.b_range (pa_cons (pv 1) pa_nil)) (pg_name (i := 3) sc__law_ones.nd rfl (by first | exact Or.inl rfl | exact Or.inr rfl)) (pss_cons (ps_set (i := 4) sc__law_ones.nd rfl (by first | exact Or.inl rfl | exact Or.inr rfl) (pe_callTy call_tuple_of (by rfl) T.b_tuple (by decide +kernel) (pa_cons (pe_lc (own := [(("other" : Str), 5)]) rfl sc__law_ones.nd (pi_range1 (by rfl) T.b_range (pa_cons (pv 1) pa_nil)) (blkOk_by (own := [(("other" : Str), 5)]) (N := ["state", "many", "rows", "k", "others", "other", "needed"]) (sc := defScope s__law_ones) (by decide +kernel)) (fun _ _ _ _ _ => pg_name (i := 5) sc__law_ones.nd rfl (by first | exact Or.inl rfl | exact Or.inr rfl)) (fun _ _ _ _ _ => pts_one (pt_cmpR (opEq (hu64 hr)) (pe_call G__law_next (hr.mono (by decide)) (by rfl) m__law_next k__law_next b__law_next .nil pass0 (pa_cons (pv 0) (pa_cons (pe_int) (pa_nil)))) (pe_int) (nomark _))) (fun _ _ _ _ _ => pv 5)) (pa_nil))))
    (pss_cons (ps_set (i := 6) sc__law_ones.nd rfl (by first | exact Or.inl rfl | exact Or.inr rfl) (pe_callTy call_int1 (by rfl) T.b_int (by decide +kernel) (pa_cons (pe_cmpR op_gt (pe_call G__law_next (hr.mono (by decide)) (by rfl) m__law_next k__law_next b__law_next .nil pass0 (pa_cons (pv 0) (pa_cons (pe_int) (pa_nil)))) (pe_int) (nomark _)) (pa_nil))))
    (pss_one (ps_expr (pe_bm PySem.F.plainAttrs_list PySem.F.slot_list_append PySem.F.type_list_append mt_append (pv 2) (pa_cons (pe_tup (pa_cons (pv 6) (pa_cons (pv 4) (pa_nil)))) pa_nil)))))))
    (pss_one (ps_ret (pe_callTy call_tuple_of (by rfl) T.b_tuple (by decide +kernel) (pa_cons (pv 2) (pa_nil))))))))
    (xb := xb__law_ones) (rs_seq (rs_asg (rf_op rf_add (rf_int) (rf_call (ra_ref (ra_cons (rf_int) (ra_nil))))) rg_name)
    (rs_seq (rs_asgO (ff_lst (rv_nil)))
    (rs_seq (rs_for (ri_rng1 (rf_var)) (rg_name) (rs_seq (rs_asg (rf_cb rb_tuple (rv_cons ((ff_lc (ri_rng1 (rf_var)) (rg_name) (rt_test (rf_op pu_eq.rf2 (rf_call (ra_ref (ra_cons (rf_int) (ra_nil)))) (rf_int))) (rf_var) (by decide)).rf) (rv_nil))) rg_name)
    (rs_seq (rs_asg (rf_cb pu_int.rfB (rv_cons (rf_op pu_gt.rf2 (rf_call (ra_ref (ra_cons (rf_int) (ra_nil)))) (rf_int)) (rv_nil))) rg_name)
    (rs_drop (rf_append (rf_tup (rv_cons (rf_var) (rv_cons (rf_var) (rv_nil)))))))))
    (rs_ret (rf_cb rb_tuple (rv_cons (rf_var) (rv_nil))))))))
theorem sc__law_ways : FnScope ["promises", "number", "found", "line", "way", "other"] ["promises", "number"] (defScope s__law_ways) := ⟨rfl, rfl, rfl, by decide +kernel, rfl, by decide +kernel, by decide +kernel⟩
theorem gd__law_ways {f : Addr} {fd : FuncData} (T : Txt K mg) (a : At K mg "_law_ways" s__law_ways ["promises", "number"] f fd) : Gd P w K mg base 1 "_law_ways" ["promises", "number"] x__law_ways := by
  exact .mk' a (fn_word (N := ["promises", "number", "found", "line", "way", "other"]) a.F sc__law_ways (fun cdv A outer s H E hr =>
    pss_cons (ps_set (i := 2) sc__law_ways.nd rfl (by first | exact Or.inl rfl | exact Or.inr rfl) (pe_lst (pa_nil)))
    (pss_cons (ps_set (i := 3) sc__law_ways.nd rfl (by first | exact Or.inl rfl | exact Or.inr rfl) (pe_lst (pa_cons (pe_tup (pa_cons (pv 1) (pa_nil))) (pa_nil))))
    (pss_cons (ps_while PassesOwn.never (pt_cmpR op_gt (pe_callB callLen (by rfl) T.b_len (by decide +kernel) (pa_cons (pv 3) pa_nil)) (pe_int) (nomark _)) (pss_cons (ps_set (i := 4) sc__law_ways.nd rfl (by first | exact Or.inl rfl | exact Or.inr rfl) (pe_bm0 PySem.F.plainAttrs_list PySem.F.slot_list_pop PySem.F.type_list_pop mt_pop (pv 3)))
    (pss_one (ps_if (pt_cmpR (opEq (hu64 hr)) (pe_ix ix_seq (pe_ix ix_seq (pv 0) (pe_ix ix_seq (pv 4) (pe_un un_neg (pe_int)) (fun _ _ => rfl)) (fun _ _ => rfl)) (pe_int) (fun _ _ => rfl)) (pe_int) (nomark _)) (pss_one (ps_expr (pe_bm PySem.F.plainAttrs_list PySem.F.slot_list_append PySem.F.type_list_append mt_append (pv 2) (pa_cons (pe_callTy call_tuple_of (by rfl) T.b_tuple (by decide +kernel) (pa_cons (pe_callB cr_sortTI (by rfl) T.b_sorted (by decide +kernel) (pa_cons (pv 4) pa_nil)) (pa_nil))) pa_nil)))) (pss_one (ps_expr (pe_bm PySem.F.plainAttrs_list PySem.F.slot_list_extend PySem.F.type_list_extend mt_extend (pv 3) (pa_cons (pe_lc (own := [(("other" : Str), 5)]) rfl sc__law_ways.nd (pi_any (pe_ix ix_seq (pe_ix ix_seq (pv 0) (pe_ix ix_seq (pv 4) (pe_un un_neg (pe_int)) (fun _ _ => rfl)) (fun _ _ => rfl)) (pe_int) (fun _ _ => rfl))) (blkOk_by (own := [(("other" : Str), 5)]) (N := ["promises", "number", "found", "line", "way", "other"]) (sc := defScope s__law_ways) (by decide +kernel)) (fun _ _ _ _ _ => pg_name (i := 5) sc__law_ways.nd rfl (by first | exact Or.inl rfl | exact Or.inr rfl)) (fun _ _ _ _ _ => pts_one (pt_cmpR op_notIn_seq (pv 5) (pv 4) (by rfl))) (fun _ _ _ _ _ => pe_op opAdd (pv 4) (pe_tup (pa_cons (pv 5) (pa_nil))))) pa_nil))))))))
    (pss_one (ps_ret (pv 2))))))
    (xb := xb__law_ways) (rs_seq (rs_asgO (ff_lst (rv_nil)))
    (rs_seq (rs_asgO (ff_lst (rv_cons (rf_tup (rv_cons (rf_var) (rv_nil))) (rv_nil))))
    (rs_seq (rs_while (rt_test (rf_op pu_gt.rf2 (rf_cbp pu_len) (rf_int))) (rs_seq (rs_asg (rf_pop) rg_name)
    (rs_if (rt_test (rf_op pu_eq.rf2 (rf_op rf_ix (rf_ixP (rf_ixP (rf_un pu_neg.rf1 (rf_int)))) (rf_int)) (rf_int))) (rs_drop (rf_append (rf_cb rb_tuple (rv_cons ((ff_cbp fu_sortTI).rf) (rv_nil))))) (rs_drop (rf_extend ((ff_lc (ri_any (rf_op rf_ix (rf_ixP (rf_ixP (rf_un pu_neg.rf1 (rf_int)))) (rf_int))) (rg_name) (rt_test (rf_opR (pu_in (neg := true)) (rf_var))) (rf_op rf_add (rf_var) (rf_tup (rv_cons (rf_var) (rv_nil)))) (by decide)).rf))))))
    (rs_ret (rf_var))))))
theorem sc_check_promise : FnScope ["promises", "promise", "needed", "others", "other"] ["promises", "promise"] (defScope s_check_promise) := ⟨rfl, rfl, rfl, by decide +kernel, rfl, by decide +kernel, by decide +kernel⟩
theorem gd_check_promise {f : Addr} {fd : FuncData} (T : Txt K mg) (a : At K mg "check_promise" s_check_promise ["promises", "promise"] f fd) : Gd P w K mg base 1 "check_promise" ["promises", "promise"] x_check_promise := by
  exact .mk' a (fn_word (N := ["promises", "promise", "needed", "others", "other"]) a.F sc_check_promise (fun cdv A outer s H E hr =>
    pss_cons (ps_asg (pv 1) (pg_tup rfl (pgs_cons (pg_name (i := 2) sc_check_promise.nd rfl (by first | exact Or.inl rfl | exact Or.inr rfl)) (pgs_cons (pg_name (i := 3) sc_check_promise.nd rfl (by first | exact Or.inl rfl | exact Or.inr rfl)) (pgs_nil)))))
    (pss_cons (ps_if (PW.pt (pw_or (pt_cmpR (opNe (hu64 hr)) (pe_callTy call_list_of (by rfl) T.b_list (by decide +kernel) (pa_cons (pv 3) (pa_nil))) (pe_callB (cr_sortedSet rfl) (by rfl) T.b_sorted (by decide +kernel) (pa_cons (pe_callTy (cr_setT rfl) (by rfl) T.b_set (by decide +kernel) (pa_cons (pv 3) pa_nil)) pa_nil)) (nomark _)) (pw_or1 (pt_not (pt_val (pe_callB (cr_all rfl) (by rfl) T.b_all (by decide +kernel) (pa_cons (pe_lc (own := [(("other" : Str), 4)]) rfl sc_check_promise.nd (pi_any (pv 3)) (blkOk_by (own := [(("other" : Str), 4)]) (N := ["promises", "promise", "needed", "others", "other"]) (sc := defScope s_check_promise) (by decide +kernel)) (fun _ _ _ _ _ => pg_name (i := 4) sc_check_promise.nd rfl (by first | exact Or.inl rfl | exact Or.inr rfl)) (fun _ _ _ _ _ => pts_nil) (fun _ _ _ _ _ => pe_chain op_le op_lt (pe_int) (pv 4) (pe_callB callLen (by rfl) T.b_len (by decide +kernel) (pa_cons (pv 0) pa_nil)))) (pa_nil)))))))) (pss_one (ps_never)) (pss_nil))
    (pss_one (ps_if (pt_not (pt_chain op_le op_le (pe_int) (pv 2) (pe_op opAdd (pe_callB callLen (by rfl) T.b_len (by decide +kernel) (pa_cons (pv 3) pa_nil)) (pe_int)))) (pss_one (ps_never)) (pss_nil)))))
    (xb := xb_check_promise) (rs_seq (rs_asg (rf_var) (rg_tup (rgs_cons (rg_name) (rgs_cons (rg_name) (rgs_nil)))))
    (rs_seq (rs_if (rt_or (rt_test (rf_op pu_ne.rf2 ((ff_cb rbf_list (rv_cons (rf_var) (rv_nil))).rf) ((ff_sortSet (rf_var)).rf))) (rt_not (rt_B (rf_cb pu_all.rfB (rv_cons ((ff_lc (ri_any (rf_var)) (rg_name) (rt_yes) (rf_chain pu_le.rf2 pu_lt.rf2 (rf_int) (rf_var) (rf_cbp pu_len)) (by decide)).rf) (rv_nil)))))) (rs_never) (rs_next))
    (rs_if (rt_not (rt_test (rf_chain pu_le.rf2 pu_le.rf2 (rf_int) (rf_var) (rf_op rf_add (rf_cbp pu_len) (rf_int))))) (rs_never) (rs_next)))))
theorem sc_check_promises : FnScope ["promises", "promise"] ["promises"] (defScope s_check_promises) := ⟨rfl, rfl, rfl, by decide +kernel, rfl, by decide +kernel, by decide +kernel⟩
theorem gd_check_promises {f : Addr} {fd : FuncData} (T : Txt K mg) (a : At K mg "check_promises" s_check_promises ["promises"] f fd) (g_check_promise : Gd P w K mg base 1 "check_promise" ["promises", "promise"] x_check_promise) : Gd P w K mg base 2 "check_promises" ["promises"] x_check_promises := by
  obtain ⟨f_check_promise, fd_check_promise, m_check_promise, k_check_promise, b_check_promise, G_check_promise⟩ := g_check_promise
  obtain ⟨t_MAX_PROMISES, h_MAX_PROMISES⟩ := T.c_MAX_PROMISES
  exact .mk' a (fn_word (N := ["promises", "promise"]) a.F sc_check_promises (fun cdv A outer s H E hr =>
    pss_cons (ps_if (pt_cmpR op_gt (pe_callB callLen (by rfl) T.b_len (by decide +kernel) (pa_cons (pv 0) pa_nil)) (pe_glob (v := .int 24) (by rfl) h_MAX_PROMISES ⟨_, rfl⟩) (nomark _)) (pss_one (ps_never)) (pss_nil))
    (pss_one (ps_for PassesOwn.never rfl (pi_any (pv 0)) (pg_name (i := 1) sc_check_promises.nd rfl (by first | exact Or.inl rfl | exact Or.inr rfl)) (pss_one (ps_expr (pe_call G_check_promise (hr.mono (by decide)) (by rfl) m_check_promise k_check_promise b_check_promise .nil pass0 (pa_cons (pv 0) (pa_cons (pv 1) (pa_nil)))))))))
    (xb := xb_check_promises) (rs_seq (rs_if (rt_test (rf_op pu_gt.rf2 (rf_cbp pu_len) (rf_int))) (rs_never) (rs_next))
    (rs_for (ri_any (rf_var)) (rg_name) (rs_drop (rf_call (ra_cons (rf_var) (ra_cons (rf_var) (ra_nil))))))))
theorem sc_rounds_of : FnScope ["promises", "broken", "made", "found", "number", "turn", "going", "fresh", "needed", "others", "other"] ["promises", "broken", "made"] (defScope s_rounds_of) := ⟨rfl, rfl, rfl, by decide +kernel, rfl, by decide +kernel, by decide +kernel⟩
theorem gd_rounds_of {f : Addr} {fd : FuncData} (T : Txt K mg) (a : At K mg "rounds_of" s_rounds_of ["promises", "broken", "made"] f fd) : Gd P w K mg base 1 "rounds_of" ["promises", "broken", "made"] x_rounds_of := by
  exact .mk' a (fn_word (N := ["promises", "broken", "made", "found", "number", "turn", "going", "fresh", "needed", "others", "other"]) a.F sc_rounds_of (fun cdv A outer s H E hr =>
    pss_cons (ps_set (i := 3) sc_rounds_of.nd rfl (by first | exact Or.inl rfl | exact Or.inr rfl) (pe_dc (own := [(("number" : Str), 4)]) rfl sc_rounds_of.nd (pi_any (pv 2)) (blkOk_by (own := [(("number" : Str), 4)]) (N := ["promises", "broken", "made", "found", "number", "turn", "going", "fresh", "needed", "others", "other"]) (sc := defScope s_rounds_of) (by decide +kernel)) (fun _ _ _ _ _ => pg_name (i := 4) sc_rounds_of.nd rfl (by first | exact Or.inl rfl | exact Or.inr rfl)) (fun _ _ _ _ _ => pts_nil) (fun _ _ _ _ _ => pv 4) (fun _ _ _ _ _ => pe_int)))
    (pss_cons (ps_set (i := 5) sc_rounds_of.nd rfl (by first | exact Or.inl rfl | exact Or.inr rfl) (pe_int))
    (pss_cons (ps_set (i := 6) sc_rounds_of.nd rfl (by first | exact Or.inl rfl | exact Or.inr rfl) (pe_bl))
    (pss_cons (ps_while PassesOwn.never (pt_val (pv 6)) (pss_cons (ps_aug (i := 5) sc_rounds_of.nd rfl (by first | exact Or.inl rfl | exact Or.inr rfl) (pe_int) ip_add)
    (pss_cons (ps_set (i := 7) sc_rounds_of.nd rfl (by first | exact Or.inl rfl | exact Or.inr rfl) (pe_lst (pa_nil)))
    (pss_cons (ps_for PassesOwn.never rfl (pi_enumA (by rfl) T.b_enumerate (pa_cons (pv 0) pa_nil)) (pg_tup rfl (pgs_cons (pg_name (i := 4) sc_rounds_of.nd rfl (by first | exact Or.inl rfl | exact Or.inr rfl)) (pgs_cons (pg_tup rfl (pgs_cons (pg_name (i := 8) sc_rounds_of.nd rfl (by first | exact Or.inl rfl | exact Or.inr rfl)) (pgs_cons (pg_name (i := 9) sc_rounds_of.nd rfl (by first | exact Or.inl rfl | exact Or.inr rfl)) (pgs_nil)))) (pgs_nil)))) (pss_cons (ps_if (PW.pt (pw_or (pt_cmp (pc_din (hu_of hr) (pv 4) (pv 3))) (pw_or1 (pt_cmpR op_in_seq (pv 4) (pv 1) (by rfl))))) (pss_one (ps_continue)) (pss_nil))
    (pss_one (ps_if (pt_cmpR op_ge (pe_callB callLen (by rfl) T.b_len (by decide +kernel) (pa_cons (pe_lc (own := [(("other" : Str), 10)]) rfl sc_rounds_of.nd (pi_any (pv 9)) (blkOk_by (own := [(("other" : Str), 10)]) (N := ["promises", "broken", "made", "found", "number", "turn", "going", "fresh", "needed", "others", "other"]) (sc := defScope s_rounds_of) (by decide +kernel)) (fun _ _ _ _ _ => pg_name (i := 10) sc_rounds_of.nd rfl (by first | exact Or.inl rfl | exact Or.inr rfl)) (fun _ _ _ _ _ => pts_one (pt_cmp (pc_din (hu_of hr) (pv 10) (pv 3)))) (fun _ _ _ _ _ => pv 10)) (pa_nil))) (pv 8) (nomark _)) (pss_one (ps_expr (pe_bm PySem.F.plainAttrs_list PySem.F.slot_list_append PySem.F.type_list_append mt_append (pv 7) (pa_cons (pv 4) pa_nil)))) (pss_nil)))))
    (pss_cons (ps_expr (pe_dupd (pv 3) (pe_dc (own := [(("number" : Str), 4)]) rfl sc_rounds_of.nd (pi_any (pv 7)) (blkOk_by (own := [(("number" : Str), 4)]) (N := ["promises", "broken", "made", "found", "number", "turn", "going", "fresh", "needed", "others", "other"]) (sc := defScope s_rounds_of) (by decide +kernel)) (fun _ _ _ _ _ => pg_name (i := 4) sc_rounds_of.nd rfl (by first | exact Or.inl rfl | exact Or.inr rfl)) (fun _ _ _ _ _ => pts_nil) (fun _ _ _ _ _ => pv 4) (fun _ _ _ _ _ => pv 5)) ⟨by rfl, by rfl, by rfl, by rfl⟩))
    (pss_one (ps_set (i := 6) sc_rounds_of.nd rfl (by first | exact Or.inl rfl | exact Or.inr rfl) (pe_cmpR op_gt (pe_callB callLen (by rfl) T.b_len (by decide +kernel) (pa_cons (pv 7) pa_nil)) (pe_int) (nomark _)))))))))
    (pss_one (ps_ret (pv 3)))))))
    (xb := xb_rounds_of) (rs_seq (rs_asgO (ff_dc (ri_any (rf_var)) (rg_name) rt_yes (rf_var) (rf_int) (by decide)))
    (rs_seq (rs_asg (rf_int) rg_name)
    (rs_seq (rs_asg (rf_bl) rg_name)
    (rs_seq (rs_while (rt_B (rf_var)) (rs_seq (rs_aug (fn := fun a b => a + b) (rf_int))
    (rs_seq (rs_asgO (ff_lst (rv_nil)))
    (rs_seq (rs_for (ri_enum (rf_var)) (rg_tup (rgs_cons (rg_name) (rgs_cons (rg_tup (rgs_cons (rg_name) (rgs_cons (rg_name) (rgs_nil)))) (rgs_nil)))) (rs_seq (rs_if (rt_or (rt_B (rf_din (rf_var))) (rt_test (rf_opR (pu_in (neg := false)) (rf_var)))) (rs_cont) (rs_next))
    (rs_if (rt_test (rf_op pu_ge.rf2 (rf_cb pu_len.rfB (rv_cons ((ff_lc (ri_any (rf_var)) (rg_name) (rt_B (rf_din (rf_var))) (rf_var) (by decide)).rf) (rv_nil))) (rf_var))) (rs_drop (rf_append (rf_var))) (rs_next))))
    (rs_seq (rs_drop (rf_dupd ((ff_dc (ri_any (rf_var)) (rg_name) rt_yes (rf_var) (rf_var) (by decide)).rf)))
    (rs_asg (rf_op pu_gt.rf2 (rf_cbp pu_len) (rf_int)) rg_name))))))
    (rs_ret (rf_var)))))))
theorem sc_kept : FnScope ["promises"] ["promises"] (defScope s_kept) := ⟨rfl, rfl, rfl, by decide +kernel, rfl, by decide +kernel, by decide +kernel⟩
theorem gd_kept {f : Addr} {fd : FuncData} (T : Txt K mg) (a : At K mg "kept" s_kept ["promises"] f fd) (g_check_promises : Gd P w K mg base 2 "check_promises" ["promises"] x_check_promises) (g_rounds_of : Gd P w K mg base 1 "rounds_of" ["promises", "broken", "made"] x_rounds_of) : Gd P w K mg base 3 "kept" ["promises"] x_kept := by
  obtain ⟨f_check_promises, fd_check_promises, m_check_promises, k_check_promises, b_check_promises, G_check_promises⟩ := g_check_promises
  obtain ⟨f_rounds_of, fd_rounds_of, m_rounds_of, k_rounds_of, b_rounds_of, G_rounds_of⟩ := g_rounds_of
  exact .mk' a (fn_word (N := ["promises"]) a.F sc_kept (fun cdv A outer s H E hr =>
    pss_cons (ps_expr (pe_call G_check_promises (hr.mono (by decide)) (by rfl) m_check_promises k_check_promises b_check_promises .nil pass0 (pa_cons (pv 0) (pa_nil))))
    (pss_one (ps_ret (pe_callTy call_tuple_of (by rfl) T.b_tuple (by decide +kernel) (pa_cons (pe_callB (callSortD rfl) (by rfl) T.b_sorted (by decide +kernel) (pa_cons (pe_call G_rounds_of (hr.mono (by decide)) (by rfl) m_rounds_of k_rounds_of b_rounds_of .nil pass0 (pa_cons (pv 0) (pa_cons (pe_tup (pa_nil)) (pa_cons (pe_tup (pa_nil)) (pa_nil))))) (pa_nil))) (pa_nil))))))
    (xb := xb_kept) (rs_seq (rs_drop (rf_call (ra_cons (rf_var) (ra_nil))))
    (rs_ret (rf_cb rb_tuple (rv_cons ((ff_cb fu_sortD.rbf (rv_cons (rf_call (ra_cons (rf_var) (ra_cons (rf_tup (rv_nil)) (ra_cons (rf_tup (rv_nil)) (ra_nil))))) (rv_nil))).rf) (rv_nil))))))
theorem sc_rounds : FnScope ["promises", "found", "number"] ["promises"] (defScope s_rounds) := ⟨rfl, rfl, rfl, by decide +kernel, rfl, by decide +kernel, by decide +kernel⟩
theorem gd_rounds {f : Addr} {fd : FuncData} (T : Txt K mg) (a : At K mg "rounds" s_rounds ["promises"] f fd) (g_check_promises : Gd P w K mg base 2 "check_promises" ["promises"] x_check_promises) (g_rounds_of : Gd P w K mg base 1 "rounds_of" ["promises", "broken", "made"] x_rounds_of) : Gd P w K mg base 3 "rounds" ["promises"] x_rounds := by
  obtain ⟨f_check_promises, fd_check_promises, m_check_promises, k_check_promises, b_check_promises, G_check_promises⟩ := g_check_promises
  obtain ⟨f_rounds_of, fd_rounds_of, m_rounds_of, k_rounds_of, b_rounds_of, G_rounds_of⟩ := g_rounds_of
  exact .mk' a (fn_word (N := ["promises", "found", "number"]) a.F sc_rounds (fun cdv A outer s H E hr =>
    pss_cons (ps_expr (pe_call G_check_promises (hr.mono (by decide)) (by rfl) m_check_promises k_check_promises b_check_promises .nil pass0 (pa_cons (pv 0) (pa_nil))))
    (pss_cons (ps_set (i := 1) sc_rounds.nd rfl (by first | exact Or.inl rfl | exact Or.inr rfl) (pe_call G_rounds_of (hr.mono (by decide)) (by rfl) m_rounds_of k_rounds_of b_rounds_of .nil pass0 (pa_cons (pv 0) (pa_cons (pe_tup (pa_nil)) (pa_cons (pe_tup (pa_nil)) (pa_nil))))))
    (pss_one (ps_ret (pe_callTy call_tuple_of (by rfl) T.b_tuple (by decide +kernel) (pa_cons (pe_lc (own := [(("number" : Str), 2)]) rfl sc_rounds.nd (pi_range1 (by rfl) T.b_range (pa_cons (pe_callB callLen (by rfl) T.b_len (by decide +kernel) (pa_cons (pv 0) pa_nil)) pa_nil)) (blkOk_by (own := [(("number" : Str), 2)]) (N := ["promises", "found", "number"]) (sc := defScope s_rounds) (by decide +kernel)) (fun _ _ _ _ _ => pg_name (i := 2) sc_rounds.nd rfl (by first | exact Or.inl rfl | exact Or.inr rfl)) (fun _ _ _ _ _ => pts_nil) (fun _ _ _ _ _ => pe_dget2 (hu_of hr) (pv 1) (pv 2) (pe_int) ⟨by rfl, by rfl, by rfl, by rfl⟩)) (pa_nil)))))))
    (xb := xb_rounds) (rs_seq (rs_drop (rf_call (ra_cons (rf_var) (ra_nil))))
    (rs_seq (rs_asg (rf_call (ra_cons (rf_var) (ra_cons (rf_tup (rv_nil)) (ra_cons (rf_tup (rv_nil)) (ra_nil))))) rg_name)
    (rs_ret (rf_cb rb_tuple (rv_cons ((ff_lc (ri_rng1 (rf_cbp pu_len)) (rg_name) (rt_yes) (rf_dget2 (rf_var) (rf_int)) (by decide)).rf) (rv_nil)))))))
theorem sc__law_least : FnScope ["rows", "found", "far", "row", "one", "less"] ["rows"] (defScope s__law_least) := ⟨rfl, rfl, rfl, by decide +kernel, rfl, by decide +kernel, by decide +kernel⟩
theorem gd__law_least {f : Addr} {fd : FuncData} (T : Txt K mg) (a : At K mg "_law_least" s__law_least ["rows"] f fd) : Gd P w K mg base 1 "_law_least" ["rows"] x__law_least := by
  exact .mk' a (fn_word (N := ["rows", "found", "far", "row", "one", "less"]) a.F sc__law_least (fun cdv A outer s H E hr =>
    pss_cons (ps_set (i := 1) sc__law_least.nd rfl (by first | exact Or.inl rfl | exact Or.inr rfl) (pe_lst (pa_nil)))
    (pss_cons (ps_for PassesOwn.never rfl (pi_any (pe_callB (cr_sortAny hr) (by rfl) T.b_sorted (by decide +kernel) (pa_cons (pe_lc (own := [(("row" : Str), 3)]) rfl sc__law_least.nd (pi_any (pv 0)) (blkOk_by (own := [(("row" : Str), 3)]) (N := ["rows", "found", "far", "row", "one", "less"]) (sc := defScope s__law_least) (by decide +kernel)) (fun _ _ _ _ _ => pg_name (i := 3) sc__law_least.nd rfl (by first | exact Or.inl rfl | exact Or.inr rfl)) (fun _ _ _ _ _ => pts_nil) (fun _ _ _ _ _ => pe_tup (pa_cons (pe_callB callLen (by rfl) T.b_len (by decide +kernel) (pa_cons (pv 3) pa_nil)) (pa_cons (pv 3) (pa_nil))))) (pa_nil)))) (pg_tup rfl (pgs_cons (pg_name (i := 2) sc__law_least.nd rfl (by first | exact Or.inl rfl | exact Or.inr rfl)) (pgs_cons (pg_name (i := 3) sc__law_least.nd rfl (by first | exact Or.inl rfl | exact Or.inr rfl)) (pgs_nil)))) (pss_one (ps_if (pt_not (pt_val (pe_callB (cr_any rfl) (by rfl) T.b_any (by decide +kernel) (pa_cons (pe_lc (own := [(("less" : Str), 5)]) rfl sc__law_least.nd (pi_any (pv 1)) (blkOk_by (own := [(("less" : Str), 5)]) (N := ["rows", "found", "far", "row", "one", "less"]) (sc := defScope s__law_least) (by decide +kernel)) (fun _ _ _ _ _ => pg_name (i := 5) sc__law_least.nd rfl (by first | exact Or.inl rfl | exact Or.inr rfl)) (fun _ _ _ _ _ => pts_nil) (fun _ _ _ _ _ => pe_callB (cr_all rfl) (by rfl) T.b_all (by decide +kernel) (pa_cons (pe_lc (own := [(("one" : Str), 4)]) rfl sc__law_least.nd (pi_any (pv 5)) (blkOk_by (own := [(("one" : Str), 4)]) (N := ["rows", "found", "far", "row", "one", "less"]) (sc := relS _ (defScope s__law_least)) (by decide +kernel)) (fun _ _ _ _ _ => pg_name (i := 4) sc__law_least.nd rfl (by first | exact Or.inl rfl | exact Or.inr rfl)) (fun _ _ _ _ _ => pts_nil) (fun _ _ _ _ _ => pe_cmpR op_in_seq (pv 4) (pv 3) (by rfl))) (pa_nil)))) (pa_nil))))) (pss_one (ps_expr (pe_bm PySem.F.plainAttrs_list PySem.F.slot_list_append PySem.F.type_list_append mt_append (pv 1) (pa_cons (pv 3) pa_nil)))) (pss_nil))))
    (pss_one (ps_ret (pv 1)))))
    (xb := xb__law_least) (rs_seq (rs_asgO (ff_lst (rv_nil)))
    (rs_seq (rs_for (ri_any ((ff_cb rbf_sortAny (rv_cons ((ff_lc (ri_any (rf_var)) (rg_name) (rt_yes) (rf_tup (rv_cons (rf_cbp pu_len) (rv_cons (rf_var) (rv_nil)))) (by decide)).rf) (rv_nil))).rf)) (rg_tup (rgs_cons (rg_name) (rgs_cons (rg_name) (rgs_nil)))) (rs_if (rt_not (rt_B (rf_cb pu_any.rfB (rv_cons ((ff_lcO (rg_name) (rt_yes) (rf_cb pu_all.rfB (rv_cons ((ff_lc (ri_any (rf_var)) (rg_name) (rt_yes) (rf_opR (pu_in (neg := false)) (rf_var)) (by decide)).rf) (rv_nil))) (by decide)).rf) (rv_nil))))) (rs_drop (rf_append (rf_var))) (rs_next)))
    (rs_ret (rf_var)))))
theorem sc_check_number : FnScope ["promises", "number"] ["promises", "number"] (defScope s_check_number) := ⟨rfl, rfl, rfl, by decide +kernel, rfl, by decide +kernel, by decide +kernel⟩
theorem gd_check_number {f : Addr} {fd : FuncData} (T : Txt K mg) (a : At K mg "check_number" s_check_number ["promises", "number"] f fd) : Gd P w K mg base 1 "check_number" ["promises", "number"] x_check_number := by
  exact .mk' a (fn_word (N := ["promises", "number"]) a.F sc_check_number (fun cdv A outer s H E hr =>
    pss_one (ps_if (pt_not (pt_chain op_le op_lt (pe_int) (pv 1) (pe_callB callLen (by rfl) T.b_len (by decide +kernel) (pa_cons (pv 0) pa_nil)))) (pss_one (ps_never)) (pss_nil)))
    (xb := xb_check_number) (rs_if (rt_not (rt_test (rf_chain pu_le.rf2 pu_lt.rf2 (rf_int) (rf_var) (rf_cbp pu_len)))) (rs_never) (rs_next)))
theorem sc_check_few : FnScope ["promises", "number"] ["promises", "number"] (defScope s_check_few) := ⟨rfl, rfl, rfl, by decide +kernel, rfl, by decide +kernel, by decide +kernel⟩
theorem gd_check_few {f : Addr} {fd : FuncData} (T : Txt K mg) (a : At K mg "check_few" s_check_few ["promises", "number"] f fd) (g_check_promises : Gd P w K mg base 2 "check_promises" ["promises"] x_check_promises) (g_check_number : Gd P w K mg base 1 "check_number" ["promises", "number"] x_check_number) : Gd P w K mg base 3 "check_few" ["promises", "number"] x_check_few := by
  obtain ⟨f_check_promises, fd_check_promises, m_check_promises, k_check_promises, b_check_promises, G_check_promises⟩ := g_check_promises
  obtain ⟨f_check_number, fd_check_number, m_check_number, k_check_number, b_check_number, G_check_number⟩ := g_check_number
  obtain ⟨t_MAX_HUNG, h_MAX_HUNG⟩ := T.c_MAX_HUNG
  exact .mk' a (fn_word (N := ["promises", "number"]) a.F sc_check_few (fun cdv A outer s H E hr =>
    pss_cons (ps_expr (pe_call G_check_promises (hr.mono (by decide)) (by rfl) m_check_promises k_check_promises b_check_promises .nil pass0 (pa_cons (pv 0) (pa_nil))))
    (pss_cons (ps_expr (pe_call G_check_number (hr.mono (by decide)) (by rfl) m_check_number k_check_number b_check_number .nil pass0 (pa_cons (pv 0) (pa_cons (pv 1) (pa_nil)))))
    (pss_one (ps_if (pt_cmpR op_gt (pe_callB callLen (by rfl) T.b_len (by decide +kernel) (pa_cons (pv 0) pa_nil)) (pe_glob (v := .int 9) (by rfl) h_MAX_HUNG ⟨_, rfl⟩) (nomark _)) (pss_one (ps_never)) (pss_nil)))))
    (xb := xb_check_few) (rs_seq (rs_drop (rf_call (ra_cons (rf_var) (ra_nil))))
    (rs_seq (rs_drop (rf_call (ra_cons (rf_var) (ra_cons (rf_var) (ra_nil)))))
    (rs_if (rt_test (rf_op pu_gt.rf2 (rf_cbp pu_len) (rf_int))) (rs_never) (rs_next)))))
theorem sc_subsets : FnScope ["count", "rows", "k", "number"] ["count"] (defScope s_subsets) := ⟨rfl, rfl, rfl, by decide +kernel, rfl, by decide +kernel, by decide +kernel⟩
theorem gd_subsets {f : Addr} {fd : FuncData} (T : Txt K mg) (a : At K mg "subsets" s_subsets ["count"] f fd) (TS : TabD K mg base "subsets" fd) : Gd P w K mg base 1 "subsets" ["count"] x_subsets := by
  exact .mk' a (fn_wordT (N := ["count", "rows", "k", "number"]) TS a.F sc_subsets (fun cd Pt A outer s H E hr tb hcd hin one =>
    pss_cons (ps_setLc (i := 1) (own := [(("number" : Str), 3)]) rfl sc_subsets.nd rfl rfl (sw_true rfl rfl rfl (by decide +kernel)) (pi_range1 (by rfl) T.b_range (pa_cons (pe_op op_shl (pe_int) (pv 0)) pa_nil)) (blkOk_by (own := [(("number" : Str), 3)]) (N := ["count", "rows", "k", "number"]) (sc := defScope s_subsets) (by decide +kernel)) (fun _ _ _ _ _ => pg_name (i := 3) sc_subsets.nd rfl (by first | exact Or.inl rfl | exact Or.inr rfl)) (fun _ _ _ _ _ => pts_nil) (fun _ _ _ _ _ => pe_callTy call_tuple_of (by rfl) T.b_tuple (by decide +kernel) (pa_cons (pe_lc (own := [(("k" : Str), 2)]) rfl sc_subsets.nd (pi_range1 (by rfl) T.b_range (pa_cons (pv 0) pa_nil)) (blkOk_by (own := [(("k" : Str), 2)]) (N := ["count", "rows", "k", "number"]) (sc := relS _ (defScope s_subsets)) (by decide +kernel)) (fun _ _ _ _ _ => pg_name (i := 2) sc_subsets.nd rfl (by first | exact Or.inl rfl | exact Or.inr rfl)) (fun _ _ _ _ _ => pts_one (pt_truth (pe_op op_and (pe_op op_shr (pv 3) (pv 2)) (pe_int)) (by intro _; rfl))) (fun _ _ _ _ _ => pv 2)) (pa_nil))))
    (pss_one (ps_ret (pe_sortA (pv 1) hr (by rfl) T.b_sorted T.b_len tb hcd hin one rfl rfl rfl (by decide +kernel) rfl rfl rfl (fun _ _ _ _ _ _ _ => rfl)))))
    (xb := xb_subsets) (rs_seq (rs_asg (ff_lc (ri_rng1 (rf_op pu_shl.rf2 (rf_int) (rf_var))) (rg_name) (rt_yes) (rf_cb rb_tuple (rv_cons ((ff_lc (ri_rng1 (rf_var)) (rg_name) (rt_truth (rf_op pu_band.rf2 (rf_op pu_shr.rf2 (rf_var) (rf_var)) (rf_int))) (rf_var) (by decide)).rf) (rv_nil))) (by decide)).rf rg_name)
    (rs_ret ((ff_sortA (rf_var)).rf))))
theorem sc_least_of : FnScope ["rows", "found", "row", "one", "less"] ["rows"] (defScope s_least_of) := ⟨rfl, rfl, rfl, by decide +kernel, rfl, by decide +kernel, by decide +kernel⟩
theorem gd_least_of {f : Addr} {fd : FuncData} (T : Txt K mg) (a : At K mg "least_of" s_least_of ["rows"] f fd) : Gd P w K mg base 1 "least_of" ["rows"] x_least_of := by
  exact .mk' a (fn_word (N := ["rows", "found", "row", "one", "less"]) a.F sc_least_of (fun cdv A outer s H E hr =>
    pss_cons (ps_set (i := 1) sc_least_of.nd rfl (by first | exact Or.inl rfl | exact Or.inr rfl) (pe_lst (pa_nil)))
    (pss_cons (ps_for PassesOwn.never rfl (pi_any (pv 0)) (pg_name (i := 2) sc_least_of.nd rfl (by first | exact Or.inl rfl | exact Or.inr rfl)) (pss_one (ps_if (pt_not (pt_val (pe_callB (cr_any rfl) (by rfl) T.b_any (by decide +kernel) (pa_cons (pe_lc (own := [(("less" : Str), 4)]) rfl sc_least_of.nd (pi_any (pv 1)) (blkOk_by (own := [(("less" : Str), 4)]) (N := ["rows", "found", "row", "one", "less"]) (sc := defScope s_least_of) (by decide +kernel)) (fun _ _ _ _ _ => pg_name (i := 4) sc_least_of.nd rfl (by first | exact Or.inl rfl | exact Or.inr rfl)) (fun _ _ _ _ _ => pts_nil) (fun _ _ _ _ _ => pe_callB (cr_all rfl) (by rfl) T.b_all (by decide +kernel) (pa_cons (pe_lc (own := [(("one" : Str), 3)]) rfl sc_least_of.nd (pi_any (pv 4)) (blkOk_by (own := [(("one" : Str), 3)]) (N := ["rows", "found", "row", "one", "less"]) (sc := relS _ (defScope s_least_of)) (by decide +kernel)) (fun _ _ _ _ _ => pg_name (i := 3) sc_least_of.nd rfl (by first | exact Or.inl rfl | exact Or.inr rfl)) (fun _ _ _ _ _ => pts_nil) (fun _ _ _ _ _ => pe_cmpR op_in_seq (pv 3) (pv 2) (by rfl))) (pa_nil)))) (pa_nil))))) (pss_one (ps_expr (pe_bm PySem.F.plainAttrs_list PySem.F.slot_list_append PySem.F.type_list_append mt_append (pv 1) (pa_cons (pv 2) pa_nil)))) (pss_nil))))
    (pss_one (ps_ret (pv 1)))))
    (xb := xb_least_of) (rs_seq (rs_asgO (ff_lst (rv_nil)))
    (rs_seq (rs_for (ri_any (rf_var)) (rg_name) (rs_if (rt_not (rt_B (rf_cb pu_any.rfB (rv_cons ((ff_lcO (rg_name) (rt_yes) (rf_cb pu_all.rfB (rv_cons ((ff_lc (ri_any (rf_var)) (rg_name) (rt_yes) (rf_opR (pu_in (neg := false)) (rf_var)) (by decide)).rf) (rv_nil))) (by decide)).rf) (rv_nil))))) (rs_drop (rf_append (rf_var))) (rs_next)))
    (rs_ret (rf_var)))))
theorem sc_least_keepers : FnScope ["promises", "number", "found", "row", "rest", "other"] ["promises", "number"] (defScope s_least_keepers) := ⟨rfl, rfl, rfl, by decide +kernel, rfl, by decide +kernel, by decide +kernel⟩
theorem gd_least_keepers {f : Addr} {fd : FuncData} (T : Txt K mg) (a : At K mg "least_keepers" s_least_keepers ["promises", "number"] f fd) (g_check_few : Gd P w K mg base 3 "check_few" ["promises", "number"] x_check_few) (g_subsets : Gd P w K mg base 1 "subsets" ["count"] x_subsets) (g_rounds_of : Gd P w K mg base 1 "rounds_of" ["promises", "broken", "made"] x_rounds_of) (g_least_of : Gd P w K mg base 1 "least_of" ["rows"] x_least_of) : Gd P w K mg base 4 "least_keepers" ["promises", "number"] x_least_keepers := by
  obtain ⟨f_check_few, fd_check_few, m_check_few, k_check_few, b_check_few, G_check_few⟩ := g_check_few
  obtain ⟨f_subsets, fd_subsets, m_subsets, k_subsets, b_subsets, G_subsets⟩ := g_subsets
  obtain ⟨f_rounds_of, fd_rounds_of, m_rounds_of, k_rounds_of, b_rounds_of, G_rounds_of⟩ := g_rounds_of
  obtain ⟨f_least_of, fd_least_of, m_least_of, k_least_of, b_least_of, G_least_of⟩ := g_least_of
  exact .mk' a (fn_word (N := ["promises", "number", "found", "row", "rest", "other"]) a.F sc_least_keepers (fun cdv A outer s H E hr =>
    pss_cons (ps_expr (pe_call G_check_few (hr.mono (by decide)) (by rfl) m_check_few k_check_few b_check_few .nil pass0 (pa_cons (pv 0) (pa_cons (pv 1) (pa_nil)))))
    (pss_cons (ps_set (i := 2) sc_least_keepers.nd rfl (by first | exact Or.inl rfl | exact Or.inr rfl) (pe_lst (pa_nil)))
    (pss_cons (ps_for PassesOwn.never rfl (pi_any (pe_call G_subsets (hr.mono (by decide)) (by rfl) m_subsets k_subsets b_subsets .nil pass0 (pa_cons (pe_callB callLen (by rfl) T.b_len (by decide +kernel) (pa_cons (pv 0) pa_nil)) (pa_nil)))) (pg_name (i := 3) sc_least_keepers.nd rfl (by first | exact Or.inl rfl | exact Or.inr rfl)) (pss_cons (ps_set (i := 4) sc_least_keepers.nd rfl (by first | exact Or.inl rfl | exact Or.inr rfl) (pe_callTy call_tuple_of (by rfl) T.b_tuple (by decide +kernel) (pa_cons (pe_lc (own := [(("other" : Str), 5)]) rfl sc_least_keepers.nd (pi_range1 (by rfl) T.b_range (pa_cons (pe_callB callLen (by rfl) T.b_len (by decide +kernel) (pa_cons (pv 0) pa_nil)) pa_nil)) (blkOk_by (own := [(("other" : Str), 5)]) (N := ["promises", "number", "found", "row", "rest", "other"]) (sc := defScope s_least_keepers) (by decide +kernel)) (fun _ _ _ _ _ => pg_name (i := 5) sc_least_keepers.nd rfl (by first | exact Or.inl rfl | exact Or.inr rfl)) (fun _ _ _ _ _ => pts_one (pt_cmpR op_notIn_seq (pv 5) (pv 3) (by rfl))) (fun _ _ _ _ _ => pv 5)) (pa_nil))))
    (pss_one (ps_if (PW.pt (pw_and (pt_cmpR op_in_seq (pv 1) (pv 3) (by rfl)) (pw_and1 (pt_cmp (pc_din (hu_of hr) (pv 1) (pe_call G_rounds_of (hr.mono (by decide)) (by rfl) m_rounds_of k_rounds_of b_rounds_of .nil pass0 (pa_cons (pv 0) (pa_cons (pv 4) (pa_cons (pe_tup (pa_nil)) (pa_nil)))))))))) (pss_one (ps_expr (pe_bm PySem.F.plainAttrs_list PySem.F.slot_list_append PySem.F.type_list_append mt_append (pv 2) (pa_cons (pv 3) pa_nil)))) (pss_nil)))))
    (pss_one (ps_ret (pe_call G_least_of (hr.mono (by decide)) (by rfl) m_least_of k_least_of b_least_of .nil pass0 (pa_cons (pv 2) (pa_nil))))))))
    (xb := xb_least_keepers) (rs_seq (rs_drop (rf_call (ra_cons (rf_var) (ra_cons (rf_var) (ra_nil)))))
    (rs_seq (rs_asgO (ff_lst (rv_nil)))
    (rs_seq (rs_for (ri_any (rf_call (ra_cons (rf_cbp pu_len) (ra_nil)))) (rg_name) (rs_seq (rs_asg (rf_cb rb_tuple (rv_cons ((ff_lc (ri_rng1 (rf_cbp pu_len)) (rg_name) (rt_test (rf_opR (pu_in (neg := true)) (rf_var))) (rf_var) (by decide)).rf) (rv_nil))) rg_name)
    (rs_if (rt_and (rt_test (rf_opR (pu_in (neg := false)) (rf_var))) (rt_B (rf_dinE (rf_var) (rf_call (ra_cons (rf_var) (ra_cons (rf_var) (ra_cons (rf_tup (rv_nil)) (ra_nil)))))))) (rs_drop (rf_append (rf_var))) (rs_next))))
    (rs_ret (rf_call (ra_cons (rf_var) (ra_nil))))))))
theorem sc__law_subsets : FnScope ["row", "found", "one", "some", "size"] ["row"] (defScope s__law_subsets) := ⟨rfl, rfl, rfl, by decide +kernel, rfl, by decide +kernel, by decide +kernel⟩
theorem gd__law_subsets {f : Addr} {fd : FuncData} (T : Txt K mg) (a : At K mg "_law_subsets" s__law_subsets ["row"] f fd) : Gd P w K mg base 1 "_law_subsets" ["row"] x__law_subsets := by
  exact .mk' a (fn_word (N := ["row", "found", "one", "some", "size"]) a.F sc__law_subsets (fun cdv A outer s H E hr =>
    pss_cons (ps_set (i := 1) sc__law_subsets.nd rfl (by first | exact Or.inl rfl | exact Or.inr rfl) (pe_lst (pa_cons (pe_tup (pa_nil)) (pa_nil))))
    (pss_cons (ps_for PassesOwn.never rfl (pi_any (pv 0)) (pg_name (i := 2) sc__law_subsets.nd rfl (by first | exact Or.inl rfl | exact Or.inr rfl)) (pss_one (ps_set (i := 1) sc__law_subsets.nd rfl (by first | exact Or.inl rfl | exact Or.inr rfl) (pe_op opAdd (pv 1) (pe_lc (own := [(("some" : Str), 3)]) rfl sc__law_subsets.nd (pi_any (pv 1)) (blkOk_by (own := [(("some" : Str), 3)]) (N := ["row", "found", "one", "some", "size"]) (sc := defScope s__law_subsets) (by decide +kernel)) (fun _ _ _ _ _ => pg_name (i := 3) sc__law_subsets.nd rfl (by first | exact Or.inl rfl | exact Or.inr rfl)) (fun _ _ _ _ _ => pts_nil) (fun _ _ _ _ _ => pe_op opAdd (pv 3) (pe_tup (pa_cons (pv 2) (pa_nil)))))))))
    (pss_one (ps_ret (pe_lc (own := [(("size" : Str), 4), (("some" : Str), 3)]) rfl sc__law_subsets.nd (pi_any (pe_callB (cr_sortAny hr) (by rfl) T.b_sorted (by decide +kernel) (pa_cons (pe_lc (own := [(("some" : Str), 3)]) rfl sc__law_subsets.nd (pi_any (pv 1)) (blkOk_by (own := [(("some" : Str), 3)]) (N := ["row", "found", "one", "some", "size"]) (sc := defScope s__law_subsets) (by decide +kernel)) (fun _ _ _ _ _ => pg_name (i := 3) sc__law_subsets.nd rfl (by first | exact Or.inl rfl | exact Or.inr rfl)) (fun _ _ _ _ _ => pts_nil) (fun _ _ _ _ _ => pe_tup (pa_cons (pe_callB callLen (by rfl) T.b_len (by decide +kernel) (pa_cons (pv 3) pa_nil)) (pa_cons (pv 3) (pa_nil))))) (pa_nil)))) (blkOk_by (own := [(("size" : Str), 4), (("some" : Str), 3)]) (N := ["row", "found", "one", "some", "size"]) (sc := defScope s__law_subsets) (by decide +kernel)) (fun _ _ _ _ _ => pg_tup rfl (pgs_cons (pg_name (i := 4) sc__law_subsets.nd rfl (by first | exact Or.inl rfl | exact Or.inr rfl)) (pgs_cons (pg_name (i := 3) sc__law_subsets.nd rfl (by first | exact Or.inl rfl | exact Or.inr rfl)) (pgs_nil)))) (fun _ _ _ _ _ => pts_nil) (fun _ _ _ _ _ => pv 3))))))
    (xb := xb__law_subsets) (rs_seq (rs_asg ((ff_lst (rv_cons (rf_tup (rv_nil)) (rv_nil))).rf) rg_name)
    (rs_seq (rs_for (ri_any (rf_var)) (rg_name) (rs_asg (rf_op rf_add (rf_var) ((ff_lc (ri_any (rf_var)) (rg_name) (rt_yes) (rf_op rf_add (rf_var) (rf_tup (rv_cons (rf_var) (rv_nil)))) (by decide)).rf)) rg_name))
    (rs_ret ((ff_lc (ri_any ((ff_cb rbf_sortAny (rv_cons ((ff_lc (ri_any (rf_var)) (rg_name) (rt_yes) (rf_tup (rv_cons (rf_cbp pu_len) (rv_cons (rf_var) (rv_nil)))) (by decide)).rf) (rv_nil))).rf)) (rg_tup (rgs_cons (rg_name) (rgs_cons (rg_name) (rgs_nil)))) (rt_yes) (rf_var) (by decide)).rf)))))
theorem sc_least_breakers : FnScope ["promises", "number", "rows", "row"] ["promises", "number"] (defScope s_least_breakers) := ⟨rfl, rfl, rfl, by decide +kernel, rfl, by decide +kernel, by decide +kernel⟩
theorem gd_least_breakers {f : Addr} {fd : FuncData} (T : Txt K mg) (a : At K mg "least_breakers" s_least_breakers ["promises", "number"] f fd) (g_check_few : Gd P w K mg base 3 "check_few" ["promises", "number"] x_check_few) (g_subsets : Gd P w K mg base 1 "subsets" ["count"] x_subsets) (g_least_of : Gd P w K mg base 1 "least_of" ["rows"] x_least_of) (g_rounds_of : Gd P w K mg base 1 "rounds_of" ["promises", "broken", "made"] x_rounds_of) : Gd P w K mg base 4 "least_breakers" ["promises", "number"] x_least_breakers := by
  obtain ⟨f_check_few, fd_check_few, m_check_few, k_check_few, b_check_few, G_check_few⟩ := g_check_few
  obtain ⟨f_subsets, fd_subsets, m_subsets, k_subsets, b_subsets, G_subsets⟩ := g_subsets
  obtain ⟨f_least_of, fd_least_of, m_least_of, k_least_of, b_least_of, G_least_of⟩ := g_least_of
  obtain ⟨f_rounds_of, fd_rounds_of, m_rounds_of, k_rounds_of, b_rounds_of, G_rounds_of⟩ := g_rounds_of
  exact .mk' a (fn_word (N := ["promises", "number", "rows", "row"]) a.F sc_least_breakers (fun cdv A outer s H E hr =>
    pss_cons (ps_expr (pe_call G_check_few (hr.mono (by decide)) (by rfl) m_check_few k_check_few b_check_few .nil pass0 (pa_cons (pv 0) (pa_cons (pv 1) (pa_nil)))))
    (pss_cons (ps_setLc (i := 2) (own := [(("row" : Str), 3)]) rfl sc_least_breakers.nd rfl rfl (sw_true rfl rfl rfl (by decide +kernel)) (pi_any (pe_call G_subsets (hr.mono (by decide)) (by rfl) m_subsets k_subsets b_subsets .nil pass0 (pa_cons (pe_callB callLen (by rfl) T.b_len (by decide +kernel) (pa_cons (pv 0) pa_nil)) (pa_nil)))) (blkOk_by (own := [(("row" : Str), 3)]) (N := ["promises", "number", "rows", "row"]) (sc := defScope s_least_breakers) (by decide +kernel)) (fun _ _ _ _ _ => pg_name (i := 3) sc_least_breakers.nd rfl (by first | exact Or.inl rfl | exact Or.inr rfl)) (fun _ _ _ _ _ => pts_one (pt_cmpR op_notIn_seq (pv 1) (pv 3) (by rfl))) (fun _ _ _ _ _ => pv 3))
    (pss_one (ps_ret (pe_call G_least_of (hr.mono (by decide)) (by rfl) m_least_of k_least_of b_least_of .nil pass0 (pa_cons (pe_lc (own := [(("row" : Str), 3)]) rfl sc_least_breakers.nd (pi_any (pv 2)) (blkOk_by (own := [(("row" : Str), 3)]) (N := ["promises", "number", "rows", "row"]) (sc := defScope s_least_breakers) (by decide +kernel)) (fun _ _ _ _ _ => pg_name (i := 3) sc_least_breakers.nd rfl (by first | exact Or.inl rfl | exact Or.inr rfl)) (fun _ _ _ _ _ => pts_one (pt_cmp (pc_dnotin (hu_of hr) (pv 1) (pe_call G_rounds_of (hr.mono (by decide)) (by rfl) m_rounds_of k_rounds_of b_rounds_of .nil pass0 (pa_cons (pv 0) (pa_cons (pv 3) (pa_cons (pe_tup (pa_nil)) (pa_nil)))))))) (fun _ _ _ _ _ => pv 3)) (pa_nil)))))))
    (xb := xb_least_breakers) (rs_seq (rs_drop (rf_call (ra_cons (rf_var) (ra_cons (rf_var) (ra_nil)))))
    (rs_seq (rs_asg (ff_lc (ri_any (rf_call (ra_cons (rf_cbp pu_len) (ra_nil)))) (rg_name) (rt_test (rf_opR (pu_in (neg := true)) (rf_var))) (rf_var) (by decide)).rf rg_name)
    (rs_ret (rf_call (ra_cons ((ff_lc (ri_any (rf_var)) (rg_name) (rt_B (rf_dnotinE (rf_var) (rf_call (ra_cons (rf_var) (ra_cons (rf_var) (ra_cons (rf_tup (rv_nil)) (ra_nil))))))) (rf_var) (by decide)).rf) (ra_nil)))))))
theorem sc_is_order : FnScope ["promises", "row", "done", "number", "needed", "others", "other"] ["promises", "row"] (defScope s_is_order) := ⟨rfl, rfl, rfl, by decide +kernel, rfl, by decide +kernel, by decide +kernel⟩
theorem gd_is_order {f : Addr} {fd : FuncData} (T : Txt K mg) (a : At K mg "is_order" s_is_order ["promises", "row"] f fd) (g_check_promises : Gd P w K mg base 2 "check_promises" ["promises"] x_check_promises) : Gd P w K mg base 3 "is_order" ["promises", "row"] x_is_order := by
  obtain ⟨f_check_promises, fd_check_promises, m_check_promises, k_check_promises, b_check_promises, G_check_promises⟩ := g_check_promises
  exact .mk' a (fn_word (N := ["promises", "row", "done", "number", "needed", "others", "other"]) a.F sc_is_order (fun cdv A outer s H E hr =>
    pss_cons (ps_expr (pe_call G_check_promises (hr.mono (by decide)) (by rfl) m_check_promises k_check_promises b_check_promises .nil pass0 (pa_cons (pv 0) (pa_nil))))
    (pss_cons (ps_set (i := 2) sc_is_order.nd rfl (by first | exact Or.inl rfl | exact Or.inr rfl) (pe_dnewK))
    (pss_cons (ps_for PassesOwn.never rfl (pi_any (pv 1)) (pg_name (i := 3) sc_is_order.nd rfl (by first | exact Or.inl rfl | exact Or.inr rfl)) (pss_cons (ps_if (PW.pt (pw_or (pt_not (pt_chain op_le op_lt (pe_int) (pv 3) (pe_callB callLen (by rfl) T.b_len (by decide +kernel) (pa_cons (pv 0) pa_nil)))) (pw_or1 (pt_cmp (pc_din (hu_of hr) (pv 3) (pv 2)))))) (pss_one (ps_ret (pe_bl))) (pss_nil))
    (pss_cons (ps_asg (pe_ix ix_seq (pv 0) (pv 3) (fun _ _ => rfl)) (pg_tup rfl (pgs_cons (pg_name (i := 4) sc_is_order.nd rfl (by first | exact Or.inl rfl | exact Or.inr rfl)) (pgs_cons (pg_name (i := 5) sc_is_order.nd rfl (by first | exact Or.inl rfl | exact Or.inr rfl)) (pgs_nil)))))
    (pss_cons (ps_if (pt_cmpR op_lt (pe_callB callLen (by rfl) T.b_len (by decide +kernel) (pa_cons (pe_lc (own := [(("other" : Str), 6)]) rfl sc_is_order.nd (pi_any (pv 5)) (blkOk_by (own := [(("other" : Str), 6)]) (N := ["promises", "row", "done", "number", "needed", "others", "other"]) (sc := defScope s_is_order) (by decide +kernel)) (fun _ _ _ _ _ => pg_name (i := 6) sc_is_order.nd rfl (by first | exact Or.inl rfl | exact Or.inr rfl)) (fun _ _ _ _ _ => pts_one (pt_cmp (pc_din (hu_of hr) (pv 6) (pv 2)))) (fun _ _ _ _ _ => pv 6)) (pa_nil))) (pv 4) (nomark _)) (pss_one (ps_ret (pe_bl))) (pss_nil))
    (pss_one (ps_dput (hu_of hr) (pv 2) (pv 3) (pe_bl) rfl))))))
    (pss_one (ps_ret (pe_bl))))))
    (xb := xb_is_order) (rs_seq (rs_drop (rf_call (ra_cons (rf_var) (ra_nil))))
    (rs_seq (rs_asgO (ff_dnewK))
    (rs_seq (rs_for (ri_any (rf_var)) (rg_name) (rs_seq (rs_if (rt_or (rt_not (rt_test (rf_chain pu_le.rf2 pu_lt.rf2 (rf_int) (rf_var) (rf_cbp pu_len)))) (rt_B (rf_din (rf_var)))) (rs_ret (rf_bl)) (rs_next))
    (rs_seq (rs_asg (rf_ixP (rf_var)) (rg_tup (rgs_cons (rg_name) (rgs_cons (rg_name) (rgs_nil)))))
    (rs_seq (rs_if (rt_test (rf_op pu_lt.rf2 (rf_cb pu_len.rfB (rv_cons ((ff_lc (ri_any (rf_var)) (rg_name) (rt_B (rf_din (rf_var))) (rf_var) (by decide)).rf) (rv_nil))) (rf_var))) (rs_ret (rf_bl)) (rs_next))
    (rs_dput (rf_var) (rf_bl))))))
    (rs_ret (rf_bl))))))
theorem sc_order_to : FnScope ["promises", "number", "found", "row", "other", "rest", "one"] ["promises", "number"] (defScope s_order_to) := ⟨rfl, rfl, rfl, by decide +kernel, rfl, by decide +kernel, by decide +kernel⟩
theorem gd_order_to {f : Addr} {fd : FuncData} (T : Txt K mg) (a : At K mg "order_to" s_order_to ["promises", "number"] f fd) (TS : TabD K mg base "order_to" fd) (g_check_promises : Gd P w K mg base 2 "check_promises" ["promises"] x_check_promises) (g_check_number : Gd P w K mg base 1 "check_number" ["promises", "number"] x_check_number) (g_rounds_of : Gd P w K mg base 1 "rounds_of" ["promises", "broken", "made"] x_rounds_of) (g_is_order : Gd P w K mg base 3 "is_order" ["promises", "row"] x_is_order) : Gd P w K mg base 4 "order_to" ["promises", "number"] x_order_to := by
  obtain ⟨f_check_promises, fd_check_promises, m_check_promises, k_check_promises, b_check_promises, G_check_promises⟩ := g_check_promises
  obtain ⟨f_check_number, fd_check_number, m_check_number, k_check_number, b_check_number, G_check_number⟩ := g_check_number
  obtain ⟨f_rounds_of, fd_rounds_of, m_rounds_of, k_rounds_of, b_rounds_of, G_rounds_of⟩ := g_rounds_of
  obtain ⟨f_is_order, fd_is_order, m_is_order, k_is_order, b_is_order, G_is_order⟩ := g_is_order
  exact .mk' a (fn_wordT (N := ["promises", "number", "found", "row", "other", "rest", "one"]) TS a.F sc_order_to (fun cd Pt A outer s H E hr tb hcd hin one =>
    pss_cons (ps_expr (pe_call G_check_promises (hr.mono (by decide)) (by rfl) m_check_promises k_check_promises b_check_promises .nil pass0 (pa_cons (pv 0) (pa_nil))))
    (pss_cons (ps_expr (pe_call G_check_number (hr.mono (by decide)) (by rfl) m_check_number k_check_number b_check_number .nil pass0 (pa_cons (pv 0) (pa_cons (pv 1) (pa_nil)))))
    (pss_cons (ps_set (i := 2) sc_order_to.nd rfl (by first | exact Or.inl rfl | exact Or.inr rfl) (pe_call G_rounds_of (hr.mono (by decide)) (by rfl) m_rounds_of k_rounds_of b_rounds_of .nil pass0 (pa_cons (pv 0) (pa_cons (pe_tup (pa_nil)) (pa_cons (pe_tup (pa_nil)) (pa_nil))))))
    (pss_cons (ps_if (pt_cmp (pc_dnotin (hu_of hr) (pv 1) (pv 2))) (pss_one (ps_never)) (pss_nil))
    (pss_cons (ps_set (i := 3) sc_order_to.nd rfl (by first | exact Or.inl rfl | exact Or.inr rfl) (pe_sortB (i := 2) (pv 2) rfl hr (by rfl) T.b_sorted tb hcd hin one rfl rfl rfl rfl rfl rfl (by decide +kernel) (by decide +kernel) rfl rfl rfl rfl rfl rfl rfl (fun _ _ _ _ _ _ _ => rfl)))
    (pss_cons (ps_set (i := 3) sc_order_to.nd rfl (by first | exact Or.inl rfl | exact Or.inr rfl) (pe_slice slAny (pv 3) (po_none) (po_some (pe_op opAdd (pe_bm PySem.F.plainAttrs_list PySem.F.slot_list_index PySem.F.type_list_index mt_index (pv 3) (pa_cons (pv 1) pa_nil)) (pe_int)))))
    (pss_cons (ps_for PassesOwn.never rfl (pi_any (pe_revB (pv 3))) (pg_name (i := 4) sc_order_to.nd rfl (by first | exact Or.inl rfl | exact Or.inr rfl)) (pss_cons (ps_setLc (i := 5) (own := [(("one" : Str), 6)]) rfl sc_order_to.nd rfl rfl (sw_true rfl rfl rfl (by decide +kernel)) (pi_any (pv 3)) (blkOk_by (own := [(("one" : Str), 6)]) (N := ["promises", "number", "found", "row", "other", "rest", "one"]) (sc := defScope s_order_to) (by decide +kernel)) (fun _ _ _ _ _ => pg_name (i := 6) sc_order_to.nd rfl (by first | exact Or.inl rfl | exact Or.inr rfl)) (fun _ _ _ _ _ => pts_one (pt_cmpR (opNe (hu64 hr)) (pv 6) (pv 4) (nomark _))) (fun _ _ _ _ _ => pv 6))
    (pss_one (ps_if (pt_val (pe_call G_is_order (hr.mono (by decide)) (by rfl) m_is_order k_is_order b_is_order .nil pass0 (pa_cons (pv 0) (pa_cons (pv 5) (pa_nil))))) (pss_one (ps_set (i := 3) sc_order_to.nd rfl (by first | exact Or.inl rfl | exact Or.inr rfl) (pv 5))) (pss_nil)))))
    (pss_one (ps_ret (pe_callTy call_tuple_of (by rfl) T.b_tuple (by decide +kernel) (pa_cons (pv 3) (pa_nil))))))))))))
    (xb := xb_order_to) (rs_seq (rs_drop (rf_call (ra_cons (rf_var) (ra_nil))))
    (rs_seq (rs_drop (rf_call (ra_cons (rf_var) (ra_cons (rf_var) (ra_nil)))))
    (rs_seq (rs_asg (rf_call (ra_cons (rf_var) (ra_cons (rf_tup (rv_nil)) (ra_cons (rf_tup (rv_nil)) (ra_nil))))) rg_name)
    (rs_seq (rs_if (rt_B (rf_dnotin (rf_var))) (rs_never) (rs_next))
    (rs_seq (rs_asg ((ff_sortB).rf) rg_name)
    (rs_seq (rs_asg (rf_sl (rf_var) (ro_none) (ro_some (rf_op rf_add (rf_indexP (rf_var)) (rf_int)))) rg_name)
    (rs_seq (rs_for (ri_any (rf_revB (rf_var))) (rg_name) (rs_seq (rs_asg (ff_lc (ri_any (rf_var)) (rg_name) (rt_test (rf_op pu_ne.rf2 (rf_var) (rf_var))) (rf_var) (by decide)).rf rg_name)
    (rs_if (rt_B (rf_call (ra_cons (rf_var) (ra_cons (rf_var) (ra_nil))))) (rs_asg (rf_var) rg_name) (rs_next))))
    (rs_ret (rf_cb rb_tuple (rv_cons (rf_var) (rv_nil))))))))))))
theorem sc_least_makers : FnScope ["promises", "number", "rows", "row"] ["promises", "number"] (defScope s_least_makers) := ⟨rfl, rfl, rfl, by decide +kernel, rfl, by decide +kernel, by decide +kernel⟩
theorem gd_least_makers {f : Addr} {fd : FuncData} (T : Txt K mg) (a : At K mg "least_makers" s_least_makers ["promises", "number"] f fd) (g_check_few : Gd P w K mg base 3 "check_few" ["promises", "number"] x_check_few) (g_subsets : Gd P w K mg base 1 "subsets" ["count"] x_subsets) (g_least_of : Gd P w K mg base 1 "least_of" ["rows"] x_least_of) (g_rounds_of : Gd P w K mg base 1 "rounds_of" ["promises", "broken", "made"] x_rounds_of) : Gd P w K mg base 4 "least_makers" ["promises", "number"] x_least_makers := by
  obtain ⟨f_check_few, fd_check_few, m_check_few, k_check_few, b_check_few, G_check_few⟩ := g_check_few
  obtain ⟨f_subsets, fd_subsets, m_subsets, k_subsets, b_subsets, G_subsets⟩ := g_subsets
  obtain ⟨f_least_of, fd_least_of, m_least_of, k_least_of, b_least_of, G_least_of⟩ := g_least_of
  obtain ⟨f_rounds_of, fd_rounds_of, m_rounds_of, k_rounds_of, b_rounds_of, G_rounds_of⟩ := g_rounds_of
  exact .mk' a (fn_word (N := ["promises", "number", "rows", "row"]) a.F sc_least_makers (fun cdv A outer s H E hr =>
    pss_cons (ps_expr (pe_call G_check_few (hr.mono (by decide)) (by rfl) m_check_few k_check_few b_check_few .nil pass0 (pa_cons (pv 0) (pa_cons (pv 1) (pa_nil)))))
    (pss_cons (ps_setLc (i := 2) (own := [(("row" : Str), 3)]) rfl sc_least_makers.nd rfl rfl (sw_true rfl rfl rfl (by decide +kernel)) (pi_any (pe_call G_subsets (hr.mono (by decide)) (by rfl) m_subsets k_subsets b_subsets .nil pass0 (pa_cons (pe_callB callLen (by rfl) T.b_len (by decide +kernel) (pa_cons (pv 0) pa_nil)) (pa_nil)))) (blkOk_by (own := [(("row" : Str), 3)]) (N := ["promises", "number", "rows", "row"]) (sc := defScope s_least_makers) (by decide +kernel)) (fun _ _ _ _ _ => pg_name (i := 3) sc_least_makers.nd rfl (by first | exact Or.inl rfl | exact Or.inr rfl)) (fun _ _ _ _ _ => pts_one (pt_cmpR op_notIn_seq (pv 1) (pv 3) (by rfl))) (fun _ _ _ _ _ => pv 3))
    (pss_one (ps_ret (pe_call G_least_of (hr.mono (by decide)) (by rfl) m_least_of k_least_of b_least_of .nil pass0 (pa_cons (pe_lc (own := [(("row" : Str), 3)]) rfl sc_least_makers.nd (pi_any (pv 2)) (blkOk_by (own := [(("row" : Str), 3)]) (N := ["promises", "number", "rows", "row"]) (sc := defScope s_least_makers) (by decide +kernel)) (fun _ _ _ _ _ => pg_name (i := 3) sc_least_makers.nd rfl (by first | exact Or.inl rfl | exact Or.inr rfl)) (fun _ _ _ _ _ => pts_one (pt_cmp (pc_din (hu_of hr) (pv 1) (pe_call G_rounds_of (hr.mono (by decide)) (by rfl) m_rounds_of k_rounds_of b_rounds_of .nil pass0 (pa_cons (pv 0) (pa_cons (pe_tup (pa_nil)) (pa_cons (pv 3) (pa_nil)))))))) (fun _ _ _ _ _ => pv 3)) (pa_nil)))))))
    (xb := xb_least_makers) (rs_seq (rs_drop (rf_call (ra_cons (rf_var) (ra_cons (rf_var) (ra_nil)))))
    (rs_seq (rs_asg (ff_lc (ri_any (rf_call (ra_cons (rf_cbp pu_len) (ra_nil)))) (rg_name) (rt_test (rf_opR (pu_in (neg := true)) (rf_var))) (rf_var) (by decide)).rf rg_name)
    (rs_ret (rf_call (ra_cons ((ff_lc (ri_any (rf_var)) (rg_name) (rt_B (rf_dinE (rf_var) (rf_call (ra_cons (rf_var) (ra_cons (rf_tup (rv_nil)) (ra_cons (rf_var) (ra_nil))))))) (rf_var) (by decide)).rf) (ra_nil)))))))
theorem sc_is_stuck : FnScope ["promises", "some", "number", "needed", "others", "other"] ["promises", "some"] (defScope s_is_stuck) := ⟨rfl, rfl, rfl, by decide +kernel, rfl, by decide +kernel, by decide +kernel⟩
theorem gd_is_stuck {f : Addr} {fd : FuncData} (T : Txt K mg) (a : At K mg "is_stuck" s_is_stuck ["promises", "some"] f fd) (g_check_promises : Gd P w K mg base 2 "check_promises" ["promises"] x_check_promises) : Gd P w K mg base 3 "is_stuck" ["promises", "some"] x_is_stuck := by
  obtain ⟨f_check_promises, fd_check_promises, m_check_promises, k_check_promises, b_check_promises, G_check_promises⟩ := g_check_promises
  exact .mk' a (fn_word (N := ["promises", "some", "number", "needed", "others", "other"]) a.F sc_is_stuck (fun cdv A outer s H E hr =>
    pss_cons (ps_expr (pe_call G_check_promises (hr.mono (by decide)) (by rfl) m_check_promises k_check_promises b_check_promises .nil pass0 (pa_cons (pv 0) (pa_nil))))
    (pss_cons (ps_if (PW.pt (pw_or (pt_cmpR (opNe (hu64 hr)) (pe_callTy call_list_of (by rfl) T.b_list (by decide +kernel) (pa_cons (pv 1) (pa_nil))) (pe_callB (cr_sortedSet rfl) (by rfl) T.b_sorted (by decide +kernel) (pa_cons (pe_callTy (cr_setT rfl) (by rfl) T.b_set (by decide +kernel) (pa_cons (pv 1) pa_nil)) pa_nil)) (nomark _)) (pw_or1 (pt_not (pt_val (pe_callB (cr_all rfl) (by rfl) T.b_all (by decide +kernel) (pa_cons (pe_lc (own := [(("number" : Str), 2)]) rfl sc_is_stuck.nd (pi_any (pv 1)) (blkOk_by (own := [(("number" : Str), 2)]) (N := ["promises", "some", "number", "needed", "others", "other"]) (sc := defScope s_is_stuck) (by decide +kernel)) (fun _ _ _ _ _ => pg_name (i := 2) sc_is_stuck.nd rfl (by first | exact Or.inl rfl | exact Or.inr rfl)) (fun _ _ _ _ _ => pts_nil) (fun _ _ _ _ _ => pe_chain op_le op_lt (pe_int) (pv 2) (pe_callB callLen (by rfl) T.b_len (by decide +kernel) (pa_cons (pv 0) pa_nil)))) (pa_nil)))))))) (pss_one (ps_ret (pe_bl))) (pss_nil))
    (pss_cons (ps_for PassesOwn.never rfl (pi_any (pv 1)) (pg_name (i := 2) sc_is_stuck.nd rfl (by first | exact Or.inl rfl | exact Or.inr rfl)) (pss_cons (ps_asg (pe_ix ix_seq (pv 0) (pv 2) (fun _ _ => rfl)) (pg_tup rfl (pgs_cons (pg_name (i := 3) sc_is_stuck.nd rfl (by first | exact Or.inl rfl | exact Or.inr rfl)) (pgs_cons (pg_name (i := 4) sc_is_stuck.nd rfl (by first | exact Or.inl rfl | exact Or.inr rfl)) (pgs_nil)))))
    (pss_one (ps_if (pt_cmpR op_ge (pe_callB callLen (by rfl) T.b_len (by decide +kernel) (pa_cons (pe_lc (own := [(("other" : Str), 5)]) rfl sc_is_stuck.nd (pi_any (pv 4)) (blkOk_by (own := [(("other" : Str), 5)]) (N := ["promises", "some", "number", "needed", "others", "other"]) (sc := defScope s_is_stuck) (by decide +kernel)) (fun _ _ _ _ _ => pg_name (i := 5) sc_is_stuck.nd rfl (by first | exact Or.inl rfl | exact Or.inr rfl)) (fun _ _ _ _ _ => pts_one (pt_cmpR op_notIn_seq (pv 5) (pv 1) (by rfl))) (fun _ _ _ _ _ => pv 5)) (pa_nil))) (pv 3) (nomark _)) (pss_one (ps_ret (pe_bl))) (pss_nil)))))
    (pss_one (ps_ret (pe_bl))))))
    (xb := xb_is_stuck) (rs_seq (rs_drop (rf_call (ra_cons (rf_var) (ra_nil))))
    (rs_seq (rs_if (rt_or (rt_test (rf_op pu_ne.rf2 ((ff_cb rbf_list (rv_cons (rf_var) (rv_nil))).rf) ((ff_sortSet (rf_var)).rf))) (rt_not (rt_B (rf_cb pu_all.rfB (rv_cons ((ff_lc (ri_any (rf_var)) (rg_name) (rt_yes) (rf_chain pu_le.rf2 pu_lt.rf2 (rf_int) (rf_var) (rf_cbp pu_len)) (by decide)).rf) (rv_nil)))))) (rs_ret (rf_bl)) (rs_next))
    (rs_seq (rs_for (ri_any (rf_var)) (rg_name) (rs_seq (rs_asg (rf_ixP (rf_var)) (rg_tup (rgs_cons (rg_name) (rgs_cons (rg_name) (rgs_nil)))))
    (rs_if (rt_test (rf_op pu_ge.rf2 (rf_cb pu_len.rfB (rv_cons ((ff_lc (ri_any (rf_var)) (rg_name) (rt_test (rf_opR (pu_in (neg := true)) (rf_var))) (rf_var) (by decide)).rf) (rv_nil))) (rf_var))) (rs_ret (rf_bl)) (rs_next))))
    (rs_ret (rf_bl))))))
theorem sc_least_stuck : FnScope ["promises", "number", "row"] ["promises", "number"] (defScope s_least_stuck) := ⟨rfl, rfl, rfl, by decide +kernel, rfl, by decide +kernel, by decide +kernel⟩
theorem gd_least_stuck {f : Addr} {fd : FuncData} (T : Txt K mg) (a : At K mg "least_stuck" s_least_stuck ["promises", "number"] f fd) (g_check_few : Gd P w K mg base 3 "check_few" ["promises", "number"] x_check_few) (g_least_of : Gd P w K mg base 1 "least_of" ["rows"] x_least_of) (g_subsets : Gd P w K mg base 1 "subsets" ["count"] x_subsets) (g_is_stuck : Gd P w K mg base 3 "is_stuck" ["promises", "some"] x_is_stuck) : Gd P w K mg base 4 "least_stuck" ["promises", "number"] x_least_stuck := by
  obtain ⟨f_check_few, fd_check_few, m_check_few, k_check_few, b_check_few, G_check_few⟩ := g_check_few
  obtain ⟨f_least_of, fd_least_of, m_least_of, k_least_of, b_least_of, G_least_of⟩ := g_least_of
  obtain ⟨f_subsets, fd_subsets, m_subsets, k_subsets, b_subsets, G_subsets⟩ := g_subsets
  obtain ⟨f_is_stuck, fd_is_stuck, m_is_stuck, k_is_stuck, b_is_stuck, G_is_stuck⟩ := g_is_stuck
  exact .mk' a (fn_word (N := ["promises", "number", "row"]) a.F sc_least_stuck (fun cdv A outer s H E hr =>
    pss_cons (ps_expr (pe_call G_check_few (hr.mono (by decide)) (by rfl) m_check_few k_check_few b_check_few .nil pass0 (pa_cons (pv 0) (pa_cons (pv 1) (pa_nil)))))
    (pss_one (ps_ret (pe_call G_least_of (hr.mono (by decide)) (by rfl) m_least_of k_least_of b_least_of .nil pass0 (pa_cons (pe_lc (own := [(("row" : Str), 2)]) rfl sc_least_stuck.nd (pi_any (pe_call G_subsets (hr.mono (by decide)) (by rfl) m_subsets k_subsets b_subsets .nil pass0 (pa_cons (pe_callB callLen (by rfl) T.b_len (by decide +kernel) (pa_cons (pv 0) pa_nil)) (pa_nil)))) (blkOk_by (own := [(("row" : Str), 2)]) (N := ["promises", "number", "row"]) (sc := defScope s_least_stuck) (by decide +kernel)) (fun _ _ _ _ _ => pg_name (i := 2) sc_least_stuck.nd rfl (by first | exact Or.inl rfl | exact Or.inr rfl)) (fun _ _ _ _ _ => pts_one (PW.pt (pw_and (pt_cmpR op_in_seq (pv 1) (pv 2) (by rfl)) (pw_and1 (pt_val (pe_call G_is_stuck (hr.mono (by decide)) (by rfl) m_is_stuck k_is_stuck b_is_stuck .nil pass0 (pa_cons (pv 0) (pa_cons (pv 2) (pa_nil))))))))) (fun _ _ _ _ _ => pv 2)) (pa_nil))))))
    (xb := xb_least_stuck) (rs_seq (rs_drop (rf_call (ra_cons (rf_var) (ra_cons (rf_var) (ra_nil)))))
    (rs_ret (rf_call (ra_cons ((ff_lc (ri_any (rf_call (ra_cons (rf_cbp pu_len) (ra_nil)))) (rg_name) (rt_and (rt_test (rf_opR (pu_in (neg := false)) (rf_var))) (rt_B (rf_call (ra_cons (rf_var) (ra_cons (rf_var) (ra_nil)))))) (rf_var) (by decide)).rf) (ra_nil))))))
theorem sc_stuck : FnScope ["promises", "found", "number"] ["promises"] (defScope s_stuck) := ⟨rfl, rfl, rfl, by decide +kernel, rfl, by decide +kernel, by decide +kernel⟩
theorem gd_stuck {f : Addr} {fd : FuncData} (T : Txt K mg) (a : At K mg "stuck" s_stuck ["promises"] f fd) (g_check_promises : Gd P w K mg base 2 "check_promises" ["promises"] x_check_promises) (g_rounds_of : Gd P w K mg base 1 "rounds_of" ["promises", "broken", "made"] x_rounds_of) : Gd P w K mg base 3 "stuck" ["promises"] x_stuck := by
  obtain ⟨f_check_promises, fd_check_promises, m_check_promises, k_check_promises, b_check_promises, G_check_promises⟩ := g_check_promises
  obtain ⟨f_rounds_of, fd_rounds_of, m_rounds_of, k_rounds_of, b_rounds_of, G_rounds_of⟩ := g_rounds_of
  exact .mk' a (fn_word (N := ["promises", "found", "number"]) a.F sc_stuck (fun cdv A outer s H E hr =>
    pss_cons (ps_expr (pe_call G_check_promises (hr.mono (by decide)) (by rfl) m_check_promises k_check_promises b_check_promises .nil pass0 (pa_cons (pv 0) (pa_nil))))
    (pss_cons (ps_set (i := 1) sc_stuck.nd rfl (by first | exact Or.inl rfl | exact Or.inr rfl) (pe_call G_rounds_of (hr.mono (by decide)) (by rfl) m_rounds_of k_rounds_of b_rounds_of .nil pass0 (pa_cons (pv 0) (pa_cons (pe_tup (pa_nil)) (pa_cons (pe_tup (pa_nil)) (pa_nil))))))
    (pss_one (ps_ret (pe_callTy call_tuple_of (by rfl) T.b_tuple (by decide +kernel) (pa_cons (pe_lc (own := [(("number" : Str), 2)]) rfl sc_stuck.nd (pi_range1 (by rfl) T.b_range (pa_cons (pe_callB callLen (by rfl) T.b_len (by decide +kernel) (pa_cons (pv 0) pa_nil)) pa_nil)) (blkOk_by (own := [(("number" : Str), 2)]) (N := ["promises", "found", "number"]) (sc := defScope s_stuck) (by decide +kernel)) (fun _ _ _ _ _ => pg_name (i := 2) sc_stuck.nd rfl (by first | exact Or.inl rfl | exact Or.inr rfl)) (fun _ _ _ _ _ => pts_one (pt_cmp (pc_dnotin (hu_of hr) (pv 2) (pv 1)))) (fun _ _ _ _ _ => pv 2)) (pa_nil)))))))
    (xb := xb_stuck) (rs_seq (rs_drop (rf_call (ra_cons (rf_var) (ra_nil))))
    (rs_seq (rs_asg (rf_call (ra_cons (rf_var) (ra_cons (rf_tup (rv_nil)) (ra_cons (rf_tup (rv_nil)) (ra_nil))))) rg_name)
    (rs_ret (rf_cb rb_tuple (rv_cons ((ff_lc (ri_rng1 (rf_cbp pu_len)) (rg_name) (rt_B (rf_dnotin (rf_var))) (rf_var) (by decide)).rf) (rv_nil)))))))
theorem sc_bears_itself : FnScope ["promises", "some", "number", "needed", "others", "other"] ["promises", "some"] (defScope s_bears_itself) := ⟨rfl, rfl, rfl, by decide +kernel, rfl, by decide +kernel, by decide +kernel⟩
theorem gd_bears_itself {f : Addr} {fd : FuncData} (T : Txt K mg) (a : At K mg "bears_itself" s_bears_itself ["promises", "some"] f fd) (g_check_promises : Gd P w K mg base 2 "check_promises" ["promises"] x_check_promises) : Gd P w K mg base 3 "bears_itself" ["promises", "some"] x_bears_itself := by
  obtain ⟨f_check_promises, fd_check_promises, m_check_promises, k_check_promises, b_check_promises, G_check_promises⟩ := g_check_promises
  exact .mk' a (fn_word (N := ["promises", "some", "number", "needed", "others", "other"]) a.F sc_bears_itself (fun cdv A outer s H E hr =>
    pss_cons (ps_expr (pe_call G_check_promises (hr.mono (by decide)) (by rfl) m_check_promises k_check_promises b_check_promises .nil pass0 (pa_cons (pv 0) (pa_nil))))
    (pss_cons (ps_if (PW.pt (pw_or (pt_cmpR (opNe (hu64 hr)) (pe_callTy call_list_of (by rfl) T.b_list (by decide +kernel) (pa_cons (pv 1) (pa_nil))) (pe_callB (cr_sortedSet rfl) (by rfl) T.b_sorted (by decide +kernel) (pa_cons (pe_callTy (cr_setT rfl) (by rfl) T.b_set (by decide +kernel) (pa_cons (pv 1) pa_nil)) pa_nil)) (nomark _)) (pw_or1 (pt_not (pt_val (pe_callB (cr_all rfl) (by rfl) T.b_all (by decide +kernel) (pa_cons (pe_lc (own := [(("number" : Str), 2)]) rfl sc_bears_itself.nd (pi_any (pv 1)) (blkOk_by (own := [(("number" : Str), 2)]) (N := ["promises", "some", "number", "needed", "others", "other"]) (sc := defScope s_bears_itself) (by decide +kernel)) (fun _ _ _ _ _ => pg_name (i := 2) sc_bears_itself.nd rfl (by first | exact Or.inl rfl | exact Or.inr rfl)) (fun _ _ _ _ _ => pts_nil) (fun _ _ _ _ _ => pe_chain op_le op_lt (pe_int) (pv 2) (pe_callB callLen (by rfl) T.b_len (by decide +kernel) (pa_cons (pv 0) pa_nil)))) (pa_nil)))))))) (pss_one (ps_ret (pe_bl))) (pss_nil))
    (pss_cons (ps_for PassesOwn.never rfl (pi_any (pv 1)) (pg_name (i := 2) sc_bears_itself.nd rfl (by first | exact Or.inl rfl | exact Or.inr rfl)) (pss_cons (ps_asg (pe_ix ix_seq (pv 0) (pv 2) (fun _ _ => rfl)) (pg_tup rfl (pgs_cons (pg_name (i := 3) sc_bears_itself.nd rfl (by first | exact Or.inl rfl | exact Or.inr rfl)) (pgs_cons (pg_name (i := 4) sc_bears_itself.nd rfl (by first | exact Or.inl rfl | exact Or.inr rfl)) (pgs_nil)))))
    (pss_one (ps_if (pt_cmpR op_lt (pe_callB callLen (by rfl) T.b_len (by decide +kernel) (pa_cons (pe_lc (own := [(("other" : Str), 5)]) rfl sc_bears_itself.nd (pi_any (pv 4)) (blkOk_by (own := [(("other" : Str), 5)]) (N := ["promises", "some", "number", "needed", "others", "other"]) (sc := defScope s_bears_itself) (by decide +kernel)) (fun _ _ _ _ _ => pg_name (i := 5) sc_bears_itself.nd rfl (by first | exact Or.inl rfl | exact Or.inr rfl)) (fun _ _ _ _ _ => pts_one (pt_cmpR op_in_seq (pv 5) (pv 1) (by rfl))) (fun _ _ _ _ _ => pv 5)) (pa_nil))) (pv 3) (nomark _)) (pss_one (ps_ret (pe_bl))) (pss_nil)))))
    (pss_one (ps_ret (pe_bl))))))
    (xb := xb_bears_itself) (rs_seq (rs_drop (rf_call (ra_cons (rf_var) (ra_nil))))
    (rs_seq (rs_if (rt_or (rt_test (rf_op pu_ne.rf2 ((ff_cb rbf_list (rv_cons (rf_var) (rv_nil))).rf) ((ff_sortSet (rf_var)).rf))) (rt_not (rt_B (rf_cb pu_all.rfB (rv_cons ((ff_lc (ri_any (rf_var)) (rg_name) (rt_yes) (rf_chain pu_le.rf2 pu_lt.rf2 (rf_int) (rf_var) (rf_cbp pu_len)) (by decide)).rf) (rv_nil)))))) (rs_ret (rf_bl)) (rs_next))
    (rs_seq (rs_for (ri_any (rf_var)) (rg_name) (rs_seq (rs_asg (rf_ixP (rf_var)) (rg_tup (rgs_cons (rg_name) (rgs_cons (rg_name) (rgs_nil)))))
    (rs_if (rt_test (rf_op pu_lt.rf2 (rf_cb pu_len.rfB (rv_cons ((ff_lc (ri_any (rf_var)) (rg_name) (rt_test (rf_opR (pu_in (neg := false)) (rf_var))) (rf_var) (by decide)).rf) (rv_nil))) (rf_var))) (rs_ret (rf_bl)) (rs_next))))
    (rs_ret (rf_bl))))))
theorem sc_law : FnScope ["script", "state", "turn", "promises", "many", "number", "every", "k", "due", "way", "ways", "others", "meets", "row", "makers", "needy"] ["script"] (defScope s_law) := ⟨rfl, rfl, rfl, by decide +kernel, rfl, by decide +kernel, by decide +kernel⟩
theorem gd_law {f : Addr} {fd : FuncData} (T : Txt K mg) (a : At K mg "law" s_law ["script"] f fd) (g__law_stream : Gd P w K mg base 1 "_law_stream" ["script"] x__law_stream) (g__law_ones : Gd P w K mg base 2 "_law_ones" ["state"] x__law_ones) (g__law_next : Gd P w K mg base 1 "_law_next" ["state", "many"] x__law_next) (g__law_ways : Gd P w K mg base 1 "_law_ways" ["promises", "number"] x__law_ways) (g_kept : Gd P w K mg base 3 "kept" ["promises"] x_kept) (g_rounds : Gd P w K mg base 3 "rounds" ["promises"] x_rounds) (g__law_least : Gd P w K mg base 1 "_law_least" ["rows"] x__law_least) (g_least_keepers : Gd P w K mg base 4 "least_keepers" ["promises", "number"] x_least_keepers) (g__law_subsets : Gd P w K mg base 1 "_law_subsets" ["row"] x__law_subsets) (g_least_breakers : Gd P w K mg base 4 "least_breakers" ["promises", "number"] x_least_breakers) (g_order_to : Gd P w K mg base 4 "order_to" ["promises", "number"] x_order_to) (g_least_makers : Gd P w K mg base 4 "least_makers" ["promises", "number"] x_least_makers) (g_least_stuck : Gd P w K mg base 4 "least_stuck" ["promises", "number"] x_least_stuck) (g_stuck : Gd P w K mg base 3 "stuck" ["promises"] x_stuck) (g_bears_itself : Gd P w K mg base 3 "bears_itself" ["promises", "some"] x_bears_itself) : FnOk P w K mg base CX0 5 f fd ["script"] (spOf K 1 x_law) := by
  obtain ⟨f__law_stream, fd__law_stream, m__law_stream, k__law_stream, b__law_stream, G__law_stream⟩ := g__law_stream
  obtain ⟨f__law_ones, fd__law_ones, m__law_ones, k__law_ones, b__law_ones, G__law_ones⟩ := g__law_ones
  obtain ⟨f__law_next, fd__law_next, m__law_next, k__law_next, b__law_next, G__law_next⟩ := g__law_next
  obtain ⟨f__law_ways, fd__law_ways, m__law_ways, k__law_ways, b__law_ways, G__law_ways⟩ := g__law_ways
  obtain ⟨f_kept, fd_kept, m_kept, k_kept, b_kept, G_kept⟩ := g_kept
  obtain ⟨f_rounds, fd_rounds, m_rounds, k_rounds, b_rounds, G_rounds⟩ := g_rounds
  obtain ⟨f__law_least, fd__law_least, m__law_least, k__law_least, b__law_least, G__law_least⟩ := g__law_least
  obtain ⟨f_least_keepers, fd_least_keepers, m_least_keepers, k_least_keepers, b_least_keepers, G_least_keepers⟩ := g_least_keepers
  obtain ⟨f__law_subsets, fd__law_subsets, m__law_subsets, k__law_subsets, b__law_subsets, G__law_subsets⟩ := g__law_subsets
  obtain ⟨f_least_breakers, fd_least_breakers, m_least_breakers, k_least_breakers, b_least_breakers, G_least_breakers⟩ := g_least_breakers
  obtain ⟨f_order_to, fd_order_to, m_order_to, k_order_to, b_order_to, G_order_to⟩ := g_order_to
  obtain ⟨f_least_makers, fd_least_makers, m_least_makers, k_least_makers, b_least_makers, G_least_makers⟩ := g_least_makers
  obtain ⟨f_least_stuck, fd_least_stuck, m_least_stuck, k_least_stuck, b_least_stuck, G_least_stuck⟩ := g_least_stuck
  obtain ⟨f_stuck, fd_stuck, m_stuck, k_stuck, b_stuck, G_stuck⟩ := g_stuck
  obtain ⟨f_bears_itself, fd_bears_itself, m_bears_itself, k_bears_itself, b_bears_itself, G_bears_itself⟩ := g_bears_itself
  exact (fn_word (N := ["script", "state", "turn", "promises", "many", "number", "every", "k", "due", "way", "ways", "others", "meets", "row", "makers", "needy"]) a.F sc_law (fun cdv A outer s H E hr =>
    pss_cons (ps_set (i := 1) sc_law.nd rfl (by first | exact Or.inl rfl | exact Or.inr rfl) (pe_lst (pa_cons (pe_call G__law_stream (hr.mono (by decide)) (by rfl) m__law_stream k__law_stream b__law_stream .nil pass0 (pa_cons (pv 0) (pa_nil))) (pa_cons (pe_int) (pa_nil)))))
    (pss_cons (ps_for PassesOwn.never rfl (pi_range1 (by rfl) T.b_range (pa_cons (pe_int) pa_nil)) (pg_name (i := 2) sc_law.nd rfl (by first | exact Or.inl rfl | exact Or.inr rfl)) (pss_cons (ps_set (i := 3) sc_law.nd rfl (by first | exact Or.inl rfl | exact Or.inr rfl) (pe_call G__law_ones (hr.mono (by decide)) (by rfl) m__law_ones k__law_ones b__law_ones .nil pass0 (pa_cons (pv 1) (pa_nil))))
    (pss_cons (ps_set (i := 4) sc_law.nd rfl (by first | exact Or.inl rfl | exact Or.inr rfl) (pe_callB callLen (by rfl) T.b_len (by decide +kernel) (pa_cons (pv 3) pa_nil)))
    (pss_cons (ps_set (i := 5) sc_law.nd rfl (by first | exact Or.inl rfl | exact Or.inr rfl) (pe_call G__law_next (hr.mono (by decide)) (by rfl) m__law_next k__law_next b__law_next .nil pass0 (pa_cons (pv 1) (pa_cons (pv 4) (pa_nil)))))
    (pss_cons (ps_set (i := 6) sc_law.nd rfl (by first | exact Or.inl rfl | exact Or.inr rfl) (pe_lc (own := [(("k" : Str), 7)]) rfl sc_law.nd (pi_range1 (by rfl) T.b_range (pa_cons (pv 4) pa_nil)) (blkOk_by (own := [(("k" : Str), 7)]) (N := ["script", "state", "turn", "promises", "many", "number", "every", "k", "due", "way", "ways", "others", "meets", "row", "makers", "needy"]) (sc := defScope s_law) (by decide +kernel)) (fun _ _ _ _ _ => pg_name (i := 7) sc_law.nd rfl (by first | exact Or.inl rfl | exact Or.inr rfl)) (fun _ _ _ _ _ => pts_nil) (fun _ _ _ _ _ => pe_call G__law_ways (hr.mono (by decide)) (by rfl) m__law_ways k__law_ways b__law_ways .nil pass0 (pa_cons (pv 3) (pa_cons (pv 7) (pa_nil))))))
    (pss_cons (ps_if (pt_cmpR (opNe (hu64 hr)) (pe_call G_kept (hr.mono (by decide)) (by rfl) m_kept k_kept b_kept .nil pass0 (pa_cons (pv 3) (pa_nil))) (pe_callTy call_tuple_of (by rfl) T.b_tuple (by decide +kernel) (pa_cons (pe_lc (own := [(("k" : Str), 7)]) rfl sc_law.nd (pi_range1 (by rfl) T.b_range (pa_cons (pv 4) pa_nil)) (blkOk_by (own := [(("k" : Str), 7)]) (N := ["script", "state", "turn", "promises", "many", "number", "every", "k", "due", "way", "ways", "others", "meets", "row", "makers", "needy"]) (sc := defScope s_law) (by decide +kernel)) (fun _ _ _ _ _ => pg_name (i := 7) sc_law.nd rfl (by first | exact Or.inl rfl | exact Or.inr rfl)) (fun _ _ _ _ _ => pts_one (pt_cmpR op_gt (pe_callB callLen (by rfl) T.b_len (by decide +kernel) (pa_cons (pe_ix ix_seq (pv 6) (pv 7) (fun _ _ => rfl)) (pa_nil))) (pe_int) (nomark _))) (fun _ _ _ _ _ => pv 7)) (pa_nil))) (nomark _)) (pss_one (ps_ret (pe_bl))) (pss_nil))
    (pss_cons (ps_set (i := 8) sc_law.nd rfl (by first | exact Or.inl rfl | exact Or.inr rfl) (pe_callTy call_tuple_of (by rfl) T.b_tuple (by decide +kernel) (pa_cons (pe_lc (own := [(("ways" : Str), 10)]) rfl sc_law.nd (pi_any (pv 6)) (blkOk_by (own := [(("ways" : Str), 10)]) (N := ["script", "state", "turn", "promises", "many", "number", "every", "k", "due", "way", "ways", "others", "meets", "row", "makers", "needy"]) (sc := defScope s_law) (by decide +kernel)) (fun _ _ _ _ _ => pg_name (i := 10) sc_law.nd rfl (by first | exact Or.inl rfl | exact Or.inr rfl)) (fun _ _ _ _ _ => pts_nil) (fun _ _ _ _ _ => pe_ix ix_seq (pe_op opAdd (pe_callB cr_sortedI (by rfl) T.b_sorted (by decide +kernel) (pa_cons (pe_lc (own := [(("way" : Str), 9)]) rfl sc_law.nd (pi_any (pv 10)) (blkOk_by (own := [(("way" : Str), 9)]) (N := ["script", "state", "turn", "promises", "many", "number", "every", "k", "due", "way", "ways", "others", "meets", "row", "makers", "needy"]) (sc := relS _ (defScope s_law)) (by decide +kernel)) (fun _ _ _ _ _ => pg_name (i := 9) sc_law.nd rfl (by first | exact Or.inl rfl | exact Or.inr rfl)) (fun _ _ _ _ _ => pts_nil) (fun _ _ _ _ _ => pe_callB callLen (by rfl) T.b_len (by decide +kernel) (pa_cons (pv 9) pa_nil))) (pa_nil))) (pe_lst (pa_cons (pe_int) (pa_nil)))) (pe_int) (fun _ _ => rfl))) (pa_nil))))
    (pss_cons (ps_if (pt_cmpR (opNe (hu64 hr)) (pe_call G_rounds (hr.mono (by decide)) (by rfl) m_rounds k_rounds b_rounds .nil pass0 (pa_cons (pv 3) (pa_nil))) (pv 8) (nomark _)) (pss_one (ps_ret (pe_bl))) (pss_nil))
    (pss_cons (ps_set (i := 10) sc_law.nd rfl (by first | exact Or.inl rfl | exact Or.inr rfl) (pe_call G__law_least (hr.mono (by decide)) (by rfl) m__law_least k__law_least b__law_least .nil pass0 (pa_cons (pe_ix ix_seq (pv 6) (pv 5) (fun _ _ => rfl)) (pa_nil))))
    (pss_cons (ps_if (pt_cmpR (opNe (hu64 hr)) (pe_call G_least_keepers (hr.mono (by decide)) (by rfl) m_least_keepers k_least_keepers b_least_keepers .nil pass0 (pa_cons (pv 3) (pa_cons (pv 5) (pa_nil)))) (pv 10) (nomark _)) (pss_one (ps_ret (pe_bl))) (pss_nil))
    (pss_cons (ps_setLc (i := 11) (own := [(("k" : Str), 7)]) rfl sc_law.nd rfl rfl (sw_true rfl rfl rfl (by decide +kernel)) (pi_range1 (by rfl) T.b_range (pa_cons (pv 4) pa_nil)) (blkOk_by (own := [(("k" : Str), 7)]) (N := ["script", "state", "turn", "promises", "many", "number", "every", "k", "due", "way", "ways", "others", "meets", "row", "makers", "needy"]) (sc := defScope s_law) (by decide +kernel)) (fun _ _ _ _ _ => pg_name (i := 7) sc_law.nd rfl (by first | exact Or.inl rfl | exact Or.inr rfl)) (fun _ _ _ _ _ => pts_one (pt_cmpR (opNe (hu64 hr)) (pv 7) (pv 5) (nomark _))) (fun _ _ _ _ _ => pv 7))
    (pss_cons (ps_setLc (i := 12) (own := [(("row" : Str), 13)]) rfl sc_law.nd rfl rfl (sw_true rfl rfl rfl (by decide +kernel)) (pi_any (pe_call G__law_subsets (hr.mono (by decide)) (by rfl) m__law_subsets k__law_subsets b__law_subsets .nil pass0 (pa_cons (pv 11) (pa_nil)))) (blkOk_by (own := [(("row" : Str), 13)]) (N := ["script", "state", "turn", "promises", "many", "number", "every", "k", "due", "way", "ways", "others", "meets", "row", "makers", "needy"]) (sc := defScope s_law) (by decide +kernel)) (fun _ _ _ _ _ => pg_name (i := 13) sc_law.nd rfl (by first | exact Or.inl rfl | exact Or.inr rfl)) (fun _ _ _ _ _ => pts_one (pt_val (pe_callB (cr_all rfl) (by rfl) T.b_all (by decide +kernel) (pa_cons (pe_lc (own := [(("way" : Str), 9)]) rfl sc_law.nd (pi_any (pv 10)) (blkOk_by (own := [(("way" : Str), 9)]) (N := ["script", "state", "turn", "promises", "many", "number", "every", "k", "due", "way", "ways", "others", "meets", "row", "makers", "needy"]) (sc := relS _ (defScope s_law)) (by decide +kernel)) (fun _ _ _ _ _ => pg_name (i := 9) sc_law.nd rfl (by first | exact Or.inl rfl | exact Or.inr rfl)) (fun _ _ _ _ _ => pts_nil) (fun _ _ _ _ _ => pe_callB (cr_any rfl) (by rfl) T.b_any (by decide +kernel) (pa_cons (pe_lc (own := [(("k" : Str), 7)]) rfl sc_law.nd (pi_any (pv 9)) (blkOk_by (own := [(("k" : Str), 7)]) (N := ["script", "state", "turn", "promises", "many", "number", "every", "k", "due", "way", "ways", "others", "meets", "row", "makers", "needy"]) (sc := relS _ (relS _ (defScope s_law))) (by decide +kernel)) (fun _ _ _ _ _ => pg_name (i := 7) sc_law.nd rfl (by first | exact Or.inl rfl | exact Or.inr rfl)) (fun _ _ _ _ _ => pts_nil) (fun _ _ _ _ _ => pe_cmpR op_in_seq (pv 7) (pv 13) (by rfl))) (pa_nil)))) (pa_nil))))) (fun _ _ _ _ _ => pv 13))
    (pss_cons (ps_if (pt_cmpR (opNe (hu64 hr)) (pe_call G_least_breakers (hr.mono (by decide)) (by rfl) m_least_breakers k_least_breakers b_least_breakers .nil pass0 (pa_cons (pv 3) (pa_cons (pv 5) (pa_nil)))) (pe_call G__law_least (hr.mono (by decide)) (by rfl) m__law_least k__law_least b__law_least .nil pass0 (pa_cons (pv 12) (pa_nil))) (nomark _)) (pss_one (ps_ret (pe_bl))) (pss_nil))
    (pss_cons (ps_if (pt_cmpR op_gt (pe_callB callLen (by rfl) T.b_len (by decide +kernel) (pa_cons (pv 10) pa_nil)) (pe_int) (nomark _)) (pss_cons (ps_set (i := 13) sc_law.nd rfl (by first | exact Or.inl rfl | exact Or.inr rfl) (pe_call G_order_to (hr.mono (by decide)) (by rfl) m_order_to k_order_to b_order_to .nil pass0 (pa_cons (pv 3) (pa_cons (pv 5) (pa_nil)))))
    (pss_cons (ps_if (PW.pt (pw_or (pt_cmpR (opNe (hu64 hr)) (pe_ix ix_seq (pv 13) (pe_un un_neg (pe_int)) (fun _ _ => rfl)) (pv 5) (nomark _)) (pw_or (pt_cmpR (op_notInD' hr) (pe_callTy call_tuple_of (by rfl) T.b_tuple (by decide +kernel) (pa_cons (pe_callB cr_sortTI (by rfl) T.b_sorted (by decide +kernel) (pa_cons (pv 13) pa_nil)) (pa_nil))) (pe_ix ix_seq (pv 6) (pv 5) (fun _ _ => rfl)) (by rfl)) (pw_or1 (pt_cmpR (opNe (hu64 hr)) (pe_ix ix_seq (pe_ix ix_seq (pv 3) (pe_ix ix_seq (pv 13) (pe_int) (fun _ _ => rfl)) (fun _ _ => rfl)) (pe_int) (fun _ _ => rfl)) (pe_int) (nomark _)))))) (pss_one (ps_ret (pe_bl))) (pss_nil))
    (pss_cons (ps_for PassesOwn.never rfl (pi_range2 (by rfl) T.b_range (pa_cons (pe_int) (pa_cons (pe_callB callLen (by rfl) T.b_len (by decide +kernel) (pa_cons (pv 13) pa_nil)) pa_nil))) (pg_name (i := 7) sc_law.nd rfl (by first | exact Or.inl rfl | exact Or.inr rfl)) (pss_one (ps_if (pt_cmpR op_notIn_seq (pe_ix ix_seq (pv 13) (pe_op op_sub (pv 7) (pe_int)) (fun _ _ => rfl)) (pe_ix ix_seq (pe_ix ix_seq (pv 3) (pe_ix ix_seq (pv 13) (pv 7) (fun _ _ => rfl)) (fun _ _ => rfl)) (pe_int) (fun _ _ => rfl)) (by rfl)) (pss_one (ps_ret (pe_bl))) (pss_nil))))
    (pss_one (ps_if (PW.pt (pw_or (pt_cmpR (opNe (hu64 hr)) (pe_call G_least_makers (hr.mono (by decide)) (by rfl) m_least_makers k_least_makers b_least_makers .nil pass0 (pa_cons (pv 3) (pa_cons (pv 5) (pa_nil)))) (pe_lst (pa_cons (pe_tup (pa_nil)) (pa_nil))) (nomark _)) (pw_or1 (pt_cmpR (opNe (hu64 hr)) (pe_call G_least_stuck (hr.mono (by decide)) (by rfl) m_least_stuck k_least_stuck b_least_stuck .nil pass0 (pa_cons (pv 3) (pa_cons (pv 5) (pa_nil)))) (pe_lst (pa_nil)) (nomark _))))) (pss_one (ps_ret (pe_bl))) (pss_nil)))))) (pss_cons (ps_set (i := 14) sc_law.nd rfl (by first | exact Or.inl rfl | exact Or.inr rfl) (pe_call G_least_makers (hr.mono (by decide)) (by rfl) m_least_makers k_least_makers b_least_makers .nil pass0 (pa_cons (pv 3) (pa_cons (pv 5) (pa_nil)))))
    (pss_one (ps_if (PW.pt (pw_or (pt_not (pt_val (pe_callB (cr_all rfl) (by rfl) T.b_all (by decide +kernel) (pa_cons (pe_lc (own := [(("row" : Str), 13)]) rfl sc_law.nd (pi_any (pv 14)) (blkOk_by (own := [(("row" : Str), 13)]) (N := ["script", "state", "turn", "promises", "many", "number", "every", "k", "due", "way", "ways", "others", "meets", "row", "makers", "needy"]) (sc := defScope s_law) (by decide +kernel)) (fun _ _ _ _ _ => pg_name (i := 13) sc_law.nd rfl (by first | exact Or.inl rfl | exact Or.inr rfl)) (fun _ _ _ _ _ => pts_nil) (fun _ _ _ _ _ => pe_cmpR (opEq (hu64 hr)) (pe_callB callLen (by rfl) T.b_len (by decide +kernel) (pa_cons (pv 13) pa_nil)) (pe_int) (nomark _))) (pa_nil))))) (pw_or1 (pt_cmpR op_notIn_seq (pv 5) (pe_call G_stuck (hr.mono (by decide)) (by rfl) m_stuck k_stuck b_stuck .nil pass0 (pa_cons (pv 3) (pa_nil))) (by rfl))))) (pss_one (ps_ret (pe_bl))) (pss_nil)))))
    (pss_cons (ps_set (i := 15) sc_law.nd rfl (by first | exact Or.inl rfl | exact Or.inr rfl) (pe_callTy call_tuple_of (by rfl) T.b_tuple (by decide +kernel) (pa_cons (pe_lc (own := [(("k" : Str), 7)]) rfl sc_law.nd (pi_any (pe_call G_stuck (hr.mono (by decide)) (by rfl) m_stuck k_stuck b_stuck .nil pass0 (pa_cons (pv 3) (pa_nil)))) (blkOk_by (own := [(("k" : Str), 7)]) (N := ["script", "state", "turn", "promises", "many", "number", "every", "k", "due", "way", "ways", "others", "meets", "row", "makers", "needy"]) (sc := defScope s_law) (by decide +kernel)) (fun _ _ _ _ _ => pg_name (i := 7) sc_law.nd rfl (by first | exact Or.inl rfl | exact Or.inr rfl)) (fun _ _ _ _ _ => pts_one (pt_cmpR op_gt (pe_callB callLen (by rfl) T.b_len (by decide +kernel) (pa_cons (pe_ix ix_seq (pe_ix ix_seq (pv 3) (pv 7) (fun _ _ => rfl)) (pe_int) (fun _ _ => rfl)) (pa_nil))) (pe_int) (nomark _))) (fun _ _ _ _ _ => pv 7)) (pa_nil))))
    (pss_one (ps_if (PW.pt (pw_and (pt_val (pe_call G_bears_itself (hr.mono (by decide)) (by rfl) m_bears_itself k_bears_itself b_bears_itself .nil pass0 (pa_cons (pv 3) (pa_cons (pv 15) (pa_nil))))) (pw_and1 (pt_val (pe_callB (cr_any rfl) (by rfl) T.b_any (by decide +kernel) (pa_cons (pe_lc (own := [(("k" : Str), 7)]) rfl sc_law.nd (pi_any (pv 15)) (blkOk_by (own := [(("k" : Str), 7)]) (N := ["script", "state", "turn", "promises", "many", "number", "every", "k", "due", "way", "ways", "others", "meets", "row", "makers", "needy"]) (sc := defScope s_law) (by decide +kernel)) (fun _ _ _ _ _ => pg_name (i := 7) sc_law.nd rfl (by first | exact Or.inl rfl | exact Or.inr rfl)) (fun _ _ _ _ _ => pts_nil) (fun _ _ _ _ _ => pe_cmpR op_in_seq (pv 7) (pe_call G_kept (hr.mono (by decide)) (by rfl) m_kept k_kept b_kept .nil pass0 (pa_cons (pv 3) (pa_nil))) (by rfl))) (pa_nil))))))) (pss_one (ps_ret (pe_bl))) (pss_nil))))))))))))))))))
    (pss_one (ps_ret (pe_bl)))))
    (xb := xb_law) (rs_seq (rs_asgO (ff_lst (rv_cons (rf_call (ra_cons (rf_var) (ra_nil))) (rv_cons (rf_int) (rv_nil)))))
    (rs_seq (rs_for (ri_rng1 (rf_int)) (rg_name) (rs_seq (rs_asg (rf_call (ra_ref (ra_nil))) rg_name)
    (rs_seq (rs_asg (rf_cbp pu_len) rg_name)
    (rs_seq (rs_asg (rf_call (ra_ref (ra_cons (rf_var) (ra_nil)))) rg_name)
    (rs_seq (rs_asg ((ff_lc (ri_rng1 (rf_var)) (rg_name) (rt_yes) (rf_call (ra_cons (rf_var) (ra_cons (rf_var) (ra_nil)))) (by decide)).rf) rg_name)
    (rs_seq (rs_if (rt_test (rf_op pu_ne.rf2 (rf_call (ra_cons (rf_var) (ra_nil))) (rf_cb rb_tuple (rv_cons ((ff_lc (ri_rng1 (rf_var)) (rg_name) (rt_test (rf_op pu_gt.rf2 (rf_cb pu_len.rfB (rv_cons (rf_ixP (rf_var)) (rv_nil))) (rf_int))) (rf_var) (by decide)).rf) (rv_nil))))) (rs_ret (rf_bl)) (rs_next))
    (rs_seq (rs_asg (rf_cb rb_tuple (rv_cons ((ff_lc (ri_any (rf_var)) (rg_name) (rt_yes) (rf_op rf_ix (rf_op rf_add ((ff_cb fu_sortI.rbf (rv_cons ((ff_lc (ri_any (rf_var)) (rg_name) (rt_yes) (rf_cbp pu_len) (by decide)).rf) (rv_nil))).rf) ((ff_lst (rv_cons (rf_int) (rv_nil))).rf)) (rf_int)) (by decide)).rf) (rv_nil))) rg_name)
    (rs_seq (rs_if (rt_test (rf_op pu_ne.rf2 (rf_call (ra_cons (rf_var) (ra_nil))) (rf_var))) (rs_ret (rf_bl)) (rs_next))
    (rs_seq (rs_asg (rf_call (ra_cons (rf_ixP (rf_var)) (ra_nil))) rg_name)
    (rs_seq (rs_if (rt_test (rf_op pu_ne.rf2 (rf_call (ra_cons (rf_var) (ra_cons (rf_var) (ra_nil)))) (rf_var))) (rs_ret (rf_bl)) (rs_next))
    (rs_seq (rs_asg (ff_lc (ri_rng1 (rf_var)) (rg_name) (rt_test (rf_op pu_ne.rf2 (rf_var) (rf_var))) (rf_var) (by decide)).rf rg_name)
    (rs_seq (rs_asg (ff_lc (ri_any (rf_call (ra_cons (rf_var) (ra_nil)))) (rg_name) (rt_B (rf_cb pu_all.rfB (rv_cons ((ff_lc (ri_any (rf_var)) (rg_name) (rt_yes) (rf_cb pu_any.rfB (rv_cons ((ff_lc (ri_any (rf_var)) (rg_name) (rt_yes) (rf_opR (pu_in (neg := false)) (rf_var)) (by decide)).rf) (rv_nil))) (by decide)).rf) (rv_nil)))) (rf_var) (by decide)).rf rg_name)
    (rs_seq (rs_if (rt_test (rf_op pu_ne.rf2 (rf_call (ra_cons (rf_var) (ra_cons (rf_var) (ra_nil)))) (rf_call (ra_cons (rf_var) (ra_nil))))) (rs_ret (rf_bl)) (rs_next))
    (rs_seq (rs_if (rt_test (rf_op pu_gt.rf2 (rf_cbp pu_len) (rf_int))) (rs_seq (rs_asg (rf_call (ra_cons (rf_var) (ra_cons (rf_var) (ra_nil)))) rg_name)
    (rs_seq (rs_if (rt_or (rt_test (rf_op pu_ne.rf2 (rf_ixP (rf_un pu_neg.rf1 (rf_int))) (rf_var))) (rt_or (rt_test (rf_op pu_notInD.rf2 (rf_cb rb_tuple (rv_cons ((ff_cbp fu_sortTI).rf) (rv_nil))) (rf_ixP (rf_var)))) (rt_test (rf_op pu_ne.rf2 (rf_op rf_ix (rf_ixP (rf_ixP (rf_int))) (rf_int)) (rf_int))))) (rs_ret (rf_bl)) (rs_next))
    (rs_seq (rs_for (ri_rng2 (rf_int) (rf_cbp pu_len)) (rg_name) (rs_if (rt_test (rf_op (pu_in (neg := true)).rf2 (rf_ixP (rf_op pu_sub.rf2 (rf_var) (rf_int))) (rf_op rf_ix (rf_ixP (rf_ixP (rf_var))) (rf_int)))) (rs_ret (rf_bl)) (rs_next)))
    (rs_if (rt_or (rt_test (rf_op pu_ne.rf2 (rf_call (ra_cons (rf_var) (ra_cons (rf_var) (ra_nil)))) ((ff_lst (rv_cons (rf_tup (rv_nil)) (rv_nil))).rf))) (rt_test (rf_op pu_ne.rf2 (rf_call (ra_cons (rf_var) (ra_cons (rf_var) (ra_nil)))) ((ff_lst (rv_nil)).rf)))) (rs_ret (rf_bl)) (rs_next))))) (rs_seq (rs_asg (rf_call (ra_cons (rf_var) (ra_cons (rf_var) (ra_nil)))) rg_name)
    (rs_if (rt_or (rt_not (rt_B (rf_cb pu_all.rfB (rv_cons ((ff_lc (ri_any (rf_var)) (rg_name) (rt_yes) (rf_op pu_eq.rf2 (rf_cbp pu_len) (rf_int)) (by decide)).rf) (rv_nil))))) (rt_test (rf_op (pu_in (neg := true)).rf2 (rf_var) (rf_call (ra_cons (rf_var) (ra_nil)))))) (rs_ret (rf_bl)) (rs_next))))
    (rs_seq (rs_asg (rf_cb rb_tuple (rv_cons ((ff_lc (ri_any (rf_call (ra_cons (rf_var) (ra_nil)))) (rg_name) (rt_test (rf_op pu_gt.rf2 (rf_cb pu_len.rfB (rv_cons (rf_op rf_ix (rf_ixP (rf_var)) (rf_int)) (rv_nil))) (rf_int))) (rf_var) (by decide)).rf) (rv_nil))) rg_name)
    (rs_if (rt_and (rt_B (rf_call (ra_cons (rf_var) (ra_cons (rf_var) (ra_nil))))) (rt_B (rf_cb pu_any.rfB (rv_cons ((ff_lc (ri_any (rf_var)) (rg_name) (rt_yes) (rf_op (pu_in (neg := false)).rf2 (rf_var) (rf_call (ra_cons (rf_var) (ra_nil)))) (by decide)).rf) (rv_nil))))) (rs_ret (rf_bl)) (rs_next)))))))))))))))))
    (rs_ret (rf_bl)))))
end
end K99
end

section
set_option maxRecDepth 100000
set_option maxHeartbeats 1000000
namespace K99
open PySem L2 Pw GBf
local macro_rules | `(tactic| walk_at "px") => `(tactic| simp (config := { failIfUnchanged := false }) only [Pw.nth_nil, Pw.nth_zero, Pw.nth_succ, Pw.put_zero, Pw.put_succ, Pw.shr_lst, Pw.shr_dK, Pw.shr_dT, Pw.shr_lls, Pw.selS_val, Pw.selS_own, Pw.kS_ap, Pw.kX_ap, Pw.kT_ap, Pw.kRB_ap, Pw.kRD_ap, Pw.kF_ap, Pw.selB_t, Pw.selB_f, Pw.selBl_bl, Pw.selN_un, Pw.selN_val, Pw.selN_own, Pw.noio_sel, Pw.selI_int, Pw.selR_lst, Pw.selR_tup, Pw.selR_ftup, Pw.selR_rng, Pw.selQ_lst, Pw.selQ_tup, Pw.revD_lst, Pw.revD_tup, Pw.selZ_lst, Pw.selZ_tup, Pw.selO_un, Pw.selO_val, Pw.k_now_ap, Pw.nOw_nil, Pw.nOw_cons, Pw.wipeE_nil, Pw.wipeE_cons, Pw.backE_nil, Pw.backE_cons, Pw.toSl_v, Pw.ioS_own, Pw.toSl_rf, Pw.rfs_nil, Pw.rfs_val, Pw.rfs_ref, Pw.argsOf_eq, Pw.argsOf_nil, Pw.argsOf_cons, Pw.selP_own, Pw.isNonD_non, Pw.isNonD_int, Pw.isNonD_str, Pw.isNonD_tup, Pw.isNonD_lst, Pw.isNonD_bl, Pw.selIx_val, Pw.selIx_own, Pw.selLls_own, Pw.selVI_int, Pw.selX_zero, Pw.selX_one, Pw.selX_last, Pw.selL_lst, Pw.selSz_tup, Pw.selSz_lst, Pw.selSz_fro, Pw.selOL_own, Pw.k_xVar1_ap, Pw.k_xVar2_ap, Pw.xVar_ap, Pw.xC_ap, Pw.k_xShr1_ap, Pw.xShr_ap, Pw.k_xOp3_ap, Pw.k_xOp2_ap, Pw.k_xOp1_ap, Pw.xOp_ap, Pw.k_xUn2_ap, Pw.k_xUn1_ap, Pw.xUn_ap, Pw.xNext_ap, Pw.xSeq_ap, Pw.xBreak_ap, Pw.xCont_ap, Pw.k_xDrop1_ap, Pw.xDrop_ap, Pw.xRet_ap, Pw.xRetN_ap, Pw.k_xIfS1_ap, Pw.xIfS_ap, Pw.xNever_ap, Pw.k_xB2_ap, Pw.k_xB1_ap, Pw.xB_ap, Pw.k_xAnd1_ap, Pw.xAnd_ap, Pw.k_xOr1_ap, Pw.xOr_ap, Pw.k_xNot1_ap, Pw.xNot_ap, Pw.k_xIf1_ap, Pw.xIf_ap, Pw.k_xAndV2_ap, Pw.k_xAndV1_ap, Pw.xAndV_ap, Pw.k_xOrV2_ap, Pw.k_xOrV1_ap, Pw.xOrV_ap, Pw.k_xNotV2_ap, Pw.k_xNotV1_ap, Pw.xNotV_ap, Pw.xYes_ap, Pw.xvNil_ap, Pw.k_xvCons2_ap, Pw.k_xvCons1_ap, Pw.xvCons_ap, Pw.k_xTup1_ap, Pw.xTup_ap, Pw.k_xLst1_ap, Pw.xLst_ap, Pw.k_xCB2_ap, Pw.k_xCB1_ap, Pw.xCB_ap, Pw.k_pk_ap, Pw.pk_ap, Pw.k_xOpL3_ap, Pw.k_xOpL2_ap, Pw.k_xOpL1_ap, Pw.xOpL_ap, Pw.k_xOpR3_ap, Pw.k_xOpR2_ap, Pw.k_xOpR1_ap, Pw.xOpR_ap, Pw.k_xCBp2_ap, Pw.k_xCBp1_ap, Pw.xCBp_ap, Pw.xgName_ap, Pw.xgNil_ap, Pw.k_xgCons1_ap, Pw.xgCons_ap, Pw.xgTup_ap, Pw.k_xAsg1_ap, Pw.xAsg_ap, Pw.k_xAsgO1_ap, Pw.xAsgO_ap, Pw.k_xAug2_ap, Pw.xAug_ap, Pw.k_xFor1_ap, Pw.xFor_ap, Pw.xForL_nil, Pw.k_forL_ap, Pw.k_xiAny2_ap, Pw.k_xiAny3_ap, Pw.k_xiAny1_ap, Pw.xiAny_ap, Pw.k_xiRev2_ap, Pw.k_xiRev1_ap, Pw.xiRev_ap, Pw.k_xRevE_lst, Pw.k_xRevE_tup, Pw.xRevE_ap, Pw.k_xiEnum2_ap, Pw.k_xiEnum1_ap, Pw.xiEnum_ap, Pw.k_xiZip3_ap, Pw.k_xiZip2_ap, Pw.k_xiZip1_ap, Pw.xiZip_ap, Pw.k_xiR12_ap, Pw.k_xiR11_ap, Pw.xiR1_ap, Pw.k_xiR24_ap, Pw.k_xiR22_ap, Pw.k_xiR21_ap, Pw.xiR2_ap, Pw.rgD_0, Pw.k_xLc3_ap, Pw.k_xLc2_ap, Pw.k_xLc1_ap, Pw.xLc_ap, Pw.k_xLcF3_ap, Pw.k_xLcF2_ap, Pw.k_xLcF1_ap, Pw.xLcF_ap, Pw.xaNil_ap, Pw.k_xaCons2_ap, Pw.k_xaCons1_ap, Pw.xaCons_ap, Pw.k_xaRef3_ap, Pw.kF1_ap, Pw.k_xaRef2_ap, Pw.k_xaRef1_ap, Pw.xaRef_ap, Pw.putBack_nil, Pw.putBack_val, Pw.k_putBack_ap, Pw.putBack_ref, Pw.k_xCall2_ap, Pw.k_xCall1_ap, Pw.xCall_ap, Pw.k_fnNx_ap, Pw.k_fnRt_ap, Pw.kNo_ap, Pw.fnX_ap, Pw.xI_ap, Pw.xIC_ap, Pw.xNeg_ap, Pw.xIsN_ap, Pw.xNotN_ap, Pw.xAdd_int, Pw.xAdd_str, Pw.xAdd_tup, Pw.xAdd_lst, Pw.xEqC_int, Pw.xEqC_str, Pw.xEqC_bl, Pw.xEqC_non, Pw.xEqC_ni, Pw.xEqC_in, Pw.k_xCh5_ap, Pw.k_xCh4_ap, Pw.k_xCh3_ap, Pw.k_xCh2b_ap, Pw.k_xCh2_ap, Pw.k_xCh1_ap, Pw.xChain_ap, Pw.xIx_lst, Pw.xIx_tup, Pw.k_xIxP2_ap, Pw.k_xIxP1_ap, Pw.xIxP_ap, Pw.k_xIx2V5_ap, Pw.k_xIx2V4_ap, Pw.k_xIx2V3_ap, Pw.k_xIx2V2_ap, Pw.k_xIx2V1_ap, Pw.xIx2V_ap, Pw.k_xSet26_ap, Pw.k_xSet25_ap, Pw.k_xSet24_ap, Pw.k_xSet23_ap, Pw.k_xSet22_ap, Pw.k_xSet21_ap, Pw.xSet2_ap, Pw.k_xSetRow5_ap, Pw.k_xSetRow4_ap, Pw.k_xSetRow3_ap, Pw.k_xSetRow2_ap, Pw.k_xSetRow1_ap, Pw.xSetRow_ap, Pw.xNoPart_ap, Pw.k_xPart2_ap, Pw.k_xPart1_ap, Pw.xPart_ap, Pw.k_xSl4_ap, Pw.k_xSl3_ap, Pw.k_xSl2_ap, Pw.k_xSl1_ap, Pw.xSl_ap, Pw.xLen_lst, Pw.xLen_tup, Pw.xLen_dK, Pw.xLen_str, Pw.xTupleOf_lst, Pw.xTupleOf_tup, Pw.xListOf_lst, Pw.xListOf_tup, Pw.xAbs_ap, Pw.xInt1_int, Pw.xInt1_bl, Pw.xMax2_ap, Pw.xMin2_ap, Pw.xAll_map, Pw.xAny_map, Pw.xSum_map, Pw.xSum_mapT, Pw.k_xAppend3_ap, Pw.k_xAppend2_ap, Pw.k_xAppend1_ap, Pw.xAppend_ap, Pw.k_xExtend4_ap, Pw.k_xExtend3_ap, Pw.k_xExtend2_ap, Pw.k_xExtend1_ap, Pw.xExtend_ap, Pw.k_xRev1_ap, Pw.xRev_ap, Pw.k_xSetIx6_ap, Pw.k_xSetIx5_ap, Pw.k_xSetIx4_ap, Pw.k_xSetIx3_ap, Pw.k_xSetIx2_ap, Pw.k_xSetIx1_ap, Pw.xSetIx_ap, Pw.kTr_ap, Pw.k_isL_ap, Pw.k_xIndexP3_ap, Pw.k_xIndexP2_ap, Pw.k_xIndexP1_ap, Pw.xIndexP_ap, Pw.xRange1_ap, Pw.getD_zero, Pw.getD_one, Pw.getD_two, Pw.getD_last, Pw.k_st_ap, Pw.k_xe_ap, Pw.kU_ap, Pw.k_lcB_ap, Pw.k_lcT_ap, Pw.k_xeF_lst, Pw.k_xf_ap, Pw.enum_rng0, Pw.zip_map, Pw.rev_rng, Pw.fre_un, Pw.fre_val, Pw.map_mp, Pw.all_tt, Pw.cut_mp, Pw.selDk_val, Pw.selDk_own, Pw.selODk_own, Pw.selK_int, Pw.selK_str, Pw.selSm_some, Pw.kTr2_ap, Pw.kTr3_ap, Pw.k_xDIn3_ap, Pw.k_xDIn2_ap, Pw.k_xDIn1_ap, Pw.xDIn_ap, Pw.k_xDGet4_ap, Pw.k_xDGet3_ap, Pw.k_xDGet2_ap, Pw.k_xDGet1_ap, Pw.xDGet_ap, Pw.k_xDGet13_ap, Pw.k_xDGet12_ap, Pw.k_xDGet11_ap, Pw.xDGet1_ap, Pw.k_xDGet24_ap, Pw.k_xDGet23_ap, Pw.k_xDGet22_ap, Pw.k_xDGet21_ap, Pw.xDGet2_ap, Pw.xDNew_ap, Pw.k_xDPut5_ap, Pw.k_xDPut4_ap, Pw.k_xDPut3_ap, Pw.k_xDPut2_ap, Pw.k_xDPut1_ap, Pw.xDPut_ap, Pw.k_xDisp13_ap, Pw.k_xDisp12_ap, Pw.k_xDisp11_ap, Pw.xDisp1_ap, Pw.selD2_ap, Pw.k_xDUpd3_ap, Pw.k_xDUpd2_ap, Pw.k_xDUpd1_ap, Pw.xDUpd_ap, Pw.k_xDc3_ap, Pw.k_xDc2_ap, Pw.k_xDc1_ap, Pw.xDc_ap, Pw.k_dcK2_ap, Pw.k_dcK_ap, Pw.k_dc_ap, Pw.lk_in, Pw.lk_get1, Pw.ptK_nat, Pw.ptV_nat, Pw.xSortSet_ap, Pw.k_xListR2_ap, Pw.k_xListR1_ap, Pw.xListR_ap, Pw.k_xRep3_ap, Pw.k_xRep2_ap, Pw.k_xRep1_ap, Pw.xRep_ap, Pw.xTupleF_lst, Pw.k_isF_ap, Pw.k_xTI2_ap, Pw.k_xTI1_ap, Pw.k_xTI_ap, Pw.xTIndexP_ap, Pw.k_whN_ap, Pw.k_whB_ap, Pw.xInC_lstN, Pw.xInC_tupN, Pw.xInC_nilT, Pw.k_xPopAt6_ap, Pw.k_xPopAt5_ap, Pw.k_xPopAt4_ap, Pw.k_xPopAt3_ap, Pw.k_xPopAt2_ap, Pw.k_xPopAt1_ap, Pw.xPopAt_ap, Pw.k_xTru2_ap, Pw.k_xTru1_ap, Pw.xTru_ap, Pw.k_xPop2_ap, Pw.k_xPop1_ap, Pw.xPop_ap, Pw.k_xDInE4_ap, Pw.k_xDInE3_ap, Pw.k_xDInE2_ap, Pw.k_xDInE1_ap, Pw.xDInE_ap, Pw.k_xRevB2_ap, Pw.k_xRevB1_ap, Pw.xRevB_ap, Pw.xSortA_ap, Pw.k_xLcO2_ap, Pw.k_xLcO1_ap, Pw.xLcO_ap, List.length_cons, List.length_nil, List.length_map, List.length_range, List.length_append, List.length_reverse, List.length_set, List.cons_append, List.nil_append, List.append_nil, List.reduceReplicate, List.take_succ_cons, List.take_zero, List.map_cons, List.map_nil, Nat.reduceSub, Nat.reduceAdd, Nat.reduceLT, Nat.reduceLeDiff, Nat.reduceEqDiff, Int.reduceAdd, Int.reduceSub, Int.reduceMul, Int.reduceNeg, Int.reduceToNat, Int.reduceLT, Int.reduceLE, Int.reduceEq, Int.reducePow, Int.toNat_natCast, List.nodup_cons, List.nodup_nil, List.not_mem_nil, List.set_cons_zero, List.set_cons_succ, List.reverse_cons, List.reverse_nil, Nat.zero_add, Int.sub_zero, Int.zero_add, ne_eq, reduceCtorEq, not_false_eq_true, not_true_eq_false, true_and, and_true, and_self, decide_true, decide_false, Bool.not_true, Bool.not_false, Bool.false_xor, Bool.true_xor, Bool.xor_false, Bool.xor_true, decide_eq_true_eq, eq_self, Nat.le_refl, Nat.zero_le, if_true, if_false, ite_true, ite_false, Bool.false_eq_true, reduceIte, reduceDIte, Int.lt_irrefl, Int.le_refl, ge_iff_le, gt_iff_lt])
local macro_rules | `(tactic| walk_at "pz") => `(tactic| simp (config := { failIfUnchanged := false }) only [Pw.nth_nil, Pw.nth_zero, Pw.nth_succ, Pw.put_zero, Pw.put_succ, Pw.shr_lst, Pw.shr_dK, Pw.shr_dT, Pw.shr_lls, Pw.selS_val, Pw.selS_own, Pw.kS_ap, Pw.kX_ap, Pw.kT_ap, Pw.kRB_ap, Pw.kRD_ap, Pw.kF_ap, Pw.selB_t, Pw.selB_f, Pw.selBl_bl, Pw.selN_un, Pw.selN_val, Pw.selN_own, Pw.noio_sel, Pw.selI_int, Pw.selR_lst, Pw.selR_tup, Pw.selR_ftup, Pw.selR_rng, Pw.selQ_lst, Pw.selQ_tup, Pw.revD_lst, Pw.revD_tup, Pw.selZ_lst, Pw.selZ_tup, Pw.selO_un, Pw.selO_val, Pw.k_now_ap, Pw.nOw_nil, Pw.nOw_cons, Pw.wipeE_nil, Pw.wipeE_cons, Pw.backE_nil, Pw.backE_cons, Pw.toSl_v, Pw.ioS_own, Pw.toSl_rf, Pw.rfs_nil, Pw.rfs_val, Pw.rfs_ref, Pw.argsOf_eq, Pw.argsOf_nil, Pw.argsOf_cons, Pw.selP_own, Pw.isNonD_non, Pw.isNonD_int, Pw.isNonD_str, Pw.isNonD_tup, Pw.isNonD_lst, Pw.isNonD_bl, Pw.selIx_val, Pw.selIx_own, Pw.selLls_own, Pw.selVI_int, Pw.selX_zero, Pw.selX_one, Pw.selX_last, Pw.selL_lst, Pw.selSz_tup, Pw.selSz_lst, Pw.selSz_fro, Pw.selOL_own, Pw.k_xVar1_ap, Pw.k_xVar2_ap, Pw.xVar_ap, Pw.xC_ap, Pw.k_xShr1_ap, Pw.xShr_ap, Pw.k_xOp3_ap, Pw.k_xOp2_ap, Pw.k_xOp1_ap, Pw.xOp_ap, Pw.k_xUn2_ap, Pw.k_xUn1_ap, Pw.xUn_ap, Pw.xNext_ap, Pw.xSeq_ap, Pw.xBreak_ap, Pw.xCont_ap, Pw.k_xDrop1_ap, Pw.xDrop_ap, Pw.xRet_ap, Pw.xRetN_ap, Pw.k_xIfS1_ap, Pw.xIfS_ap, Pw.xNever_ap, Pw.k_xB2_ap, Pw.k_xB1_ap, Pw.xB_ap, Pw.k_xAnd1_ap, Pw.xAnd_ap, Pw.k_xOr1_ap, Pw.xOr_ap, Pw.k_xNot1_ap, Pw.xNot_ap, Pw.k_xIf1_ap, Pw.xIf_ap, Pw.k_xAndV2_ap, Pw.k_xAndV1_ap, Pw.xAndV_ap, Pw.k_xOrV2_ap, Pw.k_xOrV1_ap, Pw.xOrV_ap, Pw.k_xNotV2_ap, Pw.k_xNotV1_ap, Pw.xNotV_ap, Pw.xYes_ap, Pw.xvNil_ap, Pw.k_xvCons2_ap, Pw.k_xvCons1_ap, Pw.xvCons_ap, Pw.k_xTup1_ap, Pw.xTup_ap, Pw.k_xLst1_ap, Pw.xLst_ap, Pw.k_xCB2_ap, Pw.k_xCB1_ap, Pw.xCB_ap, Pw.k_pk_ap, Pw.pk_ap, Pw.k_xOpL3_ap, Pw.k_xOpL2_ap, Pw.k_xOpL1_ap, Pw.xOpL_ap, Pw.k_xOpR3_ap, Pw.k_xOpR2_ap, Pw.k_xOpR1_ap, Pw.xOpR_ap, Pw.k_xCBp2_ap, Pw.k_xCBp1_ap, Pw.xCBp_ap, Pw.xgName_ap, Pw.xgNil_ap, Pw.k_xgCons1_ap, Pw.xgCons_ap, Pw.xgTup_ap, Pw.k_xAsg1_ap, Pw.xAsg_ap, Pw.k_xAsgO1_ap, Pw.xAsgO_ap, Pw.k_xAug2_ap, Pw.xAug_ap, Pw.k_xFor1_ap, Pw.xFor_ap, Pw.xForL_nil, Pw.k_forL_ap, Pw.k_xiAny2_ap, Pw.k_xiAny3_ap, Pw.k_xiAny1_ap, Pw.xiAny_ap, Pw.k_xiRev2_ap, Pw.k_xiRev1_ap, Pw.xiRev_ap, Pw.k_xRevE_lst, Pw.k_xRevE_tup, Pw.xRevE_ap, Pw.k_xiEnum2_ap, Pw.k_xiEnum1_ap, Pw.xiEnum_ap, Pw.k_xiZip3_ap, Pw.k_xiZip2_ap, Pw.k_xiZip1_ap, Pw.xiZip_ap, Pw.k_xiR12_ap, Pw.k_xiR11_ap, Pw.xiR1_ap, Pw.k_xiR24_ap, Pw.k_xiR22_ap, Pw.k_xiR21_ap, Pw.xiR2_ap, Pw.rgD_0, Pw.k_xLc3_ap, Pw.k_xLc2_ap, Pw.k_xLc1_ap, Pw.xLc_ap, Pw.k_xLcF3_ap, Pw.k_xLcF2_ap, Pw.k_xLcF1_ap, Pw.xLcF_ap, Pw.xaNil_ap, Pw.k_xaCons2_ap, Pw.k_xaCons1_ap, Pw.xaCons_ap, Pw.k_xaRef3_ap, Pw.kF1_ap, Pw.k_xaRef2_ap, Pw.k_xaRef1_ap, Pw.xaRef_ap, Pw.putBack_nil, Pw.putBack_val, Pw.k_putBack_ap, Pw.putBack_ref, Pw.k_xCall2_ap, Pw.k_xCall1_ap, Pw.xCall_ap, Pw.k_fnNx_ap, Pw.k_fnRt_ap, Pw.kNo_ap, Pw.fnX_ap, Pw.xI_ap, Pw.xIC_ap, Pw.xNeg_ap, Pw.xIsN_ap, Pw.xNotN_ap, Pw.xAdd_int, Pw.xAdd_str, Pw.xAdd_tup, Pw.xAdd_lst, Pw.xEqC_int, Pw.xEqC_str, Pw.xEqC_bl, Pw.xEqC_non, Pw.xEqC_ni, Pw.xEqC_in, Pw.k_xCh5_ap, Pw.k_xCh4_ap, Pw.k_xCh3_ap, Pw.k_xCh2b_ap, Pw.k_xCh2_ap, Pw.k_xCh1_ap, Pw.xChain_ap, Pw.xIx_lst, Pw.xIx_tup, Pw.k_xIxP2_ap, Pw.k_xIxP1_ap, Pw.xIxP_ap, Pw.k_xIx2V5_ap, Pw.k_xIx2V4_ap, Pw.k_xIx2V3_ap, Pw.k_xIx2V2_ap, Pw.k_xIx2V1_ap, Pw.xIx2V_ap, Pw.k_xSet26_ap, Pw.k_xSet25_ap, Pw.k_xSet24_ap, Pw.k_xSet23_ap, Pw.k_xSet22_ap, Pw.k_xSet21_ap, Pw.xSet2_ap, Pw.k_xSetRow5_ap, Pw.k_xSetRow4_ap, Pw.k_xSetRow3_ap, Pw.k_xSetRow2_ap, Pw.k_xSetRow1_ap, Pw.xSetRow_ap, Pw.xNoPart_ap, Pw.k_xPart2_ap, Pw.k_xPart1_ap, Pw.xPart_ap, Pw.k_xSl4_ap, Pw.k_xSl3_ap, Pw.k_xSl2_ap, Pw.k_xSl1_ap, Pw.xSl_ap, Pw.xLen_lst, Pw.xLen_tup, Pw.xLen_dK, Pw.xLen_str, Pw.xTupleOf_lst, Pw.xTupleOf_tup, Pw.xListOf_lst, Pw.xListOf_tup, Pw.xAbs_ap, Pw.xInt1_int, Pw.xInt1_bl, Pw.xMax2_ap, Pw.xMin2_ap, Pw.xAll_map, Pw.xAny_map, Pw.xSum_map, Pw.xSum_mapT, Pw.k_xAppend3_ap, Pw.k_xAppend2_ap, Pw.k_xAppend1_ap, Pw.xAppend_ap, Pw.k_xExtend4_ap, Pw.k_xExtend3_ap, Pw.k_xExtend2_ap, Pw.k_xExtend1_ap, Pw.xExtend_ap, Pw.k_xRev1_ap, Pw.xRev_ap, Pw.k_xSetIx6_ap, Pw.k_xSetIx5_ap, Pw.k_xSetIx4_ap, Pw.k_xSetIx3_ap, Pw.k_xSetIx2_ap, Pw.k_xSetIx1_ap, Pw.xSetIx_ap, Pw.kTr_ap, Pw.k_isL_ap, Pw.k_xIndexP3_ap, Pw.k_xIndexP2_ap, Pw.k_xIndexP1_ap, Pw.xIndexP_ap, Pw.xRange1_ap, Pw.getD_zero, Pw.getD_one, Pw.getD_two, Pw.getD_last, Pw.k_st_ap, Pw.k_xe_ap, Pw.kU_ap, Pw.k_lcB_ap, Pw.k_lcT_ap, Pw.k_xeF_lst, Pw.k_xf_ap, Pw.enum_rng0, Pw.zip_map, Pw.rev_rng, Pw.fre_un, Pw.fre_val, Pw.map_mp, Pw.all_tt, Pw.cut_mp, Pw.selDk_val, Pw.selDk_own, Pw.selODk_own, Pw.selK_int, Pw.selK_str, Pw.selSm_some, Pw.kTr2_ap, Pw.kTr3_ap, Pw.k_xDIn3_ap, Pw.k_xDIn2_ap, Pw.k_xDIn1_ap, Pw.xDIn_ap, Pw.k_xDGet4_ap, Pw.k_xDGet3_ap, Pw.k_xDGet2_ap, Pw.k_xDGet1_ap, Pw.xDGet_ap, Pw.k_xDGet13_ap, Pw.k_xDGet12_ap, Pw.k_xDGet11_ap, Pw.xDGet1_ap, Pw.k_xDGet24_ap, Pw.k_xDGet23_ap, Pw.k_xDGet22_ap, Pw.k_xDGet21_ap, Pw.xDGet2_ap, Pw.xDNew_ap, Pw.k_xDPut5_ap, Pw.k_xDPut4_ap, Pw.k_xDPut3_ap, Pw.k_xDPut2_ap, Pw.k_xDPut1_ap, Pw.xDPut_ap, Pw.k_xDisp13_ap, Pw.k_xDisp12_ap, Pw.k_xDisp11_ap, Pw.xDisp1_ap, Pw.selD2_ap, Pw.k_xDUpd3_ap, Pw.k_xDUpd2_ap, Pw.k_xDUpd1_ap, Pw.xDUpd_ap, Pw.k_xDc3_ap, Pw.k_xDc2_ap, Pw.k_xDc1_ap, Pw.xDc_ap, Pw.k_dcK2_ap, Pw.k_dcK_ap, Pw.k_dc_ap, Pw.lk_in, Pw.lk_get1, Pw.ptK_nat, Pw.ptV_nat, Pw.xSortSet_ap, Pw.k_xListR2_ap, Pw.k_xListR1_ap, Pw.xListR_ap, Pw.k_xRep3_ap, Pw.k_xRep2_ap, Pw.k_xRep1_ap, Pw.xRep_ap, Pw.xTupleF_lst, Pw.k_isF_ap, Pw.k_xTI2_ap, Pw.k_xTI1_ap, Pw.k_xTI_ap, Pw.xTIndexP_ap, Pw.k_whN_ap, Pw.k_whB_ap, Pw.xInC_lstN, Pw.xInC_tupN, Pw.xInC_nilT, Pw.k_xPopAt6_ap, Pw.k_xPopAt5_ap, Pw.k_xPopAt4_ap, Pw.k_xPopAt3_ap, Pw.k_xPopAt2_ap, Pw.k_xPopAt1_ap, Pw.xPopAt_ap, Pw.k_xTru2_ap, Pw.k_xTru1_ap, Pw.xTru_ap, Pw.k_xPop2_ap, Pw.k_xPop1_ap, Pw.xPop_ap, Pw.k_xDInE4_ap, Pw.k_xDInE3_ap, Pw.k_xDInE2_ap, Pw.k_xDInE1_ap, Pw.xDInE_ap, Pw.k_xRevB2_ap, Pw.k_xRevB1_ap, Pw.xRevB_ap, Pw.xSortA_ap, Pw.k_xLcO2_ap, Pw.k_xLcO1_ap, Pw.xLcO_ap, List.length_cons, List.length_nil, List.length_map, List.length_range, List.length_append, List.length_reverse, List.length_set, List.cons_append, List.nil_append, List.append_nil, List.reduceReplicate, List.take_succ_cons, List.take_zero, List.map_cons, List.map_nil, Nat.reduceSub, Nat.reduceAdd, Nat.reduceLT, Nat.reduceLeDiff, Nat.reduceEqDiff, Int.reduceAdd, Int.reduceSub, Int.reduceMul, Int.reduceNeg, Int.reduceToNat, Int.reduceLT, Int.reduceLE, Int.reduceEq, Int.reducePow, Int.toNat_natCast, List.nodup_cons, List.nodup_nil, List.not_mem_nil, List.set_cons_zero, List.set_cons_succ, List.reverse_cons, List.reverse_nil, Nat.zero_add, Int.sub_zero, Int.zero_add, ne_eq, reduceCtorEq, not_false_eq_true, not_true_eq_false, true_and, and_true, and_self, decide_true, decide_false, Bool.not_true, Bool.not_false, Bool.false_xor, Bool.true_xor, Bool.xor_false, Bool.xor_true, decide_eq_true_eq, eq_self, Nat.le_refl, Nat.zero_le, if_true, if_false, ite_true, ite_false, Bool.false_eq_true, reduceIte, reduceDIte, Int.lt_irrefl, Int.le_refl, ge_iff_le, gt_iff_lt, Pw.rng_snoc, Pw.selN_fre, Pw.selO_fre, Pw.getD_rng, Pw.selX_nat, Pw.rowD_rng, Pw.getD_rng0, Pw.xMin_map, Pw.xMin_mapT, Pw.xMax_map, Pw.xMax_mapT, Pw.sm_nat, Pw.lk_get, Pw.selN_nio, *])
/-- the numbers drawn so far -/
abbrev stD (L : Nat) (f : Nat → Nat) (c : Nat) : D := .lst [.lst ((List.range L).map fun i => D.int ((f i : Nat) : Int)), .int (c : Nat)]
theorem lawnext_ok {L : Nat} {f : Nat → Nat} {c M : Nat} {io : Bool} {R : D → List Sl → Prop} (hL : 0 < L) (hL2 : L ≤ 4000) (hc : c < 1000000) (hM : 0 < M)
    (k : ∀ r : Nat, r < M → R (.int (r : Nat)) [.own io (stD L f (c + 1)), .val (.int (M : Nat))]) : x__law_next [.own io (stD L f c), .val (.int (M : Nat))] R := by
  have e : (c : Int) + 1 = ((c + 1 : Nat) : Int) := by omega
  have h1 : CDivN ((c + 1 : Nat) : Int) (L : Int) := ⟨by omega, by omega⟩
  have h2 : ((L : Nat) : Int) ≠ 0 := by omega
  have h3 : (c + 1) % L < L := Nat.mod_lt _ hL
  have h4 : CMul (((c + 1) / L : Nat) : Int) 389 := cmul_r ⟨by decide, by decide⟩
  have h5 : CMul ((c + 1 : Nat) : Int) (((c + 1) / L : Nat) : Int) := cmul_l ⟨by omega, by omega⟩
  have h6 : ∀ x : Int, CMul x 17 := fun x => cmul_r ⟨by decide, by decide⟩
  have h7 : ((M : Nat) : Int) ≠ 0 := by omega
  unfold x__law_next xb__law_next
  simp only [stD]
  walk_at "pz"
  simp only [e, fdiv_nat]
  simp only [fmod_nat]
  walk_at "pz"
  have h8 : ((f ((c + 1) % L) : Nat) : Int) + (((c + 1) / L : Nat) : Int) * 389 + ((c + 1 : Nat) : Int) * (((c + 1) / L : Nat) : Int) * 17 = ((f ((c + 1) % L) + (c + 1) / L * 389 + (c + 1) * ((c + 1) / L) * 17 : Nat) : Int) := by
    simp only [Int.natCast_add, Int.natCast_mul]; rfl
  rw [h8, fmod_nat]
  exact k _ (Nat.mod_lt _ hM)
def natsD (ns : List Nat) : List D := ns.map fun n => D.int (n : Nat)
theorem nats_push {ns : List Nat} {x : Int} (h : 0 ≤ x) : natsD ns ++ [.int x] = natsD (ns ++ [x.toNat]) := by
  unfold natsD
  rw [List.map_append]
  simp [Int.toNat_of_nonneg h]
theorem nats_len {ns : List Nat} : (natsD ns).length = ns.length := by unfold natsD; simp
theorem lawstream_ok {ns : List Int} {R : D → List Sl → Prop} (h63 : ns.length ≤ 63)
    (k : ∀ (L : Nat) (f : Nat → Nat), 0 < L → L ≤ 4000 → R (.lst ((List.range L).map fun i => D.int ((f i : Nat) : Int))) [.val (.fro ns)]) : x__law_stream [.val (.fro ns)] R := by
  have h60 : Sm 60 := ⟨by decide, by decide⟩
  have h10 : Sm 10 := ⟨by decide, by decide⟩
  have hp : CPow 10 18 := ⟨by decide, by decide, by decide⟩
  have hd : ∀ x : Int, CDivN x 1009 := fun x => ⟨by decide, by decide⟩
  have hc1 : ∀ x : Int, CMul x 48271 := fun x => cmul_r ⟨by decide, by decide⟩
  have hc2 : ∀ x : Int, CMul 7 x := fun x => cmul_l ⟨by decide, by decide⟩
  have hc3 : ∀ x : Int, CMul x 69621 := fun x => cmul_r ⟨by decide, by decide⟩
  have n1 : (1009 : Int) ≠ 0 := by decide
  have n2 : (2147483647 : Int) ≠ 0 := by decide
  have n3 : (2147483629 : Int) ≠ 0 := by decide
  unfold x__law_stream xb__law_stream
  walk_at "pz"
  have hcut : (cutD ns none (some 63)).length ≤ 63 := by
    unfold cutD
    simp
    omega
  refine for_idx (fun i E => ∃ (xs : List Nat) (s2 s3 s4 s5 : Sl), E = [.val (.fro ns), .own false (.lst (natsD xs)), s2, s3, s4, s5] ∧ xs.length ≤ 60 * i ∧ fre s2 ∧ fre s3 ∧ fre s4 ∧ fre s5) ⟨[], _, _, _, _, rfl, Nat.zero_le _, fre_un, fre_un, fre_un, fre_un⟩ (fun i d hd0 E hE nx hnx => ?_) (fun E hE => ?_)
  · obtain ⟨xs, s2, s3, s4, s5, rfl, hlen, f2, f3, f4, f5⟩ := hE
    have hi : i < 63 := by
      have := (List.getElem?_eq_some_iff.mp hd0).1
      simp at this
      omega
    rw [List.getElem?_map] at hd0
    obtain ⟨z, _, rfl⟩ := Option.map_eq_some_iff.mp hd0
    walk_at "pz"
    refine selB_if ⟨fun hb => ?_, fun hb => ?_⟩
    · walk_at "pz"
      refine for_rng (fun j E => ∃ (ys : List Nat) (r : Int) (s4 s5 : Sl), E = [.val (.fro ns), .own false (.lst (natsD ys)), .val (.int z), .val (.int r), s4, s5] ∧ ys.length ≤ 60 * i + j ∧ fre s4 ∧ fre s5) ⟨xs, _, _, _, rfl, hlen, f4, f5⟩ (fun j hj E hE nx2 hnx2 => ?_) (fun E hE => ?_)
      · obtain ⟨ys, r, s4', s5', rfl, hl, f4', f5'⟩ := hE
        have hfm := fmod_pos (a := r) (b := 1009) (by decide)
        walk_at "pz"
        rw [nats_push hfm.1, nats_len]
        refine ⟨by omega, ?_⟩
        have hl2 : (ys ++ [(r.fmod 1009).toNat]).length ≤ 60 * i + (j + 1) := by rw [List.length_append, List.length_singleton]; omega
        refine selB_if ⟨fun hb => ?_, fun hb => ?_⟩
        · walk_at "pz"
          exact hnx _ ⟨_, _, _, _, _, rfl, by omega, fre_val, fre_val, fre_val, f5'⟩
        · walk_at "pz"
          exact hnx2 _ ⟨_, _, _, _, rfl, hl2, fre_val, f5'⟩
      · obtain ⟨ys, r, s4', s5', rfl, hl, f4', f5'⟩ := hE
        walk_at "pz"
        exact hnx _ ⟨_, _, _, _, _, rfl, by omega, fre_val, fre_val, f4', f5'⟩
    · walk_at "pz"
      refine for_rng (fun j E => ∃ (ys : List Nat) (r q : Int) (s4 : Sl), E = [.val (.fro ns), .own false (.lst (natsD ys)), .val (.int z), .val (.int r), s4, .val (.int q)] ∧ ys.length ≤ 60 * i + j ∧ fre s4) ⟨xs, _, _, _, rfl, hlen, f4⟩ (fun j hj E hE nx2 hnx2 => ?_) (fun E hE => ?_)
      · obtain ⟨ys, r, q, s4', rfl, hl, f4'⟩ := hE
        walk_at "pz"
        have hfm := fmod_pos (a := Int.fmod (Int.fmod (q * 48271 + 7 * ((j : Nat) : Int) + 11) 2147483647 * 69621 + (j : Nat)) 2147483629) (b := 1009) (by decide)
        rw [nats_push hfm.1, nats_len]
        refine ⟨by omega, hnx2 _ ⟨_, _, _, _, rfl, ?_, fre_val⟩⟩
        rw [List.length_append, List.length_singleton]; omega
      · obtain ⟨ys, r, q, s4', rfl, hl, f4'⟩ := hE
        walk_at "pz"
        exact hnx _ ⟨_, _, _, _, _, rfl, by omega, fre_val, fre_val, f4', fre_val⟩
  · obtain ⟨xs, s2, s3, s4, s5, rfl, hlen, f2, f3, f4, f5⟩ := hE
    rw [List.length_map] at hlen
    walk_at "pz"
    rw [nats_len]
    have last : ∀ ys : List Nat, 0 < ys.length → ys.length ≤ 4000 → R (.lst (natsD ys)) [.val (.fro ns)] := fun ys h1 h2 => by
      have := k ys.length (fun i => ys.getD i 0) h1 h2
      have e : natsD ys = (List.range ys.length).map fun i => D.int ((ys.getD i 0 : Nat) : Int) := by
        unfold natsD
        conv => lhs; rw [lst_rng ys 0, List.map_map]
        rfl
      rw [e]
      exact this
    refine selB_if ⟨fun hb => ?_, fun hb => ?_⟩
    · walk_at "pz"
      have e : natsD xs ++ [D.int 0] = natsD (xs ++ [0]) := nats_push (Int.le_refl 0)
      rw [e]
      refine ⟨by rw [nats_len]; omega, last _ (by simp) (by rw [List.length_append, List.length_singleton]; omega)⟩
    · walk_at "pz"
      have : xs.length ≠ 0 := fun z => by rw [z] at hb; simp at hb
      exact last _ (by omega) (by omega)
abbrev prD (m : Nat) (need : Nat → Int) (o : Nat → List Nat) : D := .tup ((List.range m).map fun k => D.tup [.int (need k), .tup ((o k).map fun x => D.int ((x : Nat) : Int))])
structure POk (m : Nat) (need : Nat → Int) (o : Nat → List Nat) : Prop where
  m24 : m ≤ 24
  asc : ∀ k, k < m → (o k).Pairwise (· < ·)
  lt : ∀ k x, k < m → x ∈ o k → x < m
  n0 : ∀ k, k < m → 0 ≤ need k
  n1 : ∀ k, k < m → need k ≤ ((o k).length : Nat) + 1
section
variable {m : Nat} {need : Nat → Int} {o : Nat → List Nat} {R : D → List Sl → Prop}
theorem POk.len (p : POk m need o) {k : Nat} (hk : k < m) : (o k).length ≤ m := nodup_len (sorted_nodup (p.asc k hk)) fun x hx => p.lt k x hk hx
theorem check_promise_ok (p : POk m need o) {k : Nat} (hk : k < m) (kk : R .non [.val (prD m need o), .val (.tup [.int (need k), .tup ((o k).map fun x => D.int ((x : Nat) : Int))])]) :
    x_check_promise [.val (prD m need o), .val (.tup [.int (need k), .tup ((o k).map fun x => D.int ((x : Nat) : Int))])] R := by
  have hl := p.len hk
  have hm := p.m24
  have h1 := p.n0 k hk
  have h2 := p.n1 k hk
  unfold x_check_promise xb_check_promise
  walk_at "pz"
  refine sortset_nat (by omega) fun zs hz hmz => ?_
  have ez : zs = o k := sorted_eq hz (p.asc k hk) hmz
  subst ez
  walk_at "pz"
  refine eq_natl (fun x hx => by have := p.lt k x hk hx; omega) ?_
  walk_at "pz"
  refine lc_map (fun _ => .bl true) (fun i hi kk hkk => ?_) (by simp; omega) ?_
  · have h6 : (0 : Int) ≤ (i : Int) := by omega
    have h7 : (i : Int) < (m : Int) := by have := p.lt k i hk hi; omega
    walk_at "pz"
    exact hkk _ ⟨rfl, fun _ h => h⟩
  · rw [List.nil_append]
    walk_at "pz"
theorem check_promises_ok (p : POk m need o) (k : R .non [.val (prD m need o)]) : x_check_promises [.val (prD m need o)] R := by
  have hm : ¬ (24 : Int) < (m : Int) := by have := p.m24; omega
  unfold x_check_promises xb_check_promises
  walk_at "pz"
  refine for_rng (fun i E => ∃ s1, E = [.val (prD m need o), s1] ∧ fre s1) ⟨_, rfl, fre_un⟩ (fun i hi E hE nx hnx => ?_) (fun E hE => ?_)
  · obtain ⟨s1, rfl, f1⟩ := hE
    walk_at "pz"
    refine check_promise_ok p hi ?_
    walk_at "pz"
    exact hnx _ ⟨_, rfl, fre_val⟩
  · obtain ⟨s1, rfl, f1⟩ := hE
    walk_at "pz"
theorem range_fil {P : Nat → Bool} {i : Nat} : (List.range (i + 1)).filter P = (List.range i).filter P ++ if P i = true then [i] else [] := by
  rw [List.range_succ, List.filter_append]
  congr 1
  by_cases h : P i = true
  · rw [if_pos h, List.filter_cons_of_pos h]; rfl
  · rw [if_neg h, List.filter_cons_of_neg h]; rfl
theorem rounds_of_ok (p : POk m need o) {br md : List Nat} (hnd : md.Nodup) (hmd : ∀ k ∈ md, k < m)
    (k : ∀ (l : List Nat) (F : Nat → Nat), RF m need o br md l F → R (.dK (kN l) (l.map fun v => D.int ((F v : Nat) : Int))) [.val (prD m need o), .val (.tup (br.map fun x => D.int ((x : Nat) : Int))), .val (.tup (md.map fun x => D.int ((x : Nat) : Int)))]) :
    x_rounds_of [.val (prD m need o), .val (.tup (br.map fun x => D.int ((x : Nat) : Int))), .val (.tup (md.map fun x => D.int ((x : Nat) : Int)))] R := by
  have hm := p.m24
  have hmdl := nodup_len hnd hmd
  unfold x_rounds_of xb_rounds_of
  walk_at "pz"
  refine dc_nat (acc := []) (fun _ => .int 0) (fun a ha kk hk => ?_) (by simp; omega) (by simpa using hnd) ?_
  · walk_at "pz"
    exact hk _ ⟨rfl, fun _ h => h⟩
  rw [List.nil_append]
  walk_at "pz"
  refine while_ok (n := m + 2) (fun q E => ∃ (T : Nat) (l : List Nat) (F : Nat → Nat) (go : Bool) (s4 s7 s8 s9 s10 : Sl), E = [.val (prD m need o), .val (.tup (br.map fun x => D.int ((x : Nat) : Int))), .val (.tup (md.map fun x => D.int ((x : Nat) : Int))), .own false (.dK (kN l) (l.map fun v => D.int ((F v : Nat) : Int))), s4, .val (.int ((T : Nat) : Int)), .val (.bl go), s7, s8, s9, s10] ∧
      fre s4 ∧ nio s7 ∧ fre s8 ∧ fre s9 ∧ fre s10 ∧ T + q = m + 2 ∧ (go = true → RI m need o br md T l F ∧ T ≤ l.length) ∧ (go = false → RF m need o br md l F ∧ T ≤ m + 1))
    ⟨0, md, fun _ => 0, true, _, _, _, _, _, rfl, fre_un, nio_un, fre_un, fre_un, fre_un, by omega, fun _ => ⟨ri_start hnd hmd, Nat.zero_le _⟩, fun h => by cases h⟩ (fun E hE => ?_) (fun q E hE nx hnx => ?_)
  · obtain ⟨T, l, F, go, _, _, _, _, _, _, _, _, _, _, _, hT, h1, h2⟩ := hE
    cases go with
    | true => obtain ⟨h3, h4⟩ := h1 rfl; have := nodup_len h3.nd h3.lt; omega
    | false => have := (h2 rfl).2; omega
  · obtain ⟨T, l, F, go, s4, s7, s8, s9, s10, rfl, f4, f7, f8, f9, f10, hT, h1, h2⟩ := hE
    cases go with
    | false =>
      have hR := k l F (h2 rfl).1
      clear h1 h2
      walk_at "pz"
    | true =>
      obtain ⟨hI, hTl⟩ := h1 rfl
      have hll := nodup_len hI.nd hI.lt
      clear h1 h2
      walk_at "pz"
      have eT : (T : Int) + 1 = ((T + 1 : Nat) : Int) := by omega
      generalize hPe : (fun k => decide (k ∉ l ∧ k ∉ br ∧ need k ≤ (cnt o l k : Nat))) = P
      have hP : ∀ k, P k = true ↔ (k ∉ l ∧ k ∉ br ∧ need k ≤ (cnt o l k : Nat)) := fun k => by rw [← hPe]; exact decide_eq_true_iff
      clear hPe
      refine for_rng (fun i E => ∃ (s4 s8 s9 s10 : Sl), E = [.val (prD m need o), .val (.tup (br.map fun x => D.int ((x : Nat) : Int))), .val (.tup (md.map fun x => D.int ((x : Nat) : Int))), .own false (.dK (kN l) (l.map fun v => D.int ((F v : Nat) : Int))), s4, .val (.int ((T + 1 : Nat) : Int)), .val (.bl true), .own false (.lst (((List.range i).filter P).map fun x => D.int ((x : Nat) : Int))), s8, s9, s10] ∧
          fre s4 ∧ fre s8 ∧ fre s9 ∧ fre s10) ⟨_, _, _, _, rfl, f4, f8, f9, f10⟩ (fun i hi E hE nx2 hnx2 => ?_) (fun E hE => ?_)
      · obtain ⟨s4, s8, s9, s10, rfl, f4, f8, f9, f10⟩ := hE
        have hfl : ((List.range i).filter P).length < 16777216 := by have := List.length_filter_le P (List.range i); rw [List.length_range] at this; omega
        walk_at "pz"
        by_cases h1 : i ∈ l
        · have hPi : ¬ P i = true := fun z => ((hP i).mp z).1 h1
          walk_at "pz"
          rw [range_fil, if_neg hPi, List.append_nil] at hnx2; exact hnx2 _ ⟨_, _, _, _, rfl, fre_val, fre_val, fre_val, f10⟩
        · walk_at "pz"
          by_cases h2 : i ∈ br
          · have hPi : ¬ P i = true := fun z => ((hP i).mp z).2.1 h2
            walk_at "pz"
            rw [range_fil, if_neg hPi, List.append_nil] at hnx2; exact hnx2 _ ⟨_, _, _, _, rfl, fre_val, fre_val, fre_val, f10⟩
          · walk_at "pz"
            refine lc_fil (fun x => decide (x ∈ l)) (fun x => D.int ((x : Nat) : Int)) (fun x hx kk kf hk hkf => ?_) (by have := p.len hi; simp; omega) ?_
            · walk_at "pz"
              by_cases h3 : x ∈ l
              · walk_at "pz"
                exact hk (decide_eq_true h3) _ ⟨rfl, fun _ h => h⟩
              · walk_at "pz"
                exact hkf (decide_eq_false h3) _ ⟨rfl, fun _ h => h⟩
            · rw [List.nil_append]
              walk_at "pz"
              by_cases h3 : need i ≤ (((o i).filter fun x => decide (x ∈ l)).length : Nat)
              · have hPi : P i = true := (hP i).mpr ⟨h1, h2, h3⟩
                walk_at "pz"
                rw [range_fil, if_pos hPi, List.map_append] at hnx2; exact hnx2 _ ⟨_, _, _, _, rfl, fre_val, fre_val, fre_val, f10⟩
              · have hPi : ¬ P i = true := fun z => h3 ((hP i).mp z).2.2
                walk_at "pz"
                rw [range_fil, if_neg hPi, List.append_nil] at hnx2; exact hnx2 _ ⟨_, _, _, _, rfl, fre_val, fre_val, fre_val, f10⟩
      · obtain ⟨s4, s8, s9, s10, rfl, f4, f8, f9, f10⟩ := hE
        have hfl : ((List.range m).filter P).length ≤ m := by have := List.length_filter_le P (List.range m); rw [List.length_range] at this; omega
        have hfr : ∀ k, k ∈ (List.range m).filter P ↔ k < m ∧ k ∉ l ∧ k ∉ br ∧ need k ≤ (cnt o l k : Nat) := fun k => by rw [List.mem_filter, List.mem_range, hP]
        have hfn : ((List.range m).filter P).Nodup := sorted_nodup fil_sorted
        generalize (List.range m).filter P = fr at *
        walk_at "pz"
        refine dc_nat (acc := []) (fun _ => .int ((T + 1 : Nat) : Int)) (fun a ha kk hk => ?_) (by simp; omega) (by simpa using hfn) ?_
        · walk_at "pz"
          exact hk _ ⟨rfl, fun _ h => h⟩
        rw [List.nil_append]
        walk_at "pz"
        have dis : ∀ k ∈ l, k ∉ fr := fun k h1 h2 => ((hfr k).mp h2).2.1 h1
        have e1 : (l.map fun v => D.int ((F v : Nat) : Int)) = l.map fun v => D.int (((if v ∈ fr then T + 1 else F v : Nat)) : Int) := List.map_congr_left fun v hv => by rw [if_neg (dis v hv)]
        have e2 : (fr.map fun v => D.int ((T + 1 : Nat) : Int)) = fr.map fun v => D.int (((if v ∈ fr then T + 1 else F v : Nat)) : Int) := List.map_congr_left fun v hv => by rw [if_pos hv]
        obtain ⟨m1, m2⟩ := mg_nat (g := fun v => D.int (((if v ∈ fr then T + 1 else F v : Nat)) : Int)) (l := l) (fr := fr) (List.nodup_append.mpr ⟨hI.nd, hfn, fun a ha b hb e => dis a ha (by rw [e]; exact hb)⟩)
        rw [e1, e2, m1, m2]
        have hRI := ri_turn hI hfn hfr
        refine ⟨by omega, hnx _ ⟨T + 1, l ++ fr, fun x => if x ∈ fr then T + 1 else F x, _, _, _, _, _, _, rfl, f4, nio_val, f8, f9, f10, by omega, fun h => ⟨hRI, ?_⟩, fun h => ⟨?_, ?_⟩⟩⟩
        · have := of_decide_eq_true h
          rw [List.length_append]; omega
        · have hl0 : fr.length = 0 := by have := of_decide_eq_false h; omega
          have hl0 : fr = [] := List.eq_nil_of_length_eq_zero hl0
          subst hl0
          have := ri_end hI (by omega) fun k hk => by have := (hfr k).mpr hk; cases this
          simpa using this
        · omega
theorem kept_ok (p : POk m need o) (k : ∀ (l : List Nat) (F : Nat → Nat), RF m need o [] [] l F → ∀ zs : List Nat, zs.Perm l → zs.Pairwise (· < ·) → R (.tup (zs.map fun x => D.int ((x : Nat) : Int))) [.val (prD m need o)]) : x_kept [.val (prD m need o)] R := by
  unfold x_kept xb_kept
  walk_at "pz"
  refine check_promises_ok p ?_
  walk_at "pz"
  refine rounds_of_ok p (br := []) (md := []) (by simp) (by simp) fun l F h => ?_
  walk_at "pz"
  refine xSortD_nat (by have := nodup_len h.nd h.lt; have := p.m24; omega) h.nd fun zs hz hzs => ?_
  walk_at "pz"
  exact k l F h zs hz hzs
theorem stuck_ok (p : POk m need o) (k : ∀ (l : List Nat) (F : Nat → Nat), RF m need o [] [] l F → R (.tup (((List.range m).filter fun k => decide (k ∉ l)).map fun x => D.int ((x : Nat) : Int))) [.val (prD m need o)]) : x_stuck [.val (prD m need o)] R := by
  have hm := p.m24
  have hsm : Sm (m : Int) := sm_nat (by omega)
  unfold x_stuck xb_stuck
  walk_at "pz"
  refine check_promises_ok p ?_
  walk_at "pz"
  refine rounds_of_ok p (br := []) (md := []) (by simp) (by simp) fun l F h => ?_
  have := k l F h
  clear k
  walk_at "pz"
  refine lc_fil (fun k => decide (k ∉ l)) (fun x => D.int ((x : Nat) : Int)) (fun x hx kk kf hk hkf => ?_) (by simp; omega) ?_
  · walk_at "pz"
    by_cases h3 : x ∈ l
    · walk_at "pz"
      exact hkf (by simp [h3]) _ ⟨rfl, fun _ h => h⟩
    · walk_at "pz"
      exact hk (by simp [h3]) _ ⟨rfl, fun _ h => h⟩
  · rw [List.nil_append]
    walk_at "pz"
theorem rounds_ok (p : POk m need o) (k : ∀ (l : List Nat) (F : Nat → Nat), RF m need o [] [] l F → R (.tup ((List.range m).map fun k => D.int ((if k ∈ l then F k else 0 : Nat) : Int))) [.val (prD m need o)]) : x_rounds [.val (prD m need o)] R := by
  have hm := p.m24
  have hsm : Sm (m : Int) := sm_nat (by omega)
  unfold x_rounds xb_rounds
  walk_at "pz"
  refine check_promises_ok p ?_
  walk_at "pz"
  refine rounds_of_ok p (br := []) (md := []) (by simp) (by simp) fun l F h => ?_
  have := k l F h
  clear k
  walk_at "pz"
  refine lc_rng (fun k => D.int ((if k ∈ l then F k else 0 : Nat) : Int)) (fun x hx kk hk => ?_) (by omega) ?_
  · walk_at "pz"
    by_cases h3 : x ∈ l
    · simp only [if_pos h3] at hk ⊢
      exact hk _ ⟨rfl, fun _ h => h⟩
    · simp only [if_neg h3] at hk ⊢
      exact hk _ ⟨rfl, fun _ h => h⟩
  · walk_at "pz"
theorem check_number_ok {q : Nat} (hq : q < m) (k : R .non [.val (prD m need o), .val (.int (q : Nat))]) : x_check_number [.val (prD m need o), .val (.int (q : Nat))] R := by
  have h1 : (0 : Int) ≤ (q : Int) := by omega
  have h2 : (q : Int) < (m : Int) := by omega
  unfold x_check_number xb_check_number
  walk_at "pz"
end
end K99
end

section
set_option maxRecDepth 100000
set_option maxHeartbeats 1000000
namespace K99
open PySem L2 Pw GBf
local macro_rules | `(tactic| walk_at "px") => `(tactic| simp (config := { failIfUnchanged := false }) only [Pw.nth_nil, Pw.nth_zero, Pw.nth_succ, Pw.put_zero, Pw.put_succ, Pw.shr_lst, Pw.shr_dK, Pw.shr_dT, Pw.shr_lls, Pw.selS_val, Pw.selS_own, Pw.kS_ap, Pw.kX_ap, Pw.kT_ap, Pw.kRB_ap, Pw.kRD_ap, Pw.kF_ap, Pw.selB_t, Pw.selB_f, Pw.selBl_bl, Pw.selN_un, Pw.selN_val, Pw.selN_own, Pw.noio_sel, Pw.selI_int, Pw.selR_lst, Pw.selR_tup, Pw.selR_ftup, Pw.selR_rng, Pw.selQ_lst, Pw.selQ_tup, Pw.revD_lst, Pw.revD_tup, Pw.selZ_lst, Pw.selZ_tup, Pw.selO_un, Pw.selO_val, Pw.k_now_ap, Pw.nOw_nil, Pw.nOw_cons, Pw.wipeE_nil, Pw.wipeE_cons, Pw.backE_nil, Pw.backE_cons, Pw.toSl_v, Pw.ioS_own, Pw.toSl_rf, Pw.rfs_nil, Pw.rfs_val, Pw.rfs_ref, Pw.argsOf_eq, Pw.argsOf_nil, Pw.argsOf_cons, Pw.selP_own, Pw.isNonD_non, Pw.isNonD_int, Pw.isNonD_str, Pw.isNonD_tup, Pw.isNonD_lst, Pw.isNonD_bl, Pw.selIx_val, Pw.selIx_own, Pw.selLls_own, Pw.selVI_int, Pw.selX_zero, Pw.selX_one, Pw.selX_last, Pw.selL_lst, Pw.selSz_tup, Pw.selSz_lst, Pw.selSz_fro, Pw.selOL_own, Pw.k_xVar1_ap, Pw.k_xVar2_ap, Pw.xVar_ap, Pw.xC_ap, Pw.k_xShr1_ap, Pw.xShr_ap, Pw.k_xOp3_ap, Pw.k_xOp2_ap, Pw.k_xOp1_ap, Pw.xOp_ap, Pw.k_xUn2_ap, Pw.k_xUn1_ap, Pw.xUn_ap, Pw.xNext_ap, Pw.xSeq_ap, Pw.xBreak_ap, Pw.xCont_ap, Pw.k_xDrop1_ap, Pw.xDrop_ap, Pw.xRet_ap, Pw.xRetN_ap, Pw.k_xIfS1_ap, Pw.xIfS_ap, Pw.xNever_ap, Pw.k_xB2_ap, Pw.k_xB1_ap, Pw.xB_ap, Pw.k_xAnd1_ap, Pw.xAnd_ap, Pw.k_xOr1_ap, Pw.xOr_ap, Pw.k_xNot1_ap, Pw.xNot_ap, Pw.k_xIf1_ap, Pw.xIf_ap, Pw.k_xAndV2_ap, Pw.k_xAndV1_ap, Pw.xAndV_ap, Pw.k_xOrV2_ap, Pw.k_xOrV1_ap, Pw.xOrV_ap, Pw.k_xNotV2_ap, Pw.k_xNotV1_ap, Pw.xNotV_ap, Pw.xYes_ap, Pw.xvNil_ap, Pw.k_xvCons2_ap, Pw.k_xvCons1_ap, Pw.xvCons_ap, Pw.k_xTup1_ap, Pw.xTup_ap, Pw.k_xLst1_ap, Pw.xLst_ap, Pw.k_xCB2_ap, Pw.k_xCB1_ap, Pw.xCB_ap, Pw.k_pk_ap, Pw.pk_ap, Pw.k_xOpL3_ap, Pw.k_xOpL2_ap, Pw.k_xOpL1_ap, Pw.xOpL_ap, Pw.k_xOpR3_ap, Pw.k_xOpR2_ap, Pw.k_xOpR1_ap, Pw.xOpR_ap, Pw.k_xCBp2_ap, Pw.k_xCBp1_ap, Pw.xCBp_ap, Pw.xgName_ap, Pw.xgNil_ap, Pw.k_xgCons1_ap, Pw.xgCons_ap, Pw.xgTup_ap, Pw.k_xAsg1_ap, Pw.xAsg_ap, Pw.k_xAsgO1_ap, Pw.xAsgO_ap, Pw.k_xAug2_ap, Pw.xAug_ap, Pw.k_xFor1_ap, Pw.xFor_ap, Pw.xForL_nil, Pw.k_forL_ap, Pw.k_xiAny2_ap, Pw.k_xiAny3_ap, Pw.k_xiAny1_ap, Pw.xiAny_ap, Pw.k_xiRev2_ap, Pw.k_xiRev1_ap, Pw.xiRev_ap, Pw.k_xRevE_lst, Pw.k_xRevE_tup, Pw.xRevE_ap, Pw.k_xiEnum2_ap, Pw.k_xiEnum1_ap, Pw.xiEnum_ap, Pw.k_xiZip3_ap, Pw.k_xiZip2_ap, Pw.k_xiZip1_ap, Pw.xiZip_ap, Pw.k_xiR12_ap, Pw.k_xiR11_ap, Pw.xiR1_ap, Pw.k_xiR24_ap, Pw.k_xiR22_ap, Pw.k_xiR21_ap, Pw.xiR2_ap, Pw.rgD_0, Pw.k_xLc3_ap, Pw.k_xLc2_ap, Pw.k_xLc1_ap, Pw.xLc_ap, Pw.k_xLcF3_ap, Pw.k_xLcF2_ap, Pw.k_xLcF1_ap, Pw.xLcF_ap, Pw.xaNil_ap, Pw.k_xaCons2_ap, Pw.k_xaCons1_ap, Pw.xaCons_ap, Pw.k_xaRef3_ap, Pw.kF1_ap, Pw.k_xaRef2_ap, Pw.k_xaRef1_ap, Pw.xaRef_ap, Pw.putBack_nil, Pw.putBack_val, Pw.k_putBack_ap, Pw.putBack_ref, Pw.k_xCall2_ap, Pw.k_xCall1_ap, Pw.xCall_ap, Pw.k_fnNx_ap, Pw.k_fnRt_ap, Pw.kNo_ap, Pw.fnX_ap, Pw.xI_ap, Pw.xIC_ap, Pw.xNeg_ap, Pw.xIsN_ap, Pw.xNotN_ap, Pw.xAdd_int, Pw.xAdd_str, Pw.xAdd_tup, Pw.xAdd_lst, Pw.xEqC_int, Pw.xEqC_str, Pw.xEqC_bl, Pw.xEqC_non, Pw.xEqC_ni, Pw.xEqC_in, Pw.k_xCh5_ap, Pw.k_xCh4_ap, Pw.k_xCh3_ap, Pw.k_xCh2b_ap, Pw.k_xCh2_ap, Pw.k_xCh1_ap, Pw.xChain_ap, Pw.xIx_lst, Pw.xIx_tup, Pw.k_xIxP2_ap, Pw.k_xIxP1_ap, Pw.xIxP_ap, Pw.k_xIx2V5_ap, Pw.k_xIx2V4_ap, Pw.k_xIx2V3_ap, Pw.k_xIx2V2_ap, Pw.k_xIx2V1_ap, Pw.xIx2V_ap, Pw.k_xSet26_ap, Pw.k_xSet25_ap, Pw.k_xSet24_ap, Pw.k_xSet23_ap, Pw.k_xSet22_ap, Pw.k_xSet21_ap, Pw.xSet2_ap, Pw.k_xSetRow5_ap, Pw.k_xSetRow4_ap, Pw.k_xSetRow3_ap, Pw.k_xSetRow2_ap, Pw.k_xSetRow1_ap, Pw.xSetRow_ap, Pw.xNoPart_ap, Pw.k_xPart2_ap, Pw.k_xPart1_ap, Pw.xPart_ap, Pw.k_xSl4_ap, Pw.k_xSl3_ap, Pw.k_xSl2_ap, Pw.k_xSl1_ap, Pw.xSl_ap, Pw.xLen_lst, Pw.xLen_tup, Pw.xLen_dK, Pw.xLen_str, Pw.xTupleOf_lst, Pw.xTupleOf_tup, Pw.xListOf_lst, Pw.xListOf_tup, Pw.xAbs_ap, Pw.xInt1_int, Pw.xInt1_bl, Pw.xMax2_ap, Pw.xMin2_ap, Pw.xAll_map, Pw.xAny_map, Pw.xSum_map, Pw.xSum_mapT, Pw.k_xAppend3_ap, Pw.k_xAppend2_ap, Pw.k_xAppend1_ap, Pw.xAppend_ap, Pw.k_xExtend4_ap, Pw.k_xExtend3_ap, Pw.k_xExtend2_ap, Pw.k_xExtend1_ap, Pw.xExtend_ap, Pw.k_xRev1_ap, Pw.xRev_ap, Pw.k_xSetIx6_ap, Pw.k_xSetIx5_ap, Pw.k_xSetIx4_ap, Pw.k_xSetIx3_ap, Pw.k_xSetIx2_ap, Pw.k_xSetIx1_ap, Pw.xSetIx_ap, Pw.kTr_ap, Pw.k_isL_ap, Pw.k_xIndexP3_ap, Pw.k_xIndexP2_ap, Pw.k_xIndexP1_ap, Pw.xIndexP_ap, Pw.xRange1_ap, Pw.getD_zero, Pw.getD_one, Pw.getD_two, Pw.getD_last, Pw.k_st_ap, Pw.k_xe_ap, Pw.kU_ap, Pw.k_lcB_ap, Pw.k_lcT_ap, Pw.k_xeF_lst, Pw.k_xf_ap, Pw.enum_rng0, Pw.zip_map, Pw.rev_rng, Pw.fre_un, Pw.fre_val, Pw.map_mp, Pw.all_tt, Pw.cut_mp, Pw.selDk_val, Pw.selDk_own, Pw.selODk_own, Pw.selK_int, Pw.selK_str, Pw.selSm_some, Pw.kTr2_ap, Pw.kTr3_ap, Pw.k_xDIn3_ap, Pw.k_xDIn2_ap, Pw.k_xDIn1_ap, Pw.xDIn_ap, Pw.k_xDGet4_ap, Pw.k_xDGet3_ap, Pw.k_xDGet2_ap, Pw.k_xDGet1_ap, Pw.xDGet_ap, Pw.k_xDGet13_ap, Pw.k_xDGet12_ap, Pw.k_xDGet11_ap, Pw.xDGet1_ap, Pw.k_xDGet24_ap, Pw.k_xDGet23_ap, Pw.k_xDGet22_ap, Pw.k_xDGet21_ap, Pw.xDGet2_ap, Pw.xDNew_ap, Pw.k_xDPut5_ap, Pw.k_xDPut4_ap, Pw.k_xDPut3_ap, Pw.k_xDPut2_ap, Pw.k_xDPut1_ap, Pw.xDPut_ap, Pw.k_xDisp13_ap, Pw.k_xDisp12_ap, Pw.k_xDisp11_ap, Pw.xDisp1_ap, Pw.selD2_ap, Pw.k_xDUpd3_ap, Pw.k_xDUpd2_ap, Pw.k_xDUpd1_ap, Pw.xDUpd_ap, Pw.k_xDc3_ap, Pw.k_xDc2_ap, Pw.k_xDc1_ap, Pw.xDc_ap, Pw.k_dcK2_ap, Pw.k_dcK_ap, Pw.k_dc_ap, Pw.lk_in, Pw.lk_get1, Pw.ptK_nat, Pw.ptV_nat, Pw.xSortSet_ap, Pw.k_xListR2_ap, Pw.k_xListR1_ap, Pw.xListR_ap, Pw.k_xRep3_ap, Pw.k_xRep2_ap, Pw.k_xRep1_ap, Pw.xRep_ap, Pw.xTupleF_lst, Pw.k_isF_ap, Pw.k_xTI2_ap, Pw.k_xTI1_ap, Pw.k_xTI_ap, Pw.xTIndexP_ap, Pw.k_whN_ap, Pw.k_whB_ap, Pw.xInC_lstN, Pw.xInC_tupN, Pw.xInC_nilT, Pw.k_xPopAt6_ap, Pw.k_xPopAt5_ap, Pw.k_xPopAt4_ap, Pw.k_xPopAt3_ap, Pw.k_xPopAt2_ap, Pw.k_xPopAt1_ap, Pw.xPopAt_ap, Pw.k_xTru2_ap, Pw.k_xTru1_ap, Pw.xTru_ap, Pw.k_xPop2_ap, Pw.k_xPop1_ap, Pw.xPop_ap, Pw.k_xDInE4_ap, Pw.k_xDInE3_ap, Pw.k_xDInE2_ap, Pw.k_xDInE1_ap, Pw.xDInE_ap, Pw.k_xRevB2_ap, Pw.k_xRevB1_ap, Pw.xRevB_ap, Pw.xSortA_ap, Pw.k_xLcO2_ap, Pw.k_xLcO1_ap, Pw.xLcO_ap, List.length_cons, List.length_nil, List.length_map, List.length_range, List.length_append, List.length_reverse, List.length_set, List.cons_append, List.nil_append, List.append_nil, List.reduceReplicate, List.take_succ_cons, List.take_zero, List.map_cons, List.map_nil, Nat.reduceSub, Nat.reduceAdd, Nat.reduceLT, Nat.reduceLeDiff, Nat.reduceEqDiff, Int.reduceAdd, Int.reduceSub, Int.reduceMul, Int.reduceNeg, Int.reduceToNat, Int.reduceLT, Int.reduceLE, Int.reduceEq, Int.reducePow, Int.toNat_natCast, List.nodup_cons, List.nodup_nil, List.not_mem_nil, List.set_cons_zero, List.set_cons_succ, List.reverse_cons, List.reverse_nil, Nat.zero_add, Int.sub_zero, Int.zero_add, ne_eq, reduceCtorEq, not_false_eq_true, not_true_eq_false, true_and, and_true, and_self, decide_true, decide_false, Bool.not_true, Bool.not_false, Bool.false_xor, Bool.true_xor, Bool.xor_false, Bool.xor_true, decide_eq_true_eq, eq_self, Nat.le_refl, Nat.zero_le, if_true, if_false, ite_true, ite_false, Bool.false_eq_true, reduceIte, reduceDIte, Int.lt_irrefl, Int.le_refl, ge_iff_le, gt_iff_lt])
local macro_rules | `(tactic| walk_at "pz") => `(tactic| simp (config := { failIfUnchanged := false }) only [Pw.nth_nil, Pw.nth_zero, Pw.nth_succ, Pw.put_zero, Pw.put_succ, Pw.shr_lst, Pw.shr_dK, Pw.shr_dT, Pw.shr_lls, Pw.selS_val, Pw.selS_own, Pw.kS_ap, Pw.kX_ap, Pw.kT_ap, Pw.kRB_ap, Pw.kRD_ap, Pw.kF_ap, Pw.selB_t, Pw.selB_f, Pw.selBl_bl, Pw.selN_un, Pw.selN_val, Pw.selN_own, Pw.noio_sel, Pw.selI_int, Pw.selR_lst, Pw.selR_tup, Pw.selR_ftup, Pw.selR_rng, Pw.selQ_lst, Pw.selQ_tup, Pw.revD_lst, Pw.revD_tup, Pw.selZ_lst, Pw.selZ_tup, Pw.selO_un, Pw.selO_val, Pw.k_now_ap, Pw.nOw_nil, Pw.nOw_cons, Pw.wipeE_nil, Pw.wipeE_cons, Pw.backE_nil, Pw.backE_cons, Pw.toSl_v, Pw.ioS_own, Pw.toSl_rf, Pw.rfs_nil, Pw.rfs_val, Pw.rfs_ref, Pw.argsOf_eq, Pw.argsOf_nil, Pw.argsOf_cons, Pw.selP_own, Pw.isNonD_non, Pw.isNonD_int, Pw.isNonD_str, Pw.isNonD_tup, Pw.isNonD_lst, Pw.isNonD_bl, Pw.selIx_val, Pw.selIx_own, Pw.selLls_own, Pw.selVI_int, Pw.selX_zero, Pw.selX_one, Pw.selX_last, Pw.selL_lst, Pw.selSz_tup, Pw.selSz_lst, Pw.selSz_fro, Pw.selOL_own, Pw.k_xVar1_ap, Pw.k_xVar2_ap, Pw.xVar_ap, Pw.xC_ap, Pw.k_xShr1_ap, Pw.xShr_ap, Pw.k_xOp3_ap, Pw.k_xOp2_ap, Pw.k_xOp1_ap, Pw.xOp_ap, Pw.k_xUn2_ap, Pw.k_xUn1_ap, Pw.xUn_ap, Pw.xNext_ap, Pw.xSeq_ap, Pw.xBreak_ap, Pw.xCont_ap, Pw.k_xDrop1_ap, Pw.xDrop_ap, Pw.xRet_ap, Pw.xRetN_ap, Pw.k_xIfS1_ap, Pw.xIfS_ap, Pw.xNever_ap, Pw.k_xB2_ap, Pw.k_xB1_ap, Pw.xB_ap, Pw.k_xAnd1_ap, Pw.xAnd_ap, Pw.k_xOr1_ap, Pw.xOr_ap, Pw.k_xNot1_ap, Pw.xNot_ap, Pw.k_xIf1_ap, Pw.xIf_ap, Pw.k_xAndV2_ap, Pw.k_xAndV1_ap, Pw.xAndV_ap, Pw.k_xOrV2_ap, Pw.k_xOrV1_ap, Pw.xOrV_ap, Pw.k_xNotV2_ap, Pw.k_xNotV1_ap, Pw.xNotV_ap, Pw.xYes_ap, Pw.xvNil_ap, Pw.k_xvCons2_ap, Pw.k_xvCons1_ap, Pw.xvCons_ap, Pw.k_xTup1_ap, Pw.xTup_ap, Pw.k_xLst1_ap, Pw.xLst_ap, Pw.k_xCB2_ap, Pw.k_xCB1_ap, Pw.xCB_ap, Pw.k_pk_ap, Pw.pk_ap, Pw.k_xOpL3_ap, Pw.k_xOpL2_ap, Pw.k_xOpL1_ap, Pw.xOpL_ap, Pw.k_xOpR3_ap, Pw.k_xOpR2_ap, Pw.k_xOpR1_ap, Pw.xOpR_ap, Pw.k_xCBp2_ap, Pw.k_xCBp1_ap, Pw.xCBp_ap, Pw.xgName_ap, Pw.xgNil_ap, Pw.k_xgCons1_ap, Pw.xgCons_ap, Pw.xgTup_ap, Pw.k_xAsg1_ap, Pw.xAsg_ap, Pw.k_xAsgO1_ap, Pw.xAsgO_ap, Pw.k_xAug2_ap, Pw.xAug_ap, Pw.k_xFor1_ap, Pw.xFor_ap, Pw.xForL_nil, Pw.k_forL_ap, Pw.k_xiAny2_ap, Pw.k_xiAny3_ap, Pw.k_xiAny1_ap, Pw.xiAny_ap, Pw.k_xiRev2_ap, Pw.k_xiRev1_ap, Pw.xiRev_ap, Pw.k_xRevE_lst, Pw.k_xRevE_tup, Pw.xRevE_ap, Pw.k_xiEnum2_ap, Pw.k_xiEnum1_ap, Pw.xiEnum_ap, Pw.k_xiZip3_ap, Pw.k_xiZip2_ap, Pw.k_xiZip1_ap, Pw.xiZip_ap, Pw.k_xiR12_ap, Pw.k_xiR11_ap, Pw.xiR1_ap, Pw.k_xiR24_ap, Pw.k_xiR22_ap, Pw.k_xiR21_ap, Pw.xiR2_ap, Pw.rgD_0, Pw.k_xLc3_ap, Pw.k_xLc2_ap, Pw.k_xLc1_ap, Pw.xLc_ap, Pw.k_xLcF3_ap, Pw.k_xLcF2_ap, Pw.k_xLcF1_ap, Pw.xLcF_ap, Pw.xaNil_ap, Pw.k_xaCons2_ap, Pw.k_xaCons1_ap, Pw.xaCons_ap, Pw.k_xaRef3_ap, Pw.kF1_ap, Pw.k_xaRef2_ap, Pw.k_xaRef1_ap, Pw.xaRef_ap, Pw.putBack_nil, Pw.putBack_val, Pw.k_putBack_ap, Pw.putBack_ref, Pw.k_xCall2_ap, Pw.k_xCall1_ap, Pw.xCall_ap, Pw.k_fnNx_ap, Pw.k_fnRt_ap, Pw.kNo_ap, Pw.fnX_ap, Pw.xI_ap, Pw.xIC_ap, Pw.xNeg_ap, Pw.xIsN_ap, Pw.xNotN_ap, Pw.xAdd_int, Pw.xAdd_str, Pw.xAdd_tup, Pw.xAdd_lst, Pw.xEqC_int, Pw.xEqC_str, Pw.xEqC_bl, Pw.xEqC_non, Pw.xEqC_ni, Pw.xEqC_in, Pw.k_xCh5_ap, Pw.k_xCh4_ap, Pw.k_xCh3_ap, Pw.k_xCh2b_ap, Pw.k_xCh2_ap, Pw.k_xCh1_ap, Pw.xChain_ap, Pw.xIx_lst, Pw.xIx_tup, Pw.k_xIxP2_ap, Pw.k_xIxP1_ap, Pw.xIxP_ap, Pw.k_xIx2V5_ap, Pw.k_xIx2V4_ap, Pw.k_xIx2V3_ap, Pw.k_xIx2V2_ap, Pw.k_xIx2V1_ap, Pw.xIx2V_ap, Pw.k_xSet26_ap, Pw.k_xSet25_ap, Pw.k_xSet24_ap, Pw.k_xSet23_ap, Pw.k_xSet22_ap, Pw.k_xSet21_ap, Pw.xSet2_ap, Pw.k_xSetRow5_ap, Pw.k_xSetRow4_ap, Pw.k_xSetRow3_ap, Pw.k_xSetRow2_ap, Pw.k_xSetRow1_ap, Pw.xSetRow_ap, Pw.xNoPart_ap, Pw.k_xPart2_ap, Pw.k_xPart1_ap, Pw.xPart_ap, Pw.k_xSl4_ap, Pw.k_xSl3_ap, Pw.k_xSl2_ap, Pw.k_xSl1_ap, Pw.xSl_ap, Pw.xLen_lst, Pw.xLen_tup, Pw.xLen_dK, Pw.xLen_str, Pw.xTupleOf_lst, Pw.xTupleOf_tup, Pw.xListOf_lst, Pw.xListOf_tup, Pw.xAbs_ap, Pw.xInt1_int, Pw.xInt1_bl, Pw.xMax2_ap, Pw.xMin2_ap, Pw.xAll_map, Pw.xAny_map, Pw.xSum_map, Pw.xSum_mapT, Pw.k_xAppend3_ap, Pw.k_xAppend2_ap, Pw.k_xAppend1_ap, Pw.xAppend_ap, Pw.k_xExtend4_ap, Pw.k_xExtend3_ap, Pw.k_xExtend2_ap, Pw.k_xExtend1_ap, Pw.xExtend_ap, Pw.k_xRev1_ap, Pw.xRev_ap, Pw.k_xSetIx6_ap, Pw.k_xSetIx5_ap, Pw.k_xSetIx4_ap, Pw.k_xSetIx3_ap, Pw.k_xSetIx2_ap, Pw.k_xSetIx1_ap, Pw.xSetIx_ap, Pw.kTr_ap, Pw.k_isL_ap, Pw.k_xIndexP3_ap, Pw.k_xIndexP2_ap, Pw.k_xIndexP1_ap, Pw.xIndexP_ap, Pw.xRange1_ap, Pw.getD_zero, Pw.getD_one, Pw.getD_two, Pw.getD_last, Pw.k_st_ap, Pw.k_xe_ap, Pw.kU_ap, Pw.k_lcB_ap, Pw.k_lcT_ap, Pw.k_xeF_lst, Pw.k_xf_ap, Pw.enum_rng0, Pw.zip_map, Pw.rev_rng, Pw.fre_un, Pw.fre_val, Pw.map_mp, Pw.all_tt, Pw.cut_mp, Pw.selDk_val, Pw.selDk_own, Pw.selODk_own, Pw.selK_int, Pw.selK_str, Pw.selSm_some, Pw.kTr2_ap, Pw.kTr3_ap, Pw.k_xDIn3_ap, Pw.k_xDIn2_ap, Pw.k_xDIn1_ap, Pw.xDIn_ap, Pw.k_xDGet4_ap, Pw.k_xDGet3_ap, Pw.k_xDGet2_ap, Pw.k_xDGet1_ap, Pw.xDGet_ap, Pw.k_xDGet13_ap, Pw.k_xDGet12_ap, Pw.k_xDGet11_ap, Pw.xDGet1_ap, Pw.k_xDGet24_ap, Pw.k_xDGet23_ap, Pw.k_xDGet22_ap, Pw.k_xDGet21_ap, Pw.xDGet2_ap, Pw.xDNew_ap, Pw.k_xDPut5_ap, Pw.k_xDPut4_ap, Pw.k_xDPut3_ap, Pw.k_xDPut2_ap, Pw.k_xDPut1_ap, Pw.xDPut_ap, Pw.k_xDisp13_ap, Pw.k_xDisp12_ap, Pw.k_xDisp11_ap, Pw.xDisp1_ap, Pw.selD2_ap, Pw.k_xDUpd3_ap, Pw.k_xDUpd2_ap, Pw.k_xDUpd1_ap, Pw.xDUpd_ap, Pw.k_xDc3_ap, Pw.k_xDc2_ap, Pw.k_xDc1_ap, Pw.xDc_ap, Pw.k_dcK2_ap, Pw.k_dcK_ap, Pw.k_dc_ap, Pw.lk_in, Pw.lk_get1, Pw.ptK_nat, Pw.ptV_nat, Pw.xSortSet_ap, Pw.k_xListR2_ap, Pw.k_xListR1_ap, Pw.xListR_ap, Pw.k_xRep3_ap, Pw.k_xRep2_ap, Pw.k_xRep1_ap, Pw.xRep_ap, Pw.xTupleF_lst, Pw.k_isF_ap, Pw.k_xTI2_ap, Pw.k_xTI1_ap, Pw.k_xTI_ap, Pw.xTIndexP_ap, Pw.k_whN_ap, Pw.k_whB_ap, Pw.xInC_lstN, Pw.xInC_tupN, Pw.xInC_nilT, Pw.k_xPopAt6_ap, Pw.k_xPopAt5_ap, Pw.k_xPopAt4_ap, Pw.k_xPopAt3_ap, Pw.k_xPopAt2_ap, Pw.k_xPopAt1_ap, Pw.xPopAt_ap, Pw.k_xTru2_ap, Pw.k_xTru1_ap, Pw.xTru_ap, Pw.k_xPop2_ap, Pw.k_xPop1_ap, Pw.xPop_ap, Pw.k_xDInE4_ap, Pw.k_xDInE3_ap, Pw.k_xDInE2_ap, Pw.k_xDInE1_ap, Pw.xDInE_ap, Pw.k_xRevB2_ap, Pw.k_xRevB1_ap, Pw.xRevB_ap, Pw.xSortA_ap, Pw.k_xLcO2_ap, Pw.k_xLcO1_ap, Pw.xLcO_ap, List.length_cons, List.length_nil, List.length_map, List.length_range, List.length_append, List.length_reverse, List.length_set, List.cons_append, List.nil_append, List.append_nil, List.reduceReplicate, List.take_succ_cons, List.take_zero, List.map_cons, List.map_nil, Nat.reduceSub, Nat.reduceAdd, Nat.reduceLT, Nat.reduceLeDiff, Nat.reduceEqDiff, Int.reduceAdd, Int.reduceSub, Int.reduceMul, Int.reduceNeg, Int.reduceToNat, Int.reduceLT, Int.reduceLE, Int.reduceEq, Int.reducePow, Int.toNat_natCast, List.nodup_cons, List.nodup_nil, List.not_mem_nil, List.set_cons_zero, List.set_cons_succ, List.reverse_cons, List.reverse_nil, Nat.zero_add, Int.sub_zero, Int.zero_add, ne_eq, reduceCtorEq, not_false_eq_true, not_true_eq_false, true_and, and_true, and_self, decide_true, decide_false, Bool.not_true, Bool.not_false, Bool.false_xor, Bool.true_xor, Bool.xor_false, Bool.xor_true, decide_eq_true_eq, eq_self, Nat.le_refl, Nat.zero_le, if_true, if_false, ite_true, ite_false, Bool.false_eq_true, reduceIte, reduceDIte, Int.lt_irrefl, Int.le_refl, ge_iff_le, gt_iff_lt, Pw.rng_snoc, Pw.selN_fre, Pw.selO_fre, Pw.getD_rng, Pw.selX_nat, Pw.rowD_rng, Pw.getD_rng0, Pw.xMin_map, Pw.xMin_mapT, Pw.xMax_map, Pw.xMax_mapT, Pw.sm_nat, Pw.lk_get, Pw.selN_nio, *])
theorem roN : RO leN where
  total := leN_total
  trans := fun _ _ _ => leN_trans
  anti := fun _ _ => leN_anti
  len := fun _ _ => leN_len
section
variable {R : D → List Sl → Prop}
theorem least_of_ok {rows : List (List Nat)} (hz : rows.length ≤ 1000000) (hr : ∀ r ∈ rows, r.length ≤ 100) (k : R (.lst ((lea rows).map natT)) [.val (.lst (rows.map natT))]) : x_least_of [.val (.lst (rows.map natT))] R := by
  unfold x_least_of xb_least_of
  walk_at "pz"
  refine for_pre (e := natT) (fun pre E => ∃ s2, E = [.val (.lst (rows.map natT)), .own false (.lst ((lea pre).map natT)), s2, .un, .un] ∧ fre s2) ⟨_, rfl, fre_un⟩ (fun pre row post hrow E hE nx hnx => ?_) (fun E hE => ?_)
  · obtain ⟨s2, rfl, f2⟩ := hE
    have hpl : (lea pre).length ≤ pre.length := by have := lea_len (rows := pre) (acc := []); simpa [lea] using this
    have hpl2 : pre.length ≤ 1000000 := by rw [hrow] at hz; rw [List.length_append] at hz; omega
    have hll : ∀ less ∈ lea pre, less.length ≤ 100 := fun less hless => hr less (by rw [hrow]; exact List.mem_append_left _ (lea_in hless))
    clear hrow
    walk_at "pz"
    refine lcO_map (e := natT) (fun less => .bl (less.all fun one => decide (one ∈ row))) rfl (fun less hless kk hk => ?_) (by simp; omega) ?_
    · walk_at "pz"
      refine lc_map (fun one => .bl (decide (one ∈ row))) (fun one hone kk2 hk2 => ?_) (by have := hll less hless; simp; omega) ?_
      · walk_at "pz"
        exact hk2 _ ⟨rfl, fun _ h => h⟩
      · rw [List.nil_append]
        walk_at "pz"
        exact hk _ ⟨rfl, fun _ h => h⟩
    · rw [List.nil_append]
      walk_at "pz"
      have e := lea_snoc (pre := pre) (a := row)
      cases h : hasLess (lea pre) row with
      | true =>
        have h' : ((lea pre).any fun less => less.all fun one => decide (one ∈ row)) = true := h
        rw [ins, if_pos h] at e
        rw [e] at hnx
        walk_at "pz"
        exact hnx _ ⟨_, rfl, fre_val⟩
      | false =>
        have h' : ((lea pre).any fun less => less.all fun one => decide (one ∈ row)) = false := h
        rw [ins, if_neg (by rw [h]; decide)] at e
        rw [e] at hnx
        walk_at "pz"
        have e5 : (lea pre).map natT ++ [natT row] = (lea pre ++ [row]).map natT := by rw [List.map_append]; rfl
        rw [e5]
        exact ⟨by omega, hnx _ ⟨_, rfl, fre_val⟩⟩
  · obtain ⟨s2, rfl, f2⟩ := hE
    walk_at "pz"
theorem lawleast_ok {rows : List (List Nat)} (hz : rows.length ≤ 1000000) (hr : ∀ r ∈ rows, r.length ≤ 100) (k : R (.lst ((lea (rows.mergeSort leN)).map natT)) [.val (.lst (rows.map natT))]) : x__law_least [.val (.lst (rows.map natT))] R := by
  unfold x__law_least xb__law_least
  walk_at "pz"
  refine lc_map (e := natT) prN (fun r hrm kk hk => ?_) (by simp; omega) ?_
  · have := hr r hrm
    walk_at "pz"
    exact hk _ ⟨rfl, fun _ h => h⟩
  rw [List.nil_append]
  walk_at "pz"
  refine xSortAny_nat (by omega) ?_
  have hz2 : (rows.mergeSort leN).length ≤ 1000000 := by rw [List.length_mergeSort]; exact hz
  have hr2 : ∀ r ∈ rows.mergeSort leN, r.length ≤ 100 := fun r h => hr r ((List.mergeSort_perm _ _).mem_iff.mp h)
  generalize rows.mergeSort leN = srt at *
  walk_at "pz"
  refine for_pre (e := prN) (fun pre E => ∃ s2 s3, E = [.val (.lst (rows.map natT)), .own false (.lst ((lea pre).map natT)), s2, s3, .un, .un] ∧ fre s2 ∧ fre s3) ⟨_, _, rfl, fre_un, fre_un⟩ (fun pre row post hrow E hE nx hnx => ?_) (fun E hE => ?_)
  · obtain ⟨s2, s3, rfl, f2, f3⟩ := hE
    have hpl : (lea pre).length ≤ pre.length := by have := lea_len (rows := pre) (acc := []); simpa [lea] using this
    have hpl2 : pre.length ≤ 1000000 := by rw [hrow] at hz2; rw [List.length_append] at hz2; omega
    have hll : ∀ less ∈ lea pre, less.length ≤ 100 := fun less hless => hr2 less (by rw [hrow]; exact List.mem_append_left _ (lea_in hless))
    clear hrow
    walk_at "pz"
    refine lcO_map (e := natT) (fun less => .bl (less.all fun one => decide (one ∈ row))) rfl (fun less hless kk hk => ?_) (by simp; omega) ?_
    · walk_at "pz"
      refine lc_map (fun one => .bl (decide (one ∈ row))) (fun one hone kk2 hk2 => ?_) (by have := hll less hless; simp; omega) ?_
      · walk_at "pz"
        exact hk2 _ ⟨rfl, fun _ h => h⟩
      · rw [List.nil_append]
        walk_at "pz"
        exact hk _ ⟨rfl, fun _ h => h⟩
    · rw [List.nil_append]
      walk_at "pz"
      have e := lea_snoc (pre := pre) (a := row)
      cases h : hasLess (lea pre) row with
      | true =>
        have h' : ((lea pre).any fun less => less.all fun one => decide (one ∈ row)) = true := h
        rw [ins, if_pos h] at e
        rw [e] at hnx
        walk_at "pz"
        exact hnx _ ⟨_, _, rfl, fre_val, fre_val⟩
      | false =>
        have h' : ((lea pre).any fun less => less.all fun one => decide (one ∈ row)) = false := h
        rw [ins, if_neg (by rw [h]; decide)] at e
        rw [e] at hnx
        walk_at "pz"
        have e5 : (lea pre).map natT ++ [natT row] = (lea pre ++ [row]).map natT := by rw [List.map_append]; rfl
        rw [e5]
        exact ⟨by omega, hnx _ ⟨_, _, rfl, fre_val, fre_val⟩⟩
  · obtain ⟨s2, s3, rfl, f2, f3⟩ := hE
    walk_at "pz"
theorem bit_test {n k : Nat} : Builtin.bitAnd (((n : Nat) : Int) / 2 ^ k) 1 = if n.testBit k = true then 1 else 0 := by
  have e : ((n : Nat) : Int) / 2 ^ k = ((n / 2 ^ k : Nat) : Int) := by
    rw [Int.natCast_ediv, Int.natCast_pow]; rfl
  rw [e, PyProof.Rows.bitAnd_pp (Int.natCast_nonneg _) (by decide), Int.toNat_natCast]
  show (((n / 2 ^ k) &&& 1 : Nat) : Int) = _
  rw [Nat.and_one_is_mod, Nat.testBit_eq_decide_div_mod_eq]
  by_cases h : n / 2 ^ k % 2 = 1
  · simp [h]
  · have : n / 2 ^ k % 2 = 0 := by omega
    simp [this]
theorem subsets_ok {m : Nat} (hm : m ≤ 9) (k : R (.lst ((((List.range (2 ^ m)).map (bitRow m)).mergeSort leN).map natT)) [.val (.int (m : Nat))]) : x_subsets [.val (.int (m : Nat))] R := by
  have hp : 2 ^ m ≤ 512 := by
    have := Nat.pow_le_pow_right (n := 2) (by decide) hm
    simpa using this
  have h1 : CPow 1 ((m : Nat) : Int) := ⟨by omega, by omega, by decide⟩
  have h2 : (1 : Int) * 2 ^ m = ((2 ^ m : Nat) : Int) := by rw [Int.one_mul, Int.natCast_pow]; rfl
  have hs : Sm (((2 ^ m : Nat) : Nat) : Int) := sm_nat (by omega)
  have hs2 : Sm (m : Int) := sm_nat (by omega)
  unfold x_subsets xb_subsets
  walk_at "pz"
  refine lc_rng (fun n => natT (bitRow m n)) (fun n hn kk hk => ?_) (by omega) ?_
  · walk_at "pz"
    refine lc_fil (fun x => n.testBit x) (fun x => D.int ((x : Nat) : Int)) (fun x hx kk2 kf hk2 hkf => ?_) (by simp; omega) ?_
    · have h3 : (0 : Int) ≤ ((x : Nat) : Int) := by omega
      walk_at "pz"
      rw [bit_test]
      cases h4 : n.testBit x with
      | true =>
        walk_at "pz"
        exact hk2 h4 _ ⟨rfl, fun _ h => h⟩
      | false =>
        walk_at "pz"
        exact hkf h4 _ ⟨rfl, fun _ h => h⟩
    · rw [List.nil_append]
      walk_at "pz"
      exact hk _ ⟨rfl, fun _ h => h⟩
  · walk_at "pz"
    have e : ((List.range (2 ^ m)).map fun n => natT (bitRow m n)) = ((List.range (2 ^ m)).map (bitRow m)).map natT := by rw [List.map_map]; rfl
    rw [e]
    refine k_xSortA_nat (by simp; omega) (fun r hr => ?_) ?_
    · obtain ⟨n, _, rfl⟩ := List.mem_map.mp hr
      have : (bitRow m n).length ≤ m := by
        have := List.length_filter_le (fun k => n.testBit k) (List.range m)
        rw [List.length_range] at this
        exact this
      omega
    · exact k
end
end K99
end

section
set_option maxRecDepth 100000
set_option maxHeartbeats 1000000
namespace K99
open PySem L2 Pw GBf
local macro_rules | `(tactic| walk_at "px") => `(tactic| simp (config := { failIfUnchanged := false }) only [Pw.nth_nil, Pw.nth_zero, Pw.nth_succ, Pw.put_zero, Pw.put_succ, Pw.shr_lst, Pw.shr_dK, Pw.shr_dT, Pw.shr_lls, Pw.selS_val, Pw.selS_own, Pw.kS_ap, Pw.kX_ap, Pw.kT_ap, Pw.kRB_ap, Pw.kRD_ap, Pw.kF_ap, Pw.selB_t, Pw.selB_f, Pw.selBl_bl, Pw.selN_un, Pw.selN_val, Pw.selN_own, Pw.noio_sel, Pw.selI_int, Pw.selR_lst, Pw.selR_tup, Pw.selR_ftup, Pw.selR_rng, Pw.selQ_lst, Pw.selQ_tup, Pw.revD_lst, Pw.revD_tup, Pw.selZ_lst, Pw.selZ_tup, Pw.selO_un, Pw.selO_val, Pw.k_now_ap, Pw.nOw_nil, Pw.nOw_cons, Pw.wipeE_nil, Pw.wipeE_cons, Pw.backE_nil, Pw.backE_cons, Pw.toSl_v, Pw.ioS_own, Pw.toSl_rf, Pw.rfs_nil, Pw.rfs_val, Pw.rfs_ref, Pw.argsOf_eq, Pw.argsOf_nil, Pw.argsOf_cons, Pw.selP_own, Pw.isNonD_non, Pw.isNonD_int, Pw.isNonD_str, Pw.isNonD_tup, Pw.isNonD_lst, Pw.isNonD_bl, Pw.selIx_val, Pw.selIx_own, Pw.selLls_own, Pw.selVI_int, Pw.selX_zero, Pw.selX_one, Pw.selX_last, Pw.selL_lst, Pw.selSz_tup, Pw.selSz_lst, Pw.selSz_fro, Pw.selOL_own, Pw.k_xVar1_ap, Pw.k_xVar2_ap, Pw.xVar_ap, Pw.xC_ap, Pw.k_xShr1_ap, Pw.xShr_ap, Pw.k_xOp3_ap, Pw.k_xOp2_ap, Pw.k_xOp1_ap, Pw.xOp_ap, Pw.k_xUn2_ap, Pw.k_xUn1_ap, Pw.xUn_ap, Pw.xNext_ap, Pw.xSeq_ap, Pw.xBreak_ap, Pw.xCont_ap, Pw.k_xDrop1_ap, Pw.xDrop_ap, Pw.xRet_ap, Pw.xRetN_ap, Pw.k_xIfS1_ap, Pw.xIfS_ap, Pw.xNever_ap, Pw.k_xB2_ap, Pw.k_xB1_ap, Pw.xB_ap, Pw.k_xAnd1_ap, Pw.xAnd_ap, Pw.k_xOr1_ap, Pw.xOr_ap, Pw.k_xNot1_ap, Pw.xNot_ap, Pw.k_xIf1_ap, Pw.xIf_ap, Pw.k_xAndV2_ap, Pw.k_xAndV1_ap, Pw.xAndV_ap, Pw.k_xOrV2_ap, Pw.k_xOrV1_ap, Pw.xOrV_ap, Pw.k_xNotV2_ap, Pw.k_xNotV1_ap, Pw.xNotV_ap, Pw.xYes_ap, Pw.xvNil_ap, Pw.k_xvCons2_ap, Pw.k_xvCons1_ap, Pw.xvCons_ap, Pw.k_xTup1_ap, Pw.xTup_ap, Pw.k_xLst1_ap, Pw.xLst_ap, Pw.k_xCB2_ap, Pw.k_xCB1_ap, Pw.xCB_ap, Pw.k_pk_ap, Pw.pk_ap, Pw.k_xOpL3_ap, Pw.k_xOpL2_ap, Pw.k_xOpL1_ap, Pw.xOpL_ap, Pw.k_xOpR3_ap, Pw.k_xOpR2_ap, Pw.k_xOpR1_ap, Pw.xOpR_ap, Pw.k_xCBp2_ap, Pw.k_xCBp1_ap, Pw.xCBp_ap, Pw.xgName_ap, Pw.xgNil_ap, Pw.k_xgCons1_ap, Pw.xgCons_ap, Pw.xgTup_ap, Pw.k_xAsg1_ap, Pw.xAsg_ap, Pw.k_xAsgO1_ap, Pw.xAsgO_ap, Pw.k_xAug2_ap, Pw.xAug_ap, Pw.k_xFor1_ap, Pw.xFor_ap, Pw.xForL_nil, Pw.k_forL_ap, Pw.k_xiAny2_ap, Pw.k_xiAny3_ap, Pw.k_xiAny1_ap, Pw.xiAny_ap, Pw.k_xiRev2_ap, Pw.k_xiRev1_ap, Pw.xiRev_ap, Pw.k_xRevE_lst, Pw.k_xRevE_tup, Pw.xRevE_ap, Pw.k_xiEnum2_ap, Pw.k_xiEnum1_ap, Pw.xiEnum_ap, Pw.k_xiZip3_ap, Pw.k_xiZip2_ap, Pw.k_xiZip1_ap, Pw.xiZip_ap, Pw.k_xiR12_ap, Pw.k_xiR11_ap, Pw.xiR1_ap, Pw.k_xiR24_ap, Pw.k_xiR22_ap, Pw.k_xiR21_ap, Pw.xiR2_ap, Pw.rgD_0, Pw.k_xLc3_ap, Pw.k_xLc2_ap, Pw.k_xLc1_ap, Pw.xLc_ap, Pw.k_xLcF3_ap, Pw.k_xLcF2_ap, Pw.k_xLcF1_ap, Pw.xLcF_ap, Pw.xaNil_ap, Pw.k_xaCons2_ap, Pw.k_xaCons1_ap, Pw.xaCons_ap, Pw.k_xaRef3_ap, Pw.kF1_ap, Pw.k_xaRef2_ap, Pw.k_xaRef1_ap, Pw.xaRef_ap, Pw.putBack_nil, Pw.putBack_val, Pw.k_putBack_ap, Pw.putBack_ref, Pw.k_xCall2_ap, Pw.k_xCall1_ap, Pw.xCall_ap, Pw.k_fnNx_ap, Pw.k_fnRt_ap, Pw.kNo_ap, Pw.fnX_ap, Pw.xI_ap, Pw.xIC_ap, Pw.xNeg_ap, Pw.xIsN_ap, Pw.xNotN_ap, Pw.xAdd_int, Pw.xAdd_str, Pw.xAdd_tup, Pw.xAdd_lst, Pw.xEqC_int, Pw.xEqC_str, Pw.xEqC_bl, Pw.xEqC_non, Pw.xEqC_ni, Pw.xEqC_in, Pw.k_xCh5_ap, Pw.k_xCh4_ap, Pw.k_xCh3_ap, Pw.k_xCh2b_ap, Pw.k_xCh2_ap, Pw.k_xCh1_ap, Pw.xChain_ap, Pw.xIx_lst, Pw.xIx_tup, Pw.k_xIxP2_ap, Pw.k_xIxP1_ap, Pw.xIxP_ap, Pw.k_xIx2V5_ap, Pw.k_xIx2V4_ap, Pw.k_xIx2V3_ap, Pw.k_xIx2V2_ap, Pw.k_xIx2V1_ap, Pw.xIx2V_ap, Pw.k_xSet26_ap, Pw.k_xSet25_ap, Pw.k_xSet24_ap, Pw.k_xSet23_ap, Pw.k_xSet22_ap, Pw.k_xSet21_ap, Pw.xSet2_ap, Pw.k_xSetRow5_ap, Pw.k_xSetRow4_ap, Pw.k_xSetRow3_ap, Pw.k_xSetRow2_ap, Pw.k_xSetRow1_ap, Pw.xSetRow_ap, Pw.xNoPart_ap, Pw.k_xPart2_ap, Pw.k_xPart1_ap, Pw.xPart_ap, Pw.k_xSl4_ap, Pw.k_xSl3_ap, Pw.k_xSl2_ap, Pw.k_xSl1_ap, Pw.xSl_ap, Pw.xLen_lst, Pw.xLen_tup, Pw.xLen_dK, Pw.xLen_str, Pw.xTupleOf_lst, Pw.xTupleOf_tup, Pw.xListOf_lst, Pw.xListOf_tup, Pw.xAbs_ap, Pw.xInt1_int, Pw.xInt1_bl, Pw.xMax2_ap, Pw.xMin2_ap, Pw.xAll_map, Pw.xAny_map, Pw.xSum_map, Pw.xSum_mapT, Pw.k_xAppend3_ap, Pw.k_xAppend2_ap, Pw.k_xAppend1_ap, Pw.xAppend_ap, Pw.k_xExtend4_ap, Pw.k_xExtend3_ap, Pw.k_xExtend2_ap, Pw.k_xExtend1_ap, Pw.xExtend_ap, Pw.k_xRev1_ap, Pw.xRev_ap, Pw.k_xSetIx6_ap, Pw.k_xSetIx5_ap, Pw.k_xSetIx4_ap, Pw.k_xSetIx3_ap, Pw.k_xSetIx2_ap, Pw.k_xSetIx1_ap, Pw.xSetIx_ap, Pw.kTr_ap, Pw.k_isL_ap, Pw.k_xIndexP3_ap, Pw.k_xIndexP2_ap, Pw.k_xIndexP1_ap, Pw.xIndexP_ap, Pw.xRange1_ap, Pw.getD_zero, Pw.getD_one, Pw.getD_two, Pw.getD_last, Pw.k_st_ap, Pw.k_xe_ap, Pw.kU_ap, Pw.k_lcB_ap, Pw.k_lcT_ap, Pw.k_xeF_lst, Pw.k_xf_ap, Pw.enum_rng0, Pw.zip_map, Pw.rev_rng, Pw.fre_un, Pw.fre_val, Pw.map_mp, Pw.all_tt, Pw.cut_mp, Pw.selDk_val, Pw.selDk_own, Pw.selODk_own, Pw.selK_int, Pw.selK_str, Pw.selSm_some, Pw.kTr2_ap, Pw.kTr3_ap, Pw.k_xDIn3_ap, Pw.k_xDIn2_ap, Pw.k_xDIn1_ap, Pw.xDIn_ap, Pw.k_xDGet4_ap, Pw.k_xDGet3_ap, Pw.k_xDGet2_ap, Pw.k_xDGet1_ap, Pw.xDGet_ap, Pw.k_xDGet13_ap, Pw.k_xDGet12_ap, Pw.k_xDGet11_ap, Pw.xDGet1_ap, Pw.k_xDGet24_ap, Pw.k_xDGet23_ap, Pw.k_xDGet22_ap, Pw.k_xDGet21_ap, Pw.xDGet2_ap, Pw.xDNew_ap, Pw.k_xDPut5_ap, Pw.k_xDPut4_ap, Pw.k_xDPut3_ap, Pw.k_xDPut2_ap, Pw.k_xDPut1_ap, Pw.xDPut_ap, Pw.k_xDisp13_ap, Pw.k_xDisp12_ap, Pw.k_xDisp11_ap, Pw.xDisp1_ap, Pw.selD2_ap, Pw.k_xDUpd3_ap, Pw.k_xDUpd2_ap, Pw.k_xDUpd1_ap, Pw.xDUpd_ap, Pw.k_xDc3_ap, Pw.k_xDc2_ap, Pw.k_xDc1_ap, Pw.xDc_ap, Pw.k_dcK2_ap, Pw.k_dcK_ap, Pw.k_dc_ap, Pw.lk_in, Pw.lk_get1, Pw.ptK_nat, Pw.ptV_nat, Pw.xSortSet_ap, Pw.k_xListR2_ap, Pw.k_xListR1_ap, Pw.xListR_ap, Pw.k_xRep3_ap, Pw.k_xRep2_ap, Pw.k_xRep1_ap, Pw.xRep_ap, Pw.xTupleF_lst, Pw.k_isF_ap, Pw.k_xTI2_ap, Pw.k_xTI1_ap, Pw.k_xTI_ap, Pw.xTIndexP_ap, Pw.k_whN_ap, Pw.k_whB_ap, Pw.xInC_lstN, Pw.xInC_tupN, Pw.xInC_nilT, Pw.k_xPopAt6_ap, Pw.k_xPopAt5_ap, Pw.k_xPopAt4_ap, Pw.k_xPopAt3_ap, Pw.k_xPopAt2_ap, Pw.k_xPopAt1_ap, Pw.xPopAt_ap, Pw.k_xTru2_ap, Pw.k_xTru1_ap, Pw.xTru_ap, Pw.k_xPop2_ap, Pw.k_xPop1_ap, Pw.xPop_ap, Pw.k_xDInE4_ap, Pw.k_xDInE3_ap, Pw.k_xDInE2_ap, Pw.k_xDInE1_ap, Pw.xDInE_ap, Pw.k_xRevB2_ap, Pw.k_xRevB1_ap, Pw.xRevB_ap, Pw.xSortA_ap, Pw.k_xLcO2_ap, Pw.k_xLcO1_ap, Pw.xLcO_ap, List.length_cons, List.length_nil, List.length_map, List.length_range, List.length_append, List.length_reverse, List.length_set, List.cons_append, List.nil_append, List.append_nil, List.reduceReplicate, List.take_succ_cons, List.take_zero, List.map_cons, List.map_nil, Nat.reduceSub, Nat.reduceAdd, Nat.reduceLT, Nat.reduceLeDiff, Nat.reduceEqDiff, Int.reduceAdd, Int.reduceSub, Int.reduceMul, Int.reduceNeg, Int.reduceToNat, Int.reduceLT, Int.reduceLE, Int.reduceEq, Int.reducePow, Int.toNat_natCast, List.nodup_cons, List.nodup_nil, List.not_mem_nil, List.set_cons_zero, List.set_cons_succ, List.reverse_cons, List.reverse_nil, Nat.zero_add, Int.sub_zero, Int.zero_add, ne_eq, reduceCtorEq, not_false_eq_true, not_true_eq_false, true_and, and_true, and_self, decide_true, decide_false, Bool.not_true, Bool.not_false, Bool.false_xor, Bool.true_xor, Bool.xor_false, Bool.xor_true, decide_eq_true_eq, eq_self, Nat.le_refl, Nat.zero_le, if_true, if_false, ite_true, ite_false, Bool.false_eq_true, reduceIte, reduceDIte, Int.lt_irrefl, Int.le_refl, ge_iff_le, gt_iff_lt])
local macro_rules | `(tactic| walk_at "pz") => `(tactic| simp (config := { failIfUnchanged := false }) only [Pw.nth_nil, Pw.nth_zero, Pw.nth_succ, Pw.put_zero, Pw.put_succ, Pw.shr_lst, Pw.shr_dK, Pw.shr_dT, Pw.shr_lls, Pw.selS_val, Pw.selS_own, Pw.kS_ap, Pw.kX_ap, Pw.kT_ap, Pw.kRB_ap, Pw.kRD_ap, Pw.kF_ap, Pw.selB_t, Pw.selB_f, Pw.selBl_bl, Pw.selN_un, Pw.selN_val, Pw.selN_own, Pw.noio_sel, Pw.selI_int, Pw.selR_lst, Pw.selR_tup, Pw.selR_ftup, Pw.selR_rng, Pw.selQ_lst, Pw.selQ_tup, Pw.revD_lst, Pw.revD_tup, Pw.selZ_lst, Pw.selZ_tup, Pw.selO_un, Pw.selO_val, Pw.k_now_ap, Pw.nOw_nil, Pw.nOw_cons, Pw.wipeE_nil, Pw.wipeE_cons, Pw.backE_nil, Pw.backE_cons, Pw.toSl_v, Pw.ioS_own, Pw.toSl_rf, Pw.rfs_nil, Pw.rfs_val, Pw.rfs_ref, Pw.argsOf_eq, Pw.argsOf_nil, Pw.argsOf_cons, Pw.selP_own, Pw.isNonD_non, Pw.isNonD_int, Pw.isNonD_str, Pw.isNonD_tup, Pw.isNonD_lst, Pw.isNonD_bl, Pw.selIx_val, Pw.selIx_own, Pw.selLls_own, Pw.selVI_int, Pw.selX_zero, Pw.selX_one, Pw.selX_last, Pw.selL_lst, Pw.selSz_tup, Pw.selSz_lst, Pw.selSz_fro, Pw.selOL_own, Pw.k_xVar1_ap, Pw.k_xVar2_ap, Pw.xVar_ap, Pw.xC_ap, Pw.k_xShr1_ap, Pw.xShr_ap, Pw.k_xOp3_ap, Pw.k_xOp2_ap, Pw.k_xOp1_ap, Pw.xOp_ap, Pw.k_xUn2_ap, Pw.k_xUn1_ap, Pw.xUn_ap, Pw.xNext_ap, Pw.xSeq_ap, Pw.xBreak_ap, Pw.xCont_ap, Pw.k_xDrop1_ap, Pw.xDrop_ap, Pw.xRet_ap, Pw.xRetN_ap, Pw.k_xIfS1_ap, Pw.xIfS_ap, Pw.xNever_ap, Pw.k_xB2_ap, Pw.k_xB1_ap, Pw.xB_ap, Pw.k_xAnd1_ap, Pw.xAnd_ap, Pw.k_xOr1_ap, Pw.xOr_ap, Pw.k_xNot1_ap, Pw.xNot_ap, Pw.k_xIf1_ap, Pw.xIf_ap, Pw.k_xAndV2_ap, Pw.k_xAndV1_ap, Pw.xAndV_ap, Pw.k_xOrV2_ap, Pw.k_xOrV1_ap, Pw.xOrV_ap, Pw.k_xNotV2_ap, Pw.k_xNotV1_ap, Pw.xNotV_ap, Pw.xYes_ap, Pw.xvNil_ap, Pw.k_xvCons2_ap, Pw.k_xvCons1_ap, Pw.xvCons_ap, Pw.k_xTup1_ap, Pw.xTup_ap, Pw.k_xLst1_ap, Pw.xLst_ap, Pw.k_xCB2_ap, Pw.k_xCB1_ap, Pw.xCB_ap, Pw.k_pk_ap, Pw.pk_ap, Pw.k_xOpL3_ap, Pw.k_xOpL2_ap, Pw.k_xOpL1_ap, Pw.xOpL_ap, Pw.k_xOpR3_ap, Pw.k_xOpR2_ap, Pw.k_xOpR1_ap, Pw.xOpR_ap, Pw.k_xCBp2_ap, Pw.k_xCBp1_ap, Pw.xCBp_ap, Pw.xgName_ap, Pw.xgNil_ap, Pw.k_xgCons1_ap, Pw.xgCons_ap, Pw.xgTup_ap, Pw.k_xAsg1_ap, Pw.xAsg_ap, Pw.k_xAsgO1_ap, Pw.xAsgO_ap, Pw.k_xAug2_ap, Pw.xAug_ap, Pw.k_xFor1_ap, Pw.xFor_ap, Pw.xForL_nil, Pw.k_forL_ap, Pw.k_xiAny2_ap, Pw.k_xiAny3_ap, Pw.k_xiAny1_ap, Pw.xiAny_ap, Pw.k_xiRev2_ap, Pw.k_xiRev1_ap, Pw.xiRev_ap, Pw.k_xRevE_lst, Pw.k_xRevE_tup, Pw.xRevE_ap, Pw.k_xiEnum2_ap, Pw.k_xiEnum1_ap, Pw.xiEnum_ap, Pw.k_xiZip3_ap, Pw.k_xiZip2_ap, Pw.k_xiZip1_ap, Pw.xiZip_ap, Pw.k_xiR12_ap, Pw.k_xiR11_ap, Pw.xiR1_ap, Pw.k_xiR24_ap, Pw.k_xiR22_ap, Pw.k_xiR21_ap, Pw.xiR2_ap, Pw.rgD_0, Pw.k_xLc3_ap, Pw.k_xLc2_ap, Pw.k_xLc1_ap, Pw.xLc_ap, Pw.k_xLcF3_ap, Pw.k_xLcF2_ap, Pw.k_xLcF1_ap, Pw.xLcF_ap, Pw.xaNil_ap, Pw.k_xaCons2_ap, Pw.k_xaCons1_ap, Pw.xaCons_ap, Pw.k_xaRef3_ap, Pw.kF1_ap, Pw.k_xaRef2_ap, Pw.k_xaRef1_ap, Pw.xaRef_ap, Pw.putBack_nil, Pw.putBack_val, Pw.k_putBack_ap, Pw.putBack_ref, Pw.k_xCall2_ap, Pw.k_xCall1_ap, Pw.xCall_ap, Pw.k_fnNx_ap, Pw.k_fnRt_ap, Pw.kNo_ap, Pw.fnX_ap, Pw.xI_ap, Pw.xIC_ap, Pw.xNeg_ap, Pw.xIsN_ap, Pw.xNotN_ap, Pw.xAdd_int, Pw.xAdd_str, Pw.xAdd_tup, Pw.xAdd_lst, Pw.xEqC_int, Pw.xEqC_str, Pw.xEqC_bl, Pw.xEqC_non, Pw.xEqC_ni, Pw.xEqC_in, Pw.k_xCh5_ap, Pw.k_xCh4_ap, Pw.k_xCh3_ap, Pw.k_xCh2b_ap, Pw.k_xCh2_ap, Pw.k_xCh1_ap, Pw.xChain_ap, Pw.xIx_lst, Pw.xIx_tup, Pw.k_xIxP2_ap, Pw.k_xIxP1_ap, Pw.xIxP_ap, Pw.k_xIx2V5_ap, Pw.k_xIx2V4_ap, Pw.k_xIx2V3_ap, Pw.k_xIx2V2_ap, Pw.k_xIx2V1_ap, Pw.xIx2V_ap, Pw.k_xSet26_ap, Pw.k_xSet25_ap, Pw.k_xSet24_ap, Pw.k_xSet23_ap, Pw.k_xSet22_ap, Pw.k_xSet21_ap, Pw.xSet2_ap, Pw.k_xSetRow5_ap, Pw.k_xSetRow4_ap, Pw.k_xSetRow3_ap, Pw.k_xSetRow2_ap, Pw.k_xSetRow1_ap, Pw.xSetRow_ap, Pw.xNoPart_ap, Pw.k_xPart2_ap, Pw.k_xPart1_ap, Pw.xPart_ap, Pw.k_xSl4_ap, Pw.k_xSl3_ap, Pw.k_xSl2_ap, Pw.k_xSl1_ap, Pw.xSl_ap, Pw.xLen_lst, Pw.xLen_tup, Pw.xLen_dK, Pw.xLen_str, Pw.xTupleOf_lst, Pw.xTupleOf_tup, Pw.xListOf_lst, Pw.xListOf_tup, Pw.xAbs_ap, Pw.xInt1_int, Pw.xInt1_bl, Pw.xMax2_ap, Pw.xMin2_ap, Pw.xAll_map, Pw.xAny_map, Pw.xSum_map, Pw.xSum_mapT, Pw.k_xAppend3_ap, Pw.k_xAppend2_ap, Pw.k_xAppend1_ap, Pw.xAppend_ap, Pw.k_xExtend4_ap, Pw.k_xExtend3_ap, Pw.k_xExtend2_ap, Pw.k_xExtend1_ap, Pw.xExtend_ap, Pw.k_xRev1_ap, Pw.xRev_ap, Pw.k_xSetIx6_ap, Pw.k_xSetIx5_ap, Pw.k_xSetIx4_ap, Pw.k_xSetIx3_ap, Pw.k_xSetIx2_ap, Pw.k_xSetIx1_ap, Pw.xSetIx_ap, Pw.kTr_ap, Pw.k_isL_ap, Pw.k_xIndexP3_ap, Pw.k_xIndexP2_ap, Pw.k_xIndexP1_ap, Pw.xIndexP_ap, Pw.xRange1_ap, Pw.getD_zero, Pw.getD_one, Pw.getD_two, Pw.getD_last, Pw.k_st_ap, Pw.k_xe_ap, Pw.kU_ap, Pw.k_lcB_ap, Pw.k_lcT_ap, Pw.k_xeF_lst, Pw.k_xf_ap, Pw.enum_rng0, Pw.zip_map, Pw.rev_rng, Pw.fre_un, Pw.fre_val, Pw.map_mp, Pw.all_tt, Pw.cut_mp, Pw.selDk_val, Pw.selDk_own, Pw.selODk_own, Pw.selK_int, Pw.selK_str, Pw.selSm_some, Pw.kTr2_ap, Pw.kTr3_ap, Pw.k_xDIn3_ap, Pw.k_xDIn2_ap, Pw.k_xDIn1_ap, Pw.xDIn_ap, Pw.k_xDGet4_ap, Pw.k_xDGet3_ap, Pw.k_xDGet2_ap, Pw.k_xDGet1_ap, Pw.xDGet_ap, Pw.k_xDGet13_ap, Pw.k_xDGet12_ap, Pw.k_xDGet11_ap, Pw.xDGet1_ap, Pw.k_xDGet24_ap, Pw.k_xDGet23_ap, Pw.k_xDGet22_ap, Pw.k_xDGet21_ap, Pw.xDGet2_ap, Pw.xDNew_ap, Pw.k_xDPut5_ap, Pw.k_xDPut4_ap, Pw.k_xDPut3_ap, Pw.k_xDPut2_ap, Pw.k_xDPut1_ap, Pw.xDPut_ap, Pw.k_xDisp13_ap, Pw.k_xDisp12_ap, Pw.k_xDisp11_ap, Pw.xDisp1_ap, Pw.selD2_ap, Pw.k_xDUpd3_ap, Pw.k_xDUpd2_ap, Pw.k_xDUpd1_ap, Pw.xDUpd_ap, Pw.k_xDc3_ap, Pw.k_xDc2_ap, Pw.k_xDc1_ap, Pw.xDc_ap, Pw.k_dcK2_ap, Pw.k_dcK_ap, Pw.k_dc_ap, Pw.lk_in, Pw.lk_get1, Pw.ptK_nat, Pw.ptV_nat, Pw.xSortSet_ap, Pw.k_xListR2_ap, Pw.k_xListR1_ap, Pw.xListR_ap, Pw.k_xRep3_ap, Pw.k_xRep2_ap, Pw.k_xRep1_ap, Pw.xRep_ap, Pw.xTupleF_lst, Pw.k_isF_ap, Pw.k_xTI2_ap, Pw.k_xTI1_ap, Pw.k_xTI_ap, Pw.xTIndexP_ap, Pw.k_whN_ap, Pw.k_whB_ap, Pw.xInC_lstN, Pw.xInC_tupN, Pw.xInC_nilT, Pw.k_xPopAt6_ap, Pw.k_xPopAt5_ap, Pw.k_xPopAt4_ap, Pw.k_xPopAt3_ap, Pw.k_xPopAt2_ap, Pw.k_xPopAt1_ap, Pw.xPopAt_ap, Pw.k_xTru2_ap, Pw.k_xTru1_ap, Pw.xTru_ap, Pw.k_xPop2_ap, Pw.k_xPop1_ap, Pw.xPop_ap, Pw.k_xDInE4_ap, Pw.k_xDInE3_ap, Pw.k_xDInE2_ap, Pw.k_xDInE1_ap, Pw.xDInE_ap, Pw.k_xRevB2_ap, Pw.k_xRevB1_ap, Pw.xRevB_ap, Pw.xSortA_ap, Pw.k_xLcO2_ap, Pw.k_xLcO1_ap, Pw.xLcO_ap, List.length_cons, List.length_nil, List.length_map, List.length_range, List.length_append, List.length_reverse, List.length_set, List.cons_append, List.nil_append, List.append_nil, List.reduceReplicate, List.take_succ_cons, List.take_zero, List.map_cons, List.map_nil, Nat.reduceSub, Nat.reduceAdd, Nat.reduceLT, Nat.reduceLeDiff, Nat.reduceEqDiff, Int.reduceAdd, Int.reduceSub, Int.reduceMul, Int.reduceNeg, Int.reduceToNat, Int.reduceLT, Int.reduceLE, Int.reduceEq, Int.reducePow, Int.toNat_natCast, List.nodup_cons, List.nodup_nil, List.not_mem_nil, List.set_cons_zero, List.set_cons_succ, List.reverse_cons, List.reverse_nil, Nat.zero_add, Int.sub_zero, Int.zero_add, ne_eq, reduceCtorEq, not_false_eq_true, not_true_eq_false, true_and, and_true, and_self, decide_true, decide_false, Bool.not_true, Bool.not_false, Bool.false_xor, Bool.true_xor, Bool.xor_false, Bool.xor_true, decide_eq_true_eq, eq_self, Nat.le_refl, Nat.zero_le, if_true, if_false, ite_true, ite_false, Bool.false_eq_true, reduceIte, reduceDIte, Int.lt_irrefl, Int.le_refl, ge_iff_le, gt_iff_lt, Pw.rng_snoc, Pw.selN_fre, Pw.selO_fre, Pw.getD_rng, Pw.selX_nat, Pw.rowD_rng, Pw.getD_rng0, Pw.xMin_map, Pw.xMin_mapT, Pw.xMax_map, Pw.xMax_mapT, Pw.sm_nat, Pw.lk_get, Pw.selN_nio, *])
theorem lc_inv2 {g : XG} {xt : XT} {xe : XE} {vs : List Nat} {R : List D → List Sl → Prop} {e : Nat → D} {n : Nat} {E : List Sl} (I : Nat → List D → List Sl → Prop) (h0 : I 0 [] E) (hl : n ≤ 16777216)
    (hs : ∀ i, i < n → ∀ acc E, I i acc E → ∀ (k : D → List Sl → Prop) (kf : List Sl → Prop), (∀ y E', I (i + 1) (acc ++ [y]) (wipeE E' vs) → (∀ P : Prop, P → noOwn E' vs P) → k y E') → (∀ E', I (i + 1) acc (wipeE E' vs) → (∀ P : Prop, P → noOwn E' vs P) → kf E') → g (e i) E (k_lcT xt xe k kf))
    (he : ∀ acc E, acc.length ≤ n → I n acc E → R acc E) : xLcL g xt xe vs R ((List.range n).map e) [] E := by
  have main : ∀ m i acc E, i + m = n → acc.length ≤ i → I i acc E → xLcL g xt xe vs R ((List.range' i m).map e) acc E := by
    intro m
    induction m with
    | zero =>
      intro i acc E hi hlen h
      have hn : i = n := by omega
      rw [hn] at hlen h
      exact he acc E hlen h
    | succ m ih =>
      intro i acc E hi hlen h
      refine hs i (by omega) acc E h (fun y E3 => noOwn E3 vs (acc.length < 16777216 ∧ xLcL g xt xe vs R ((List.range' (i + 1) m).map e) (acc ++ [y]) (wipeE E3 vs))) (fun E2 => noOwn E2 vs (xLcL g xt xe vs R ((List.range' (i + 1) m).map e) acc (wipeE E2 vs))) (fun y E' h1 h2 => ?_) fun E' h1 h2 => ?_
      · exact h2 _ ⟨by omega, ih (i + 1) _ _ (by omega) (by rw [List.length_append, List.length_singleton]; omega) h1⟩
      · exact h2 _ (ih (i + 1) _ _ (by omega) (by omega) h1)
  have := main n 0 [] E (by omega) (Nat.le_refl _) h0
  rw [← List.range_eq_range'] at this
  exact this
section
variable {L : Nat} {f : Nat → Nat} {R : D → List Sl → Prop}
structure P1 (m : Nat) (need : Nat → Int) (o : Nat → List Nat) : Prop where
  p : POk m need o
  one : ∀ k, k < m → need k = 0 ∨ need k = 1
  m1 : 1 ≤ m
  m7 : m ≤ 7
theorem lawones_ok {c : Nat} {io : Bool} (hL : 0 < L) (hL2 : L ≤ 4000) (hc : c < 500000)
    (k : ∀ c' m nd o, c' ≤ c + 200 → P1 m nd o → R (prD m nd o) [.own io (stD L f c')]) : x__law_ones [.own io (stD L f c)] R := by
  unfold x__law_ones xb__law_ones
  walk_at "pz"
  refine lawnext_ok (M := 7) hL hL2 (by omega) (by decide) fun r hr => ?_
  obtain ⟨m, hm1, hm2, e0⟩ : ∃ m : Nat, 1 ≤ m ∧ m ≤ 7 ∧ (1 : Int) + ((r : Nat) : Int) = (m : Int) := ⟨r + 1, by omega, by omega, by omega⟩
  walk_at "pz"
  clear e0
  have hsm : Sm (m : Int) := sm_nat (by omega)
  walk_at "pz"
  refine for_rng (fun i E => ∃ (os : Nat → List Nat) (nd : Nat → Int) (c' : Nat) (s3 s4 s6 : Sl), E = [.own io (stD L f c'), .val (.int (m : Nat)), .own false (.lst ((List.range i).map fun j => D.tup [.int (nd j), .tup ((os j).map fun x => D.int ((x : Nat) : Int))])), s3, s4, .un, s6] ∧ fre s3 ∧ fre s4 ∧ fre s6 ∧ c' ≤ c + 1 + 20 * i ∧
      (∀ j, j < i → (os j).Pairwise (· < ·) ∧ (∀ x ∈ os j, x < m) ∧ (nd j = 0 ∨ nd j = 1))) ⟨fun _ => [], fun _ => 0, c + 1, _, _, _, rfl, fre_un, fre_un, fre_un, by omega, fun j h => absurd h (Nat.not_lt_zero _)⟩ (fun i hi E hE nx hnx => ?_) (fun E hE => ?_)
  · obtain ⟨os, nd, c1, s3, s4, s6, rfl, f3, f4, f6, hc1, hos⟩ := hE
    walk_at "pz"
    refine lc_inv2 (fun j acc E => ∃ (l : List Nat) (c' : Nat), E = [.own io (stD L f c'), .val (.int (m : Nat)), .own false (.lst ((List.range i).map fun j => D.tup [.int (nd j), .tup ((os j).map fun x => D.int ((x : Nat) : Int))])), .val (.int ((i : Nat) : Int)), s4, .un, s6] ∧ acc = l.map (fun x => D.int ((x : Nat) : Int)) ∧ c' ≤ c1 + j ∧ l.Pairwise (· < ·) ∧ (∀ x ∈ l, x < j))
      ⟨[], c1, rfl, rfl, by omega, by simp, by simp⟩ (by omega) (fun j hj acc E hE kk kf hk hkf => ?_) (fun acc E hlen hE => ?_)
    · obtain ⟨l, c2, rfl, rfl, hc2, hl1, hl2⟩ := hE
      have up : ∀ x ∈ l ++ [j], x < j + 1 := fun x hx => by
        rcases List.mem_append.mp hx with z | z
        · have := hl2 x z; omega
        · rw [List.mem_singleton.mp z]; omega
      have pw : (l ++ [j]).Pairwise (· < ·) := List.pairwise_append.mpr ⟨hl1, by simp, fun x hx y hy => by rw [List.mem_singleton.mp hy]; exact hl2 x hx⟩
      walk_at "pz"
      refine lawnext_ok (M := 3) hL hL2 (by omega) (by decide) fun r hr => ?_
      by_cases h3 : ((r : Nat) : Int) = 0
      · have := hk (.int ((j : Nat) : Int)) [.own io (stD L f (c2 + 1)), .val (.int (m : Nat)), .own false (.lst ((List.range i).map fun j => D.tup [.int (nd j), .tup ((os j).map fun x => D.int ((x : Nat) : Int))])), .val (.int ((i : Nat) : Int)), s4, .val (.int ((j : Nat) : Int)), s6] ⟨l ++ [j], c2 + 1, rfl, by rw [List.map_append]; rfl, by omega, pw, up⟩ (fun _ h => h)
        clear hk hkf
        walk_at "pz"
      · have := hkf [.own io (stD L f (c2 + 1)), .val (.int (m : Nat)), .own false (.lst ((List.range i).map fun j => D.tup [.int (nd j), .tup ((os j).map fun x => D.int ((x : Nat) : Int))])), .val (.int ((i : Nat) : Int)), s4, .val (.int ((j : Nat) : Int)), s6] ⟨l, c2 + 1, rfl, rfl, by omega, hl1, fun x hx => by have := hl2 x hx; omega⟩ (fun _ h => h)
        clear hk hkf
        walk_at "pz"
    · obtain ⟨l, c2, rfl, rfl, hc2, hl1, hl2⟩ := hE
      walk_at "pz"
      refine lawnext_ok (M := 4) hL hL2 (by omega) (by decide) fun r hr => ?_
      walk_at "pz"
      generalize hnve : (if 0 < ((r : Nat) : Int) then (1 : Int) else 0) = nv
      have hnv : nv = 0 ∨ nv = 1 := by rw [← hnve]; split <;> simp
      have es : (List.range i).map (fun j => D.tup [.int (nd j), .tup ((os j).map fun x => D.int ((x : Nat) : Int))]) ++ [D.tup [.int nv, .tup (l.map fun x => D.int ((x : Nat) : Int))]] = (List.range (i + 1)).map fun j => D.tup [.int (if j = i then nv else nd j), .tup ((if j = i then l else os j).map fun x => D.int ((x : Nat) : Int))] := by
        rw [rng_push]
        refine List.map_congr_left fun j _ => ?_
        by_cases h : j = i
        · simp only [if_pos h]
        · simp only [if_neg h]
      rw [es]
      refine ⟨by omega, hnx _ ⟨fun j => if j = i then l else os j, fun j => if j = i then nv else nd j, c2 + 1, _, _, _, rfl, fre_val, fre_val, fre_val, by omega, fun j hj => ?_⟩⟩
      by_cases e : j = i
      · simp only [if_pos e]
        exact ⟨hl1, hl2, hnv⟩
      · simp only [if_neg e]
        exact hos j (by omega)
  · obtain ⟨os, nd, c1, s3, s4, s6, rfl, f3, f4, f6, hc1, hos⟩ := hE
    have := k c1 m nd os (by omega) ⟨⟨by omega, fun k hk => (hos k hk).1, fun k x hk hx => (hos k hk).2.1 x hx, fun k hk => by rcases (hos k hk).2.2 with h | h <;> omega, fun k hk => by rcases (hos k hk).2.2 with h | h <;> omega⟩, fun k hk => (hos k hk).2.2, hm1, hm2⟩
    clear k
    walk_at "pz"
theorem lawsubsets_ok {row : List Nat} (hz : row.length ≤ 8) (ha : Asc row) (k : R (.lst (((subL row).mergeSort leN).map natT)) [.val (.lst (row.map fun x => D.int ((x : Nat) : Int)))]) : x__law_subsets [.val (.lst (row.map fun x => D.int ((x : Nat) : Int)))] R := by
  unfold x__law_subsets xb__law_subsets
  walk_at "pz"
  refine for_pre (e := fun x => D.int ((x : Nat) : Int)) (fun pre E => ∃ s2, E = [.val (.lst (row.map fun x => D.int ((x : Nat) : Int))), .val (.lst ((subL pre).map natT)), s2, .un, .un] ∧ fre s2) ⟨_, rfl, fre_un⟩ (fun pre a post hrow E hE nx hnx => ?_) (fun E hE => ?_)
  · obtain ⟨s2, rfl, f2⟩ := hE
    have hpl : pre.length ≤ 7 := by have := congrArg List.length hrow; simp at this; omega
    have hpa : Asc pre := by rw [hrow] at ha; exact (List.pairwise_append.mp ha).1
    have hsl : (subL pre).length ≤ 128 := by
      have := subL_len pre.reverse
      rw [List.reverse_reverse, List.length_reverse] at this
      rw [this]
      have := Nat.pow_le_pow_right (n := 2) (by decide) hpl
      simpa using this
    have hsh : ∀ s ∈ subL pre, s.length ≤ 7 := fun s hs => by
      obtain ⟨h1, h2⟩ := (subL_mem hpa s).mp hs
      have := (asc_sub_len h1 hpa h2).1
      omega
    have esn := subL_snoc (pre := pre) (a := a)
    clear hrow
    walk_at "pz"
    refine lc_map (e := natT) (fun s => natT (s ++ [a])) (fun s hs kk hk => ?_) (by simp; omega) ?_
    · have h7 := hsh s hs
      have e1 : (s.map fun x => D.int ((x : Nat) : Int)) ++ [D.int (a : Nat)] = (s ++ [a]).map fun x => D.int ((x : Nat) : Int) := by rw [List.map_append]; rfl
      walk_at "pz"
      exact ⟨by omega, hk _ ⟨rfl, fun _ h => h⟩⟩
    · rw [List.nil_append]
      walk_at "pz"
      have e2 : (subL pre).map natT ++ (subL pre).map (fun s => natT (s ++ [a])) = (subL (pre ++ [a])).map natT := by
        rw [esn, List.map_append, List.map_map]; rfl
      rw [e2]
      exact ⟨by omega, hnx _ ⟨_, rfl, fre_val⟩⟩
  · obtain ⟨s2, rfl, f2⟩ := hE
    have hsl : (subL row).length ≤ 256 := by
      have := subL_len row.reverse
      rw [List.reverse_reverse, List.length_reverse] at this
      rw [this]
      have := Nat.pow_le_pow_right (n := 2) (by decide) hz
      simpa using this
    walk_at "pz"
    refine lc_map (e := natT) prN (fun r hrm kk hk => ?_) (by simp; omega) ?_
    · obtain ⟨h1, h2⟩ := (subL_mem ha r).mp hrm
      have := (asc_sub_len h1 ha h2).1
      walk_at "pz"
      exact hk _ ⟨rfl, fun _ h => h⟩
    rw [List.nil_append]
    walk_at "pz"
    refine xSortAny_nat (by omega) ?_
    walk_at "pz"
    refine lc_map (e := prN) natT (fun r hrm kk hk => ?_) (by simp; omega) ?_
    · walk_at "pz"
      exact hk _ ⟨rfl, fun _ h => h⟩
    · rw [List.nil_append]
      walk_at "pz"
theorem getD_back {ds : List D} {d : D} {R : D → Prop} : Pw.getD (ds ++ [d]) (-1) R = R d := by
  unfold Pw.getD L2.atI
  rw [List.length_append, List.length_singleton, ixN_last]
  simp
theorem wt_bound : ∀ m, m ≤ 7 → Wt m (m - 1) ≤ 200000 := by decide
theorem lawways_ok {m q : Nat} {nd : Nat → Int} {o : Nat → List Nat} (P : P1 m nd o) (hq : q < m) (k : ∀ ws : List (List Nat), Dfs (need := nd) (o := o) m q ws [] → ws.length ≤ 200000 → R (.lst (ws.map natT)) [.val (prD m nd o), .val (.int (q : Nat))]) :
    x__law_ways [.val (prD m nd o), .val (.int (q : Nat))] R := by
  have hm := P.m7
  have hB := wt_bound m hm
  unfold x__law_ways xb__law_ways
  walk_at "pz"
  refine while_ok (n := Wt m (m - 1) + 1) (fun μ E => ∃ (found line : List (List Nat)) (s4 : Sl), E = [.val (prD m nd o), .val (.int (q : Nat)), .own false (.lst (found.map natT)), .own false (.lst (line.map natT)), s4, .un] ∧ fre s4 ∧ Dfs (need := nd) (o := o) m q found line ∧ found.length + mea m line ≤ 200000 ∧ mea m line < μ)
    ⟨[], [[q]], _, rfl, fre_un, dfs_start, by rw [mea_one]; simpa using hB, by rw [mea_one]; simp⟩ (fun E hE => ?_) (fun μ E hE nx hnx => ?_)
  · obtain ⟨_, _, _, _, _, _, _, h⟩ := hE
    exact absurd h (Nat.not_lt_zero _)
  · obtain ⟨found, line, s4, rfl, f4, hd, h1, h2⟩ := hE
    rcases List.eq_nil_or_concat line with e | ⟨line', w, e⟩
    · subst e
      have := k found hd (by omega)
      clear k hnx
      have e00 : ¬ (0 : Int) < ((0 : Nat) : Int) := by omega
      walk_at "pz"
    · rw [List.concat_eq_append] at e
      subst e
      obtain ⟨x, hw⟩ := hd.lin w (by simp)
      have hlt := hw.lt P.p.lt hq
      have hwl := nodup_len hw.nodup hlt
      obtain ⟨w', ew⟩ := hw.last
      have hxm : x < m := hlt x hw.last_mem
      have hll := mea_len (m := m) (line := line' ++ [w])
      have hml : mea m (line' ++ [w]) = mea m line' + Wt m (m - w.length) := by rw [mea_app, mea_one]
      have hwp := wt_pos (m := m) (r := m - w.length)
      have elen : 0 < (((line' ++ [w]).map natT).length : Int) := by simp
      have epop : ((line' ++ [w]).map natT)[((line' ++ [w]).map natT).length - 1]? = some (natT w) := by simp
      have edrop : ((line' ++ [w]).map natT).dropLast = line'.map natT := by rw [List.map_append]; simp
      generalize (line' ++ [w]).map natT = LD at elen epop edrop ⊢
      have hback : ∀ R : D → Prop, Pw.getD (w.map fun x => D.int ((x : Nat) : Int)) (-1) R = R (.int ((x : Nat) : Int)) := fun R => by rw [ew, List.map_append]; exact getD_back
      clear ew
      have hnx := fun E' => hnx E'
      walk_at "pz"
      by_cases hz : nd x = 0
      · walk_at "pz"
        refine xSortTI_nat hw.nodup fun ys hy1 hy2 => ?_
        have hd2 := dfs_end hd hw hz hy2 hy1
        walk_at "pz"
        have e5 : found.map natT ++ [natT ys] = (found ++ [ys]).map natT := by rw [List.map_append]; rfl
        rw [e5]
        refine ⟨by omega, hnx _ ⟨_, _, _, rfl, fre_val, hd2, by rw [List.length_append, List.length_singleton]; omega, by omega⟩⟩
      · have hd2 := dfs_more hd hw hz
        have hol := P.p.len hxm
        walk_at "pz"
        have hxlt : ∀ z ∈ o x, z < m := fun z hz2 => P.p.lt x z hxm hz2
        refine lc_fil (fun z => decide (z ∉ w)) (fun z => natT (w ++ [z])) (fun z hzm kk kf hk hkf => ?_) (by simp; omega) ?_
        · have e1 : (w.map fun x => D.int ((x : Nat) : Int)) ++ [D.int (z : Nat)] = (w ++ [z]).map fun x => D.int ((x : Nat) : Int) := by rw [List.map_append]; rfl
          walk_at "pz"
          by_cases hzw : z ∈ w
          · walk_at "pz"
            exact hkf (by simp [hzw]) _ ⟨rfl, fun _ h => h⟩
          · walk_at "pz"
            exact ⟨by omega, hk (by simp [hzw]) _ ⟨rfl, fun _ h => h⟩⟩
        · rw [List.nil_append]
          walk_at "pz"
          have e5 : line'.map natT ++ ((o x).filter fun z => decide (z ∉ w)).map (fun z => natT (w ++ [z])) = (line' ++ ((o x).filter fun z => decide (z ∉ w)).map fun z => w ++ [z]).map natT := by rw [List.map_append, List.map_map]; rfl
          rw [e5]
          have hfl : ((o x).filter fun z => decide (z ∉ w)).length ≤ m := Nat.le_trans (List.length_filter_le _ _) hol
          have hme : mea m (((o x).filter fun z => decide (z ∉ w)).map fun z => w ++ [z]) < Wt m (m - w.length) := by
            cases hfe : (o x).filter fun z => decide (z ∉ w) with
            | nil => exact hwp
            | cons z t =>
              rw [← hfe]
              refine mea_more hfl ?_
              have hzm : z ∈ (o x).filter fun z => decide (z ∉ w) := by rw [hfe]; exact List.mem_cons_self
              obtain ⟨hz1, hz2⟩ := List.mem_filter.mp hzm
              have hw2 : Wy nd o q (w ++ [z]) z := .snoc hw hz hz1 (of_decide_eq_true hz2)
              have := nodup_len hw2.nodup (hw2.lt P.p.lt hq)
              rw [List.length_append, List.length_singleton] at this
              omega
          have hl2 := mea_len (m := m) (line := line')
          refine ⟨by omega, hnx _ ⟨_, _, _, rfl, fre_val, hd2, by rw [mea_app]; omega, by rw [mea_app]; omega⟩⟩
end
end K99
end

section
set_option maxRecDepth 100000
set_option maxHeartbeats 1000000
namespace K99
open PySem L2 Pw GBf
local macro_rules | `(tactic| walk_at "px") => `(tactic| simp (config := { failIfUnchanged := false }) only [Pw.nth_nil, Pw.nth_zero, Pw.nth_succ, Pw.put_zero, Pw.put_succ, Pw.shr_lst, Pw.shr_dK, Pw.shr_dT, Pw.shr_lls, Pw.selS_val, Pw.selS_own, Pw.kS_ap, Pw.kX_ap, Pw.kT_ap, Pw.kRB_ap, Pw.kRD_ap, Pw.kF_ap, Pw.selB_t, Pw.selB_f, Pw.selBl_bl, Pw.selN_un, Pw.selN_val, Pw.selN_own, Pw.noio_sel, Pw.selI_int, Pw.selR_lst, Pw.selR_tup, Pw.selR_ftup, Pw.selR_rng, Pw.selQ_lst, Pw.selQ_tup, Pw.revD_lst, Pw.revD_tup, Pw.selZ_lst, Pw.selZ_tup, Pw.selO_un, Pw.selO_val, Pw.k_now_ap, Pw.nOw_nil, Pw.nOw_cons, Pw.wipeE_nil, Pw.wipeE_cons, Pw.backE_nil, Pw.backE_cons, Pw.toSl_v, Pw.ioS_own, Pw.toSl_rf, Pw.rfs_nil, Pw.rfs_val, Pw.rfs_ref, Pw.argsOf_eq, Pw.argsOf_nil, Pw.argsOf_cons, Pw.selP_own, Pw.isNonD_non, Pw.isNonD_int, Pw.isNonD_str, Pw.isNonD_tup, Pw.isNonD_lst, Pw.isNonD_bl, Pw.selIx_val, Pw.selIx_own, Pw.selLls_own, Pw.selVI_int, Pw.selX_zero, Pw.selX_one, Pw.selX_last, Pw.selL_lst, Pw.selSz_tup, Pw.selSz_lst, Pw.selSz_fro, Pw.selOL_own, Pw.k_xVar1_ap, Pw.k_xVar2_ap, Pw.xVar_ap, Pw.xC_ap, Pw.k_xShr1_ap, Pw.xShr_ap, Pw.k_xOp3_ap, Pw.k_xOp2_ap, Pw.k_xOp1_ap, Pw.xOp_ap, Pw.k_xUn2_ap, Pw.k_xUn1_ap, Pw.xUn_ap, Pw.xNext_ap, Pw.xSeq_ap, Pw.xBreak_ap, Pw.xCont_ap, Pw.k_xDrop1_ap, Pw.xDrop_ap, Pw.xRet_ap, Pw.xRetN_ap, Pw.k_xIfS1_ap, Pw.xIfS_ap, Pw.xNever_ap, Pw.k_xB2_ap, Pw.k_xB1_ap, Pw.xB_ap, Pw.k_xAnd1_ap, Pw.xAnd_ap, Pw.k_xOr1_ap, Pw.xOr_ap, Pw.k_xNot1_ap, Pw.xNot_ap, Pw.k_xIf1_ap, Pw.xIf_ap, Pw.k_xAndV2_ap, Pw.k_xAndV1_ap, Pw.xAndV_ap, Pw.k_xOrV2_ap, Pw.k_xOrV1_ap, Pw.xOrV_ap, Pw.k_xNotV2_ap, Pw.k_xNotV1_ap, Pw.xNotV_ap, Pw.xYes_ap, Pw.xvNil_ap, Pw.k_xvCons2_ap, Pw.k_xvCons1_ap, Pw.xvCons_ap, Pw.k_xTup1_ap, Pw.xTup_ap, Pw.k_xLst1_ap, Pw.xLst_ap, Pw.k_xCB2_ap, Pw.k_xCB1_ap, Pw.xCB_ap, Pw.k_pk_ap, Pw.pk_ap, Pw.k_xOpL3_ap, Pw.k_xOpL2_ap, Pw.k_xOpL1_ap, Pw.xOpL_ap, Pw.k_xOpR3_ap, Pw.k_xOpR2_ap, Pw.k_xOpR1_ap, Pw.xOpR_ap, Pw.k_xCBp2_ap, Pw.k_xCBp1_ap, Pw.xCBp_ap, Pw.xgName_ap, Pw.xgNil_ap, Pw.k_xgCons1_ap, Pw.xgCons_ap, Pw.xgTup_ap, Pw.k_xAsg1_ap, Pw.xAsg_ap, Pw.k_xAsgO1_ap, Pw.xAsgO_ap, Pw.k_xAug2_ap, Pw.xAug_ap, Pw.k_xFor1_ap, Pw.xFor_ap, Pw.xForL_nil, Pw.k_forL_ap, Pw.k_xiAny2_ap, Pw.k_xiAny3_ap, Pw.k_xiAny1_ap, Pw.xiAny_ap, Pw.k_xiRev2_ap, Pw.k_xiRev1_ap, Pw.xiRev_ap, Pw.k_xRevE_lst, Pw.k_xRevE_tup, Pw.xRevE_ap, Pw.k_xiEnum2_ap, Pw.k_xiEnum1_ap, Pw.xiEnum_ap, Pw.k_xiZip3_ap, Pw.k_xiZip2_ap, Pw.k_xiZip1_ap, Pw.xiZip_ap, Pw.k_xiR12_ap, Pw.k_xiR11_ap, Pw.xiR1_ap, Pw.k_xiR24_ap, Pw.k_xiR22_ap, Pw.k_xiR21_ap, Pw.xiR2_ap, Pw.rgD_0, Pw.k_xLc3_ap, Pw.k_xLc2_ap, Pw.k_xLc1_ap, Pw.xLc_ap, Pw.k_xLcF3_ap, Pw.k_xLcF2_ap, Pw.k_xLcF1_ap, Pw.xLcF_ap, Pw.xaNil_ap, Pw.k_xaCons2_ap, Pw.k_xaCons1_ap, Pw.xaCons_ap, Pw.k_xaRef3_ap, Pw.kF1_ap, Pw.k_xaRef2_ap, Pw.k_xaRef1_ap, Pw.xaRef_ap, Pw.putBack_nil, Pw.putBack_val, Pw.k_putBack_ap, Pw.putBack_ref, Pw.k_xCall2_ap, Pw.k_xCall1_ap, Pw.xCall_ap, Pw.k_fnNx_ap, Pw.k_fnRt_ap, Pw.kNo_ap, Pw.fnX_ap, Pw.xI_ap, Pw.xIC_ap, Pw.xNeg_ap, Pw.xIsN_ap, Pw.xNotN_ap, Pw.xAdd_int, Pw.xAdd_str, Pw.xAdd_tup, Pw.xAdd_lst, Pw.xEqC_int, Pw.xEqC_str, Pw.xEqC_bl, Pw.xEqC_non, Pw.xEqC_ni, Pw.xEqC_in, Pw.k_xCh5_ap, Pw.k_xCh4_ap, Pw.k_xCh3_ap, Pw.k_xCh2b_ap, Pw.k_xCh2_ap, Pw.k_xCh1_ap, Pw.xChain_ap, Pw.xIx_lst, Pw.xIx_tup, Pw.k_xIxP2_ap, Pw.k_xIxP1_ap, Pw.xIxP_ap, Pw.k_xIx2V5_ap, Pw.k_xIx2V4_ap, Pw.k_xIx2V3_ap, Pw.k_xIx2V2_ap, Pw.k_xIx2V1_ap, Pw.xIx2V_ap, Pw.k_xSet26_ap, Pw.k_xSet25_ap, Pw.k_xSet24_ap, Pw.k_xSet23_ap, Pw.k_xSet22_ap, Pw.k_xSet21_ap, Pw.xSet2_ap, Pw.k_xSetRow5_ap, Pw.k_xSetRow4_ap, Pw.k_xSetRow3_ap, Pw.k_xSetRow2_ap, Pw.k_xSetRow1_ap, Pw.xSetRow_ap, Pw.xNoPart_ap, Pw.k_xPart2_ap, Pw.k_xPart1_ap, Pw.xPart_ap, Pw.k_xSl4_ap, Pw.k_xSl3_ap, Pw.k_xSl2_ap, Pw.k_xSl1_ap, Pw.xSl_ap, Pw.xLen_lst, Pw.xLen_tup, Pw.xLen_dK, Pw.xLen_str, Pw.xTupleOf_lst, Pw.xTupleOf_tup, Pw.xListOf_lst, Pw.xListOf_tup, Pw.xAbs_ap, Pw.xInt1_int, Pw.xInt1_bl, Pw.xMax2_ap, Pw.xMin2_ap, Pw.xAll_map, Pw.xAny_map, Pw.xSum_map, Pw.xSum_mapT, Pw.k_xAppend3_ap, Pw.k_xAppend2_ap, Pw.k_xAppend1_ap, Pw.xAppend_ap, Pw.k_xExtend4_ap, Pw.k_xExtend3_ap, Pw.k_xExtend2_ap, Pw.k_xExtend1_ap, Pw.xExtend_ap, Pw.k_xRev1_ap, Pw.xRev_ap, Pw.k_xSetIx6_ap, Pw.k_xSetIx5_ap, Pw.k_xSetIx4_ap, Pw.k_xSetIx3_ap, Pw.k_xSetIx2_ap, Pw.k_xSetIx1_ap, Pw.xSetIx_ap, Pw.kTr_ap, Pw.k_isL_ap, Pw.k_xIndexP3_ap, Pw.k_xIndexP2_ap, Pw.k_xIndexP1_ap, Pw.xIndexP_ap, Pw.xRange1_ap, Pw.getD_zero, Pw.getD_one, Pw.getD_two, Pw.getD_last, Pw.k_st_ap, Pw.k_xe_ap, Pw.kU_ap, Pw.k_lcB_ap, Pw.k_lcT_ap, Pw.k_xeF_lst, Pw.k_xf_ap, Pw.enum_rng0, Pw.zip_map, Pw.rev_rng, Pw.fre_un, Pw.fre_val, Pw.map_mp, Pw.all_tt, Pw.cut_mp, Pw.selDk_val, Pw.selDk_own, Pw.selODk_own, Pw.selK_int, Pw.selK_str, Pw.selSm_some, Pw.kTr2_ap, Pw.kTr3_ap, Pw.k_xDIn3_ap, Pw.k_xDIn2_ap, Pw.k_xDIn1_ap, Pw.xDIn_ap, Pw.k_xDGet4_ap, Pw.k_xDGet3_ap, Pw.k_xDGet2_ap, Pw.k_xDGet1_ap, Pw.xDGet_ap, Pw.k_xDGet13_ap, Pw.k_xDGet12_ap, Pw.k_xDGet11_ap, Pw.xDGet1_ap, Pw.k_xDGet24_ap, Pw.k_xDGet23_ap, Pw.k_xDGet22_ap, Pw.k_xDGet21_ap, Pw.xDGet2_ap, Pw.xDNew_ap, Pw.k_xDPut5_ap, Pw.k_xDPut4_ap, Pw.k_xDPut3_ap, Pw.k_xDPut2_ap, Pw.k_xDPut1_ap, Pw.xDPut_ap, Pw.k_xDisp13_ap, Pw.k_xDisp12_ap, Pw.k_xDisp11_ap, Pw.xDisp1_ap, Pw.selD2_ap, Pw.k_xDUpd3_ap, Pw.k_xDUpd2_ap, Pw.k_xDUpd1_ap, Pw.xDUpd_ap, Pw.k_xDc3_ap, Pw.k_xDc2_ap, Pw.k_xDc1_ap, Pw.xDc_ap, Pw.k_dcK2_ap, Pw.k_dcK_ap, Pw.k_dc_ap, Pw.lk_in, Pw.lk_get1, Pw.ptK_nat, Pw.ptV_nat, Pw.xSortSet_ap, Pw.k_xListR2_ap, Pw.k_xListR1_ap, Pw.xListR_ap, Pw.k_xRep3_ap, Pw.k_xRep2_ap, Pw.k_xRep1_ap, Pw.xRep_ap, Pw.xTupleF_lst, Pw.k_isF_ap, Pw.k_xTI2_ap, Pw.k_xTI1_ap, Pw.k_xTI_ap, Pw.xTIndexP_ap, Pw.k_whN_ap, Pw.k_whB_ap, Pw.xInC_lstN, Pw.xInC_tupN, Pw.xInC_nilT, Pw.k_xPopAt6_ap, Pw.k_xPopAt5_ap, Pw.k_xPopAt4_ap, Pw.k_xPopAt3_ap, Pw.k_xPopAt2_ap, Pw.k_xPopAt1_ap, Pw.xPopAt_ap, Pw.k_xTru2_ap, Pw.k_xTru1_ap, Pw.xTru_ap, Pw.k_xPop2_ap, Pw.k_xPop1_ap, Pw.xPop_ap, Pw.k_xDInE4_ap, Pw.k_xDInE3_ap, Pw.k_xDInE2_ap, Pw.k_xDInE1_ap, Pw.xDInE_ap, Pw.k_xRevB2_ap, Pw.k_xRevB1_ap, Pw.xRevB_ap, Pw.xSortA_ap, Pw.k_xLcO2_ap, Pw.k_xLcO1_ap, Pw.xLcO_ap, List.length_cons, List.length_nil, List.length_map, List.length_range, List.length_append, List.length_reverse, List.length_set, List.cons_append, List.nil_append, List.append_nil, List.reduceReplicate, List.take_succ_cons, List.take_zero, List.map_cons, List.map_nil, Nat.reduceSub, Nat.reduceAdd, Nat.reduceLT, Nat.reduceLeDiff, Nat.reduceEqDiff, Int.reduceAdd, Int.reduceSub, Int.reduceMul, Int.reduceNeg, Int.reduceToNat, Int.reduceLT, Int.reduceLE, Int.reduceEq, Int.reducePow, Int.toNat_natCast, List.nodup_cons, List.nodup_nil, List.not_mem_nil, List.set_cons_zero, List.set_cons_succ, List.reverse_cons, List.reverse_nil, Nat.zero_add, Int.sub_zero, Int.zero_add, ne_eq, reduceCtorEq, not_false_eq_true, not_true_eq_false, true_and, and_true, and_self, decide_true, decide_false, Bool.not_true, Bool.not_false, Bool.false_xor, Bool.true_xor, Bool.xor_false, Bool.xor_true, decide_eq_true_eq, eq_self, Nat.le_refl, Nat.zero_le, if_true, if_false, ite_true, ite_false, Bool.false_eq_true, reduceIte, reduceDIte, Int.lt_irrefl, Int.le_refl, ge_iff_le, gt_iff_lt])
local macro_rules | `(tactic| walk_at "pz") => `(tactic| simp (config := { failIfUnchanged := false }) only [Pw.nth_nil, Pw.nth_zero, Pw.nth_succ, Pw.put_zero, Pw.put_succ, Pw.shr_lst, Pw.shr_dK, Pw.shr_dT, Pw.shr_lls, Pw.selS_val, Pw.selS_own, Pw.kS_ap, Pw.kX_ap, Pw.kT_ap, Pw.kRB_ap, Pw.kRD_ap, Pw.kF_ap, Pw.selB_t, Pw.selB_f, Pw.selBl_bl, Pw.selN_un, Pw.selN_val, Pw.selN_own, Pw.noio_sel, Pw.selI_int, Pw.selR_lst, Pw.selR_tup, Pw.selR_ftup, Pw.selR_rng, Pw.selQ_lst, Pw.selQ_tup, Pw.revD_lst, Pw.revD_tup, Pw.selZ_lst, Pw.selZ_tup, Pw.selO_un, Pw.selO_val, Pw.k_now_ap, Pw.nOw_nil, Pw.nOw_cons, Pw.wipeE_nil, Pw.wipeE_cons, Pw.backE_nil, Pw.backE_cons, Pw.toSl_v, Pw.ioS_own, Pw.toSl_rf, Pw.rfs_nil, Pw.rfs_val, Pw.rfs_ref, Pw.argsOf_eq, Pw.argsOf_nil, Pw.argsOf_cons, Pw.selP_own, Pw.isNonD_non, Pw.isNonD_int, Pw.isNonD_str, Pw.isNonD_tup, Pw.isNonD_lst, Pw.isNonD_bl, Pw.selIx_val, Pw.selIx_own, Pw.selLls_own, Pw.selVI_int, Pw.selX_zero, Pw.selX_one, Pw.selX_last, Pw.selL_lst, Pw.selSz_tup, Pw.selSz_lst, Pw.selSz_fro, Pw.selOL_own, Pw.k_xVar1_ap, Pw.k_xVar2_ap, Pw.xVar_ap, Pw.xC_ap, Pw.k_xShr1_ap, Pw.xShr_ap, Pw.k_xOp3_ap, Pw.k_xOp2_ap, Pw.k_xOp1_ap, Pw.xOp_ap, Pw.k_xUn2_ap, Pw.k_xUn1_ap, Pw.xUn_ap, Pw.xNext_ap, Pw.xSeq_ap, Pw.xBreak_ap, Pw.xCont_ap, Pw.k_xDrop1_ap, Pw.xDrop_ap, Pw.xRet_ap, Pw.xRetN_ap, Pw.k_xIfS1_ap, Pw.xIfS_ap, Pw.xNever_ap, Pw.k_xB2_ap, Pw.k_xB1_ap, Pw.xB_ap, Pw.k_xAnd1_ap, Pw.xAnd_ap, Pw.k_xOr1_ap, Pw.xOr_ap, Pw.k_xNot1_ap, Pw.xNot_ap, Pw.k_xIf1_ap, Pw.xIf_ap, Pw.k_xAndV2_ap, Pw.k_xAndV1_ap, Pw.xAndV_ap, Pw.k_xOrV2_ap, Pw.k_xOrV1_ap, Pw.xOrV_ap, Pw.k_xNotV2_ap, Pw.k_xNotV1_ap, Pw.xNotV_ap, Pw.xYes_ap, Pw.xvNil_ap, Pw.k_xvCons2_ap, Pw.k_xvCons1_ap, Pw.xvCons_ap, Pw.k_xTup1_ap, Pw.xTup_ap, Pw.k_xLst1_ap, Pw.xLst_ap, Pw.k_xCB2_ap, Pw.k_xCB1_ap, Pw.xCB_ap, Pw.k_pk_ap, Pw.pk_ap, Pw.k_xOpL3_ap, Pw.k_xOpL2_ap, Pw.k_xOpL1_ap, Pw.xOpL_ap, Pw.k_xOpR3_ap, Pw.k_xOpR2_ap, Pw.k_xOpR1_ap, Pw.xOpR_ap, Pw.k_xCBp2_ap, Pw.k_xCBp1_ap, Pw.xCBp_ap, Pw.xgName_ap, Pw.xgNil_ap, Pw.k_xgCons1_ap, Pw.xgCons_ap, Pw.xgTup_ap, Pw.k_xAsg1_ap, Pw.xAsg_ap, Pw.k_xAsgO1_ap, Pw.xAsgO_ap, Pw.k_xAug2_ap, Pw.xAug_ap, Pw.k_xFor1_ap, Pw.xFor_ap, Pw.xForL_nil, Pw.k_forL_ap, Pw.k_xiAny2_ap, Pw.k_xiAny3_ap, Pw.k_xiAny1_ap, Pw.xiAny_ap, Pw.k_xiRev2_ap, Pw.k_xiRev1_ap, Pw.xiRev_ap, Pw.k_xRevE_lst, Pw.k_xRevE_tup, Pw.xRevE_ap, Pw.k_xiEnum2_ap, Pw.k_xiEnum1_ap, Pw.xiEnum_ap, Pw.k_xiZip3_ap, Pw.k_xiZip2_ap, Pw.k_xiZip1_ap, Pw.xiZip_ap, Pw.k_xiR12_ap, Pw.k_xiR11_ap, Pw.xiR1_ap, Pw.k_xiR24_ap, Pw.k_xiR22_ap, Pw.k_xiR21_ap, Pw.xiR2_ap, Pw.rgD_0, Pw.k_xLc3_ap, Pw.k_xLc2_ap, Pw.k_xLc1_ap, Pw.xLc_ap, Pw.k_xLcF3_ap, Pw.k_xLcF2_ap, Pw.k_xLcF1_ap, Pw.xLcF_ap, Pw.xaNil_ap, Pw.k_xaCons2_ap, Pw.k_xaCons1_ap, Pw.xaCons_ap, Pw.k_xaRef3_ap, Pw.kF1_ap, Pw.k_xaRef2_ap, Pw.k_xaRef1_ap, Pw.xaRef_ap, Pw.putBack_nil, Pw.putBack_val, Pw.k_putBack_ap, Pw.putBack_ref, Pw.k_xCall2_ap, Pw.k_xCall1_ap, Pw.xCall_ap, Pw.k_fnNx_ap, Pw.k_fnRt_ap, Pw.kNo_ap, Pw.fnX_ap, Pw.xI_ap, Pw.xIC_ap, Pw.xNeg_ap, Pw.xIsN_ap, Pw.xNotN_ap, Pw.xAdd_int, Pw.xAdd_str, Pw.xAdd_tup, Pw.xAdd_lst, Pw.xEqC_int, Pw.xEqC_str, Pw.xEqC_bl, Pw.xEqC_non, Pw.xEqC_ni, Pw.xEqC_in, Pw.k_xCh5_ap, Pw.k_xCh4_ap, Pw.k_xCh3_ap, Pw.k_xCh2b_ap, Pw.k_xCh2_ap, Pw.k_xCh1_ap, Pw.xChain_ap, Pw.xIx_lst, Pw.xIx_tup, Pw.k_xIxP2_ap, Pw.k_xIxP1_ap, Pw.xIxP_ap, Pw.k_xIx2V5_ap, Pw.k_xIx2V4_ap, Pw.k_xIx2V3_ap, Pw.k_xIx2V2_ap, Pw.k_xIx2V1_ap, Pw.xIx2V_ap, Pw.k_xSet26_ap, Pw.k_xSet25_ap, Pw.k_xSet24_ap, Pw.k_xSet23_ap, Pw.k_xSet22_ap, Pw.k_xSet21_ap, Pw.xSet2_ap, Pw.k_xSetRow5_ap, Pw.k_xSetRow4_ap, Pw.k_xSetRow3_ap, Pw.k_xSetRow2_ap, Pw.k_xSetRow1_ap, Pw.xSetRow_ap, Pw.xNoPart_ap, Pw.k_xPart2_ap, Pw.k_xPart1_ap, Pw.xPart_ap, Pw.k_xSl4_ap, Pw.k_xSl3_ap, Pw.k_xSl2_ap, Pw.k_xSl1_ap, Pw.xSl_ap, Pw.xLen_lst, Pw.xLen_tup, Pw.xLen_dK, Pw.xLen_str, Pw.xTupleOf_lst, Pw.xTupleOf_tup, Pw.xListOf_lst, Pw.xListOf_tup, Pw.xAbs_ap, Pw.xInt1_int, Pw.xInt1_bl, Pw.xMax2_ap, Pw.xMin2_ap, Pw.xAll_map, Pw.xAny_map, Pw.xSum_map, Pw.xSum_mapT, Pw.k_xAppend3_ap, Pw.k_xAppend2_ap, Pw.k_xAppend1_ap, Pw.xAppend_ap, Pw.k_xExtend4_ap, Pw.k_xExtend3_ap, Pw.k_xExtend2_ap, Pw.k_xExtend1_ap, Pw.xExtend_ap, Pw.k_xRev1_ap, Pw.xRev_ap, Pw.k_xSetIx6_ap, Pw.k_xSetIx5_ap, Pw.k_xSetIx4_ap, Pw.k_xSetIx3_ap, Pw.k_xSetIx2_ap, Pw.k_xSetIx1_ap, Pw.xSetIx_ap, Pw.kTr_ap, Pw.k_isL_ap, Pw.k_xIndexP3_ap, Pw.k_xIndexP2_ap, Pw.k_xIndexP1_ap, Pw.xIndexP_ap, Pw.xRange1_ap, Pw.getD_zero, Pw.getD_one, Pw.getD_two, Pw.getD_last, Pw.k_st_ap, Pw.k_xe_ap, Pw.kU_ap, Pw.k_lcB_ap, Pw.k_lcT_ap, Pw.k_xeF_lst, Pw.k_xf_ap, Pw.enum_rng0, Pw.zip_map, Pw.rev_rng, Pw.fre_un, Pw.fre_val, Pw.map_mp, Pw.all_tt, Pw.cut_mp, Pw.selDk_val, Pw.selDk_own, Pw.selODk_own, Pw.selK_int, Pw.selK_str, Pw.selSm_some, Pw.kTr2_ap, Pw.kTr3_ap, Pw.k_xDIn3_ap, Pw.k_xDIn2_ap, Pw.k_xDIn1_ap, Pw.xDIn_ap, Pw.k_xDGet4_ap, Pw.k_xDGet3_ap, Pw.k_xDGet2_ap, Pw.k_xDGet1_ap, Pw.xDGet_ap, Pw.k_xDGet13_ap, Pw.k_xDGet12_ap, Pw.k_xDGet11_ap, Pw.xDGet1_ap, Pw.k_xDGet24_ap, Pw.k_xDGet23_ap, Pw.k_xDGet22_ap, Pw.k_xDGet21_ap, Pw.xDGet2_ap, Pw.xDNew_ap, Pw.k_xDPut5_ap, Pw.k_xDPut4_ap, Pw.k_xDPut3_ap, Pw.k_xDPut2_ap, Pw.k_xDPut1_ap, Pw.xDPut_ap, Pw.k_xDisp13_ap, Pw.k_xDisp12_ap, Pw.k_xDisp11_ap, Pw.xDisp1_ap, Pw.selD2_ap, Pw.k_xDUpd3_ap, Pw.k_xDUpd2_ap, Pw.k_xDUpd1_ap, Pw.xDUpd_ap, Pw.k_xDc3_ap, Pw.k_xDc2_ap, Pw.k_xDc1_ap, Pw.xDc_ap, Pw.k_dcK2_ap, Pw.k_dcK_ap, Pw.k_dc_ap, Pw.lk_in, Pw.lk_get1, Pw.ptK_nat, Pw.ptV_nat, Pw.xSortSet_ap, Pw.k_xListR2_ap, Pw.k_xListR1_ap, Pw.xListR_ap, Pw.k_xRep3_ap, Pw.k_xRep2_ap, Pw.k_xRep1_ap, Pw.xRep_ap, Pw.xTupleF_lst, Pw.k_isF_ap, Pw.k_xTI2_ap, Pw.k_xTI1_ap, Pw.k_xTI_ap, Pw.xTIndexP_ap, Pw.k_whN_ap, Pw.k_whB_ap, Pw.xInC_lstN, Pw.xInC_tupN, Pw.xInC_nilT, Pw.k_xPopAt6_ap, Pw.k_xPopAt5_ap, Pw.k_xPopAt4_ap, Pw.k_xPopAt3_ap, Pw.k_xPopAt2_ap, Pw.k_xPopAt1_ap, Pw.xPopAt_ap, Pw.k_xTru2_ap, Pw.k_xTru1_ap, Pw.xTru_ap, Pw.k_xPop2_ap, Pw.k_xPop1_ap, Pw.xPop_ap, Pw.k_xDInE4_ap, Pw.k_xDInE3_ap, Pw.k_xDInE2_ap, Pw.k_xDInE1_ap, Pw.xDInE_ap, Pw.k_xRevB2_ap, Pw.k_xRevB1_ap, Pw.xRevB_ap, Pw.xSortA_ap, Pw.k_xLcO2_ap, Pw.k_xLcO1_ap, Pw.xLcO_ap, List.length_cons, List.length_nil, List.length_map, List.length_range, List.length_append, List.length_reverse, List.length_set, List.cons_append, List.nil_append, List.append_nil, List.reduceReplicate, List.take_succ_cons, List.take_zero, List.map_cons, List.map_nil, Nat.reduceSub, Nat.reduceAdd, Nat.reduceLT, Nat.reduceLeDiff, Nat.reduceEqDiff, Int.reduceAdd, Int.reduceSub, Int.reduceMul, Int.reduceNeg, Int.reduceToNat, Int.reduceLT, Int.reduceLE, Int.reduceEq, Int.reducePow, Int.toNat_natCast, List.nodup_cons, List.nodup_nil, List.not_mem_nil, List.set_cons_zero, List.set_cons_succ, List.reverse_cons, List.reverse_nil, Nat.zero_add, Int.sub_zero, Int.zero_add, ne_eq, reduceCtorEq, not_false_eq_true, not_true_eq_false, true_and, and_true, and_self, decide_true, decide_false, Bool.not_true, Bool.not_false, Bool.false_xor, Bool.true_xor, Bool.xor_false, Bool.xor_true, decide_eq_true_eq, eq_self, Nat.le_refl, Nat.zero_le, if_true, if_false, ite_true, ite_false, Bool.false_eq_true, reduceIte, reduceDIte, Int.lt_irrefl, Int.le_refl, ge_iff_le, gt_iff_lt, Pw.rng_snoc, Pw.selN_fre, Pw.selO_fre, Pw.getD_rng, Pw.selX_nat, Pw.rowD_rng, Pw.getD_rng0, Pw.xMin_map, Pw.xMin_mapT, Pw.xMax_map, Pw.xMax_mapT, Pw.sm_nat, Pw.lk_get, Pw.selN_nio, *])
theorem cut_to {α : Type} {l : List α} {k : Nat} : cutD l none (some (k : Int)) = l.take k := by
  unfold cutD
  rw [HT.sIx_none, HT.sIx_nat, List.drop_zero, Nat.sub_zero, ← List.take_take, List.take_length]
theorem firstAt_nat {q : Nat} : ∀ {P T : List Nat} {n : Nat}, q ∉ P → firstAt (.int (q : Nat)) ((P ++ q :: T).map fun x => D.int ((x : Nat) : Int)) n = some (n + P.length)
  | [], T, n, _ => by
    have e : eqF (.int (q : Nat)) (.int (q : Nat)) = true := by rw [eqF_nat]; simp
    simp [firstAt, e]
  | a :: P, T, n, h => by
    have hne : a ≠ q := fun e => h (by rw [e]; simp)
    have e : eqF (.int (a : Nat)) (.int (q : Nat)) = false := by rw [eqF_nat]; simp [hne]
    have ih := firstAt_nat (q := q) (P := P) (T := T) (n := n + 1) fun z => h (List.mem_cons_of_mem _ z)
    simp only [List.cons_append, List.map_cons, firstAt, e] at ih ⊢
    rw [List.length_cons]
    simpa [Nat.add_comm, Nat.add_left_comm, Nat.add_assoc] using ih
section
variable {m : Nat} {need : Nat → Int} {o : Nat → List Nat} {R : D → List Sl → Prop}
theorem check_few_ok (p : POk m need o) (h7 : m ≤ 7) {q : Nat} (hq : q < m) (k : R .non [.val (prD m need o), .val (.int (q : Nat))]) : x_check_few [.val (prD m need o), .val (.int (q : Nat))] R := by
  have h9 : ¬ (9 : Int) < (m : Int) := by omega
  unfold x_check_few xb_check_few
  walk_at "pz"
  refine check_promises_ok p ?_
  walk_at "pz"
  refine check_number_ok hq ?_
  walk_at "pz"
theorem is_order_ok (p : POk m need o) {r : List Nat} (hr : ∀ x ∈ r, x < m) (hnd : r.Nodup) (k : ∀ b : Bool, (b = true ↔ Ord need o r) → R (.bl b) [.val (prD m need o), .val (.lst (r.map fun x => D.int ((x : Nat) : Int)))]) :
    x_is_order [.val (prD m need o), .val (.lst (r.map fun x => D.int ((x : Nat) : Int)))] R := by
  have hm := p.m24
  unfold x_is_order xb_is_order
  walk_at "pz"
  refine check_promises_ok p ?_
  walk_at "pz"
  refine for_pre (e := fun x => D.int ((x : Nat) : Int)) (fun pre E => ∃ (s3 s4 s5 : Sl), E = [.val (prD m need o), .val (.lst (r.map fun x => D.int ((x : Nat) : Int))), .own false (.dK (kN pre) (pre.map fun _ => D.bl true)), s3, s4, s5, .un] ∧ fre s3 ∧ fre s4 ∧ fre s5 ∧ Ord need o pre)
    ⟨_, _, _, rfl, fre_un, fre_un, fre_un, fun a b c e => by simp at e⟩ (fun L a post hL E hE nx hnx => ?_) (fun E hE => ?_)
  · obtain ⟨s3, s4, s5, rfl, f3, f4, f5, hok⟩ := hE
    have hri : a < m := hr a (by rw [hL]; simp)
    have q1 : (0 : Int) ≤ ((a : Nat) : Int) := by omega
    have q2 : ((a : Nat) : Int) < (m : Int) := by omega
    have hn : a ∉ L := fun z => by
      rw [hL] at hnd
      exact (List.nodup_append.mp hnd).2.2 a z a (by simp) rfl
    have hLl : L.length ≤ m := by
      have := nodup_len hnd hr
      have e := congrArg List.length hL
      simp at e; omega
    have hol := p.len hri
    have kf := k false
    have hord : Ord need o r → need a ≤ (cnt o L a : Nat) := fun h => h L a post hL
    have hnext : need a ≤ (cnt o L a : Nat) → Ord need o (L ++ [a]) := fun h pre b po e => by
      rcases List.eq_nil_or_concat po with z | ⟨t, c, z⟩
      · subst z
        obtain ⟨e1, e2⟩ := List.append_inj' e rfl
        cases (List.cons.inj e2).1
        subst e1
        exact h
      · rw [List.concat_eq_append] at z
        subst z
        have e : L ++ [a] = (pre ++ b :: t) ++ [c] := by rw [e]; simp
        exact hok pre b t (List.append_inj' e rfl).1
    clear hL k
    walk_at "pz"
    refine lc_fil (fun x => decide (x ∈ L)) (fun x => D.int ((x : Nat) : Int)) (fun x hx kk kf hk hkf => ?_) (by simp; omega) ?_
    · walk_at "pz"
      by_cases h3 : x ∈ L
      · walk_at "pz"
        exact hk (decide_eq_true h3) _ ⟨rfl, fun _ h => h⟩
      · walk_at "pz"
        exact hkf (decide_eq_false h3) _ ⟨rfl, fun _ h => h⟩
    · rw [List.nil_append]
      by_cases h4 : ((((o a).filter fun x => decide (x ∈ L)).length : Nat) : Int) < need a
      · have := kf ⟨(fun z => nomatch z), fun z => by
          have := hord z
          unfold cnt at this
          omega⟩
        clear kf hnx hord hnext
        walk_at "pz"
      · have h5 := hnext (by unfold cnt; omega)
        clear kf hord hnext
        walk_at "pz"
        have el : ptl L a = L ++ [a] := if_neg hn
        have e3 : ((L ++ [a]).map fun x => if x = a then D.bl true else D.bl true) = (L ++ [a]).map fun _ => D.bl true := List.map_congr_left fun x _ => by simp
        rw [el, e3]
        refine ⟨by omega, hnx _ ⟨_, _, _, rfl, fre_val, fre_val, fre_val, h5⟩⟩
  · obtain ⟨s3, s4, s5, rfl, f3, f4, f5, hok⟩ := hE
    have := k true ⟨fun _ => hok, fun _ => rfl⟩
    walk_at "pz"
theorem order_to_ok (p : POk m need o) (h01 : ∀ k, k < m → need k = 0 ∨ need k = 1) {q : Nat} (hq : q < m) (hin : ∀ l F, RF m need o [] [] l F → q ∈ l)
    (k : ∀ (row : List Nat) (x : Nat), Wy need o q row.reverse x → need x = 0 → R (natT row) [.val (prD m need o), .val (.int (q : Nat))]) : x_order_to [.val (prD m need o), .val (.int (q : Nat))] R := by
  have hm := p.m24
  unfold x_order_to xb_order_to
  walk_at "pz"
  refine check_promises_ok p ?_
  walk_at "pz"
  refine check_number_ok hq ?_
  walk_at "pz"
  refine rounds_of_ok p (br := []) (md := []) (by simp) (by simp) fun l F h => ?_
  have hql := hin l F h
  have hll := nodup_len h.nd h.lt
  walk_at "pz"
  refine xSortB_own (io := false) (.inr rfl) (by omega) fun ys hp hs => ?_
  have hord := ord_of h hp hs
  have hyn : ys.Nodup := hp.nodup_iff.mpr h.nd
  have hym : ∀ x ∈ ys, x < m := fun x hx => h.lt x (hp.mem_iff.mp hx)
  obtain ⟨P, T, e⟩ := List.append_of_mem (hp.mem_iff.mpr hql)
  subst e
  have hqP : q ∉ P := fun z => (List.nodup_append.mp hyn).2.2 q z q (by simp) rfl
  have hPn : (P ++ [q]).Nodup := by
    have : (P ++ [q]) ++ T = P ++ q :: T := by simp
    rw [← this] at hyn
    exact (List.nodup_append.mp hyn).1
  have hPm : ∀ x ∈ P ++ [q], x < m := fun x hx => hym x (by
    rcases List.mem_append.mp hx with z | z
    · exact List.mem_append_left _ z
    · rw [List.mem_singleton.mp z]; simp)
  have hPo : Ord need o (P ++ [q]) := by
    have e : P ++ q :: T = (P ++ [q]) ++ T := by simp
    rw [e] at hord
    exact hord.pre
  have hPl := nodup_len hPn hPm
  have hix := firstAt_nat (T := T) (n := 0) hqP
  have eix : (0 + P.length : Nat) = P.length := Nat.zero_add _
  have e1 : ((P.length : Nat) : Int) + 1 = ((P.length + 1 : Nat) : Int) := by omega
  have ecut : ((P ++ q :: T).map fun x => D.int ((x : Nat) : Int)).take (P.length + 1) = (P ++ [q]).map fun x => D.int ((x : Nat) : Int) := by
    rw [← List.map_take]
    congr 1
    rw [List.take_append, List.take_of_length_le (Nat.le_succ _)]
    simp
  have hfl : (((P ++ q :: T).map fun x => D.int ((x : Nat) : Int)).all flatD) = true := flat_nat
  generalize (P ++ q :: T).map (fun x => D.int ((x : Nat) : Int)) = LD at hix ecut hfl ⊢
  rw [eix] at hix
  clear hord hs hp hyn hym h hql
  walk_at "pz"
  have idx : ∀ Q : D → Prop, Q (.int (P.length : Nat)) → idxD (.lst LD) (.int ((q : Nat) : Int)) Q := fun Q hQ => by
    refine ⟨rfl, hfl, ?_⟩
    rw [hix]
    exact hQ
  refine idx _ ?_
  clear idx hix hfl eix
  walk_at "pz"
  rw [cut_to, ecut]
  clear ecut e1
  walk_at "pz"
  have edl : ((P ++ [q]).map fun x => D.int ((x : Nat) : Int)).dropLast.reverse = P.reverse.map fun x => D.int ((x : Nat) : Int) := by
    rw [List.map_append, List.map_singleton, List.dropLast_concat, List.map_reverse]
  rw [edl]
  clear edl
  refine for_pre (e := fun x => D.int ((x : Nat) : Int)) (fun pre E => ∃ (S : List Nat) (x : Nat) (s4 s5 : Sl), E = [.val (prD m need o), .val (.int (q : Nat)), .val (.dK (kN l) (l.map fun v => D.int ((F v : Nat) : Int))), .val (.lst (((P.reverse.drop pre.length).reverse ++ S).map fun x => D.int ((x : Nat) : Int))), s4, s5, .un] ∧ fre s4 ∧ fre s5 ∧
      ((P.reverse.drop pre.length).reverse ++ S).Nodup ∧ (∀ x ∈ (P.reverse.drop pre.length).reverse ++ S, x < m) ∧ Ord need o ((P.reverse.drop pre.length).reverse ++ S) ∧ Wy need o q S.reverse x)
    ⟨[q], q, _, _, by simp, fre_un, fre_un, by simpa using hPn, by simpa using hPm, by simpa using hPo, .one⟩ (fun pre a post hP E hE nx hnx => ?_) (fun E hE => ?_)
  · obtain ⟨S, x, s4, s5, rfl, f4, f5, hn, hl, ho, hw⟩ := hE
    have hd : P.reverse.drop pre.length = a :: post := by rw [hP]; simp
    have hd2 : P.reverse.drop (pre ++ [a]).length = post := by rw [hP]; simp
    have eA : (a :: post).reverse ++ S = post.reverse ++ a :: S := by simp
    rw [hd, eA] at hn hl ho
    rw [hd2] at hnx
    rw [hd, eA]
    clear hd hd2 hP hPn hPm hPo hqP
    have haA : a ∉ post.reverse := fun z => (List.nodup_append.mp hn).2.2 a z a (by simp) rfl
    have haS : a ∉ S := (List.nodup_cons.mp (List.nodup_append.mp hn).2.1).1
    have hn2 : (post.reverse ++ S).Nodup := by
      have h1 := List.nodup_append.mp hn
      refine List.nodup_append.mpr ⟨h1.1, (List.nodup_cons.mp h1.2.1).2, fun y hy z hz => h1.2.2 y hy z (List.mem_cons_of_mem _ hz)⟩
    have hl2 : ∀ x ∈ post.reverse ++ S, x < m := fun x hx => hl x (by
      rcases List.mem_append.mp hx with z | z
      · exact List.mem_append_left _ z
      · exact List.mem_append_right _ (List.mem_cons_of_mem _ z))
    have hfil : (post.reverse ++ a :: S).filter (fun x => !decide (((x : Nat) : Int) = (a : Nat))) = post.reverse ++ S := by
      rw [List.filter_append, List.filter_cons_of_neg (by simp)]
      congr 1
      · exact List.filter_eq_self.mpr fun x hx => by
          have : ((x : Nat) : Int) ≠ (a : Nat) := fun e => haA (by have : x = a := by omega
                                                                   rw [← this]; exact hx)
          simp [this]
      · exact List.filter_eq_self.mpr fun x hx => by
          have : ((x : Nat) : Int) ≠ (a : Nat) := fun e => haS (by have : x = a := by omega
                                                                   rw [← this]; exact hx)
          simp [this]
    have hlen := nodup_len hn hl
    have hneed : ¬ Ord need o (post.reverse ++ S) → need x ≠ 0 ∧ a ∈ o x := fun h => needed (fun k hk => by rcases h01 k hk with z | z <;> omega) (fun k hk => hl k (List.mem_append_right _ (List.mem_cons_of_mem _ hk))) ho h hw
    generalize hLg : post.reverse ++ a :: S = LL at *
    walk_at "pz"
    refine lc_fil (fun x => !decide (((x : Nat) : Int) = (a : Nat))) (fun x => D.int ((x : Nat) : Int)) (fun y hy kk kf hk hkf => ?_) (by simp; omega) ?_
    · walk_at "pz"
      by_cases hya : ((y : Nat) : Int) = (a : Nat)
      · have := hkf (by simp [hya])
        clear hk hkf
        walk_at "pz"
        exact this _ ⟨rfl, fun _ h => h⟩
      · have := hk (by simp [hya])
        clear hk hkf
        walk_at "pz"
        exact this _ ⟨rfl, fun _ h => h⟩
    · rw [List.nil_append, hfil]
      walk_at "pz"
      refine is_order_ok p hl2 hn2 fun b hb => ?_
      cases b with
      | true =>
        walk_at "pz"
        exact hnx _ ⟨S, x, _, _, rfl, fre_val, fre_val, hn2, hl2, hb.mp rfl, hw⟩
      | false =>
        have hno : ¬ Ord need o (post.reverse ++ S) := fun z => by have := hb.mpr z; cases this
        obtain ⟨h1, h2⟩ := hneed hno
        clear hb
        walk_at "pz"
        rw [← hLg] at hn hl ho ⊢
        refine hnx _ ⟨a :: S, a, _, _, rfl, fre_val, fre_val, hn, hl, ho, ?_⟩
        rw [List.reverse_cons]
        exact .snoc hw h1 h2 fun z => haS (List.mem_reverse.mp z)
  · obtain ⟨S, x, s4, s5, rfl, f4, f5, hn, hl, ho, hw⟩ := hE
    have ed : P.reverse.drop P.reverse.length = [] := List.drop_length ..
    rw [ed] at hn hl ho ⊢
    rw [List.reverse_nil, List.nil_append] at hn hl ho ⊢
    have hx : need x = 0 := by
      obtain ⟨w', ew⟩ := hw.last
      have eS : S = x :: w'.reverse := by rw [← List.reverse_reverse S, ew]; simp
      have := ho [] x w'.reverse (by rw [eS]; rfl)
      have e0 : cnt o [] x = 0 := by unfold cnt; rw [List.filter_eq_nil_iff.mpr (by simp)]; rfl
      rw [e0] at this
      have := p.n0 x (hl x (by rw [eS]; simp))
      omega
    have := k S x hw hx
    walk_at "pz"
end
end K99
end

section
set_option maxRecDepth 100000
set_option maxHeartbeats 1000000
namespace K99
open PySem L2 Pw GBf
local macro_rules | `(tactic| walk_at "px") => `(tactic| simp (config := { failIfUnchanged := false }) only [Pw.nth_nil, Pw.nth_zero, Pw.nth_succ, Pw.put_zero, Pw.put_succ, Pw.shr_lst, Pw.shr_dK, Pw.shr_dT, Pw.shr_lls, Pw.selS_val, Pw.selS_own, Pw.kS_ap, Pw.kX_ap, Pw.kT_ap, Pw.kRB_ap, Pw.kRD_ap, Pw.kF_ap, Pw.selB_t, Pw.selB_f, Pw.selBl_bl, Pw.selN_un, Pw.selN_val, Pw.selN_own, Pw.noio_sel, Pw.selI_int, Pw.selR_lst, Pw.selR_tup, Pw.selR_ftup, Pw.selR_rng, Pw.selQ_lst, Pw.selQ_tup, Pw.revD_lst, Pw.revD_tup, Pw.selZ_lst, Pw.selZ_tup, Pw.selO_un, Pw.selO_val, Pw.k_now_ap, Pw.nOw_nil, Pw.nOw_cons, Pw.wipeE_nil, Pw.wipeE_cons, Pw.backE_nil, Pw.backE_cons, Pw.toSl_v, Pw.ioS_own, Pw.toSl_rf, Pw.rfs_nil, Pw.rfs_val, Pw.rfs_ref, Pw.argsOf_eq, Pw.argsOf_nil, Pw.argsOf_cons, Pw.selP_own, Pw.isNonD_non, Pw.isNonD_int, Pw.isNonD_str, Pw.isNonD_tup, Pw.isNonD_lst, Pw.isNonD_bl, Pw.selIx_val, Pw.selIx_own, Pw.selLls_own, Pw.selVI_int, Pw.selX_zero, Pw.selX_one, Pw.selX_last, Pw.selL_lst, Pw.selSz_tup, Pw.selSz_lst, Pw.selSz_fro, Pw.selOL_own, Pw.k_xVar1_ap, Pw.k_xVar2_ap, Pw.xVar_ap, Pw.xC_ap, Pw.k_xShr1_ap, Pw.xShr_ap, Pw.k_xOp3_ap, Pw.k_xOp2_ap, Pw.k_xOp1_ap, Pw.xOp_ap, Pw.k_xUn2_ap, Pw.k_xUn1_ap, Pw.xUn_ap, Pw.xNext_ap, Pw.xSeq_ap, Pw.xBreak_ap, Pw.xCont_ap, Pw.k_xDrop1_ap, Pw.xDrop_ap, Pw.xRet_ap, Pw.xRetN_ap, Pw.k_xIfS1_ap, Pw.xIfS_ap, Pw.xNever_ap, Pw.k_xB2_ap, Pw.k_xB1_ap, Pw.xB_ap, Pw.k_xAnd1_ap, Pw.xAnd_ap, Pw.k_xOr1_ap, Pw.xOr_ap, Pw.k_xNot1_ap, Pw.xNot_ap, Pw.k_xIf1_ap, Pw.xIf_ap, Pw.k_xAndV2_ap, Pw.k_xAndV1_ap, Pw.xAndV_ap, Pw.k_xOrV2_ap, Pw.k_xOrV1_ap, Pw.xOrV_ap, Pw.k_xNotV2_ap, Pw.k_xNotV1_ap, Pw.xNotV_ap, Pw.xYes_ap, Pw.xvNil_ap, Pw.k_xvCons2_ap, Pw.k_xvCons1_ap, Pw.xvCons_ap, Pw.k_xTup1_ap, Pw.xTup_ap, Pw.k_xLst1_ap, Pw.xLst_ap, Pw.k_xCB2_ap, Pw.k_xCB1_ap, Pw.xCB_ap, Pw.k_pk_ap, Pw.pk_ap, Pw.k_xOpL3_ap, Pw.k_xOpL2_ap, Pw.k_xOpL1_ap, Pw.xOpL_ap, Pw.k_xOpR3_ap, Pw.k_xOpR2_ap, Pw.k_xOpR1_ap, Pw.xOpR_ap, Pw.k_xCBp2_ap, Pw.k_xCBp1_ap, Pw.xCBp_ap, Pw.xgName_ap, Pw.xgNil_ap, Pw.k_xgCons1_ap, Pw.xgCons_ap, Pw.xgTup_ap, Pw.k_xAsg1_ap, Pw.xAsg_ap, Pw.k_xAsgO1_ap, Pw.xAsgO_ap, Pw.k_xAug2_ap, Pw.xAug_ap, Pw.k_xFor1_ap, Pw.xFor_ap, Pw.xForL_nil, Pw.k_forL_ap, Pw.k_xiAny2_ap, Pw.k_xiAny3_ap, Pw.k_xiAny1_ap, Pw.xiAny_ap, Pw.k_xiRev2_ap, Pw.k_xiRev1_ap, Pw.xiRev_ap, Pw.k_xRevE_lst, Pw.k_xRevE_tup, Pw.xRevE_ap, Pw.k_xiEnum2_ap, Pw.k_xiEnum1_ap, Pw.xiEnum_ap, Pw.k_xiZip3_ap, Pw.k_xiZip2_ap, Pw.k_xiZip1_ap, Pw.xiZip_ap, Pw.k_xiR12_ap, Pw.k_xiR11_ap, Pw.xiR1_ap, Pw.k_xiR24_ap, Pw.k_xiR22_ap, Pw.k_xiR21_ap, Pw.xiR2_ap, Pw.rgD_0, Pw.k_xLc3_ap, Pw.k_xLc2_ap, Pw.k_xLc1_ap, Pw.xLc_ap, Pw.k_xLcF3_ap, Pw.k_xLcF2_ap, Pw.k_xLcF1_ap, Pw.xLcF_ap, Pw.xaNil_ap, Pw.k_xaCons2_ap, Pw.k_xaCons1_ap, Pw.xaCons_ap, Pw.k_xaRef3_ap, Pw.kF1_ap, Pw.k_xaRef2_ap, Pw.k_xaRef1_ap, Pw.xaRef_ap, Pw.putBack_nil, Pw.putBack_val, Pw.k_putBack_ap, Pw.putBack_ref, Pw.k_xCall2_ap, Pw.k_xCall1_ap, Pw.xCall_ap, Pw.k_fnNx_ap, Pw.k_fnRt_ap, Pw.kNo_ap, Pw.fnX_ap, Pw.xI_ap, Pw.xIC_ap, Pw.xNeg_ap, Pw.xIsN_ap, Pw.xNotN_ap, Pw.xAdd_int, Pw.xAdd_str, Pw.xAdd_tup, Pw.xAdd_lst, Pw.xEqC_int, Pw.xEqC_str, Pw.xEqC_bl, Pw.xEqC_non, Pw.xEqC_ni, Pw.xEqC_in, Pw.k_xCh5_ap, Pw.k_xCh4_ap, Pw.k_xCh3_ap, Pw.k_xCh2b_ap, Pw.k_xCh2_ap, Pw.k_xCh1_ap, Pw.xChain_ap, Pw.xIx_lst, Pw.xIx_tup, Pw.k_xIxP2_ap, Pw.k_xIxP1_ap, Pw.xIxP_ap, Pw.k_xIx2V5_ap, Pw.k_xIx2V4_ap, Pw.k_xIx2V3_ap, Pw.k_xIx2V2_ap, Pw.k_xIx2V1_ap, Pw.xIx2V_ap, Pw.k_xSet26_ap, Pw.k_xSet25_ap, Pw.k_xSet24_ap, Pw.k_xSet23_ap, Pw.k_xSet22_ap, Pw.k_xSet21_ap, Pw.xSet2_ap, Pw.k_xSetRow5_ap, Pw.k_xSetRow4_ap, Pw.k_xSetRow3_ap, Pw.k_xSetRow2_ap, Pw.k_xSetRow1_ap, Pw.xSetRow_ap, Pw.xNoPart_ap, Pw.k_xPart2_ap, Pw.k_xPart1_ap, Pw.xPart_ap, Pw.k_xSl4_ap, Pw.k_xSl3_ap, Pw.k_xSl2_ap, Pw.k_xSl1_ap, Pw.xSl_ap, Pw.xLen_lst, Pw.xLen_tup, Pw.xLen_dK, Pw.xLen_str, Pw.xTupleOf_lst, Pw.xTupleOf_tup, Pw.xListOf_lst, Pw.xListOf_tup, Pw.xAbs_ap, Pw.xInt1_int, Pw.xInt1_bl, Pw.xMax2_ap, Pw.xMin2_ap, Pw.xAll_map, Pw.xAny_map, Pw.xSum_map, Pw.xSum_mapT, Pw.k_xAppend3_ap, Pw.k_xAppend2_ap, Pw.k_xAppend1_ap, Pw.xAppend_ap, Pw.k_xExtend4_ap, Pw.k_xExtend3_ap, Pw.k_xExtend2_ap, Pw.k_xExtend1_ap, Pw.xExtend_ap, Pw.k_xRev1_ap, Pw.xRev_ap, Pw.k_xSetIx6_ap, Pw.k_xSetIx5_ap, Pw.k_xSetIx4_ap, Pw.k_xSetIx3_ap, Pw.k_xSetIx2_ap, Pw.k_xSetIx1_ap, Pw.xSetIx_ap, Pw.kTr_ap, Pw.k_isL_ap, Pw.k_xIndexP3_ap, Pw.k_xIndexP2_ap, Pw.k_xIndexP1_ap, Pw.xIndexP_ap, Pw.xRange1_ap, Pw.getD_zero, Pw.getD_one, Pw.getD_two, Pw.getD_last, Pw.k_st_ap, Pw.k_xe_ap, Pw.kU_ap, Pw.k_lcB_ap, Pw.k_lcT_ap, Pw.k_xeF_lst, Pw.k_xf_ap, Pw.enum_rng0, Pw.zip_map, Pw.rev_rng, Pw.fre_un, Pw.fre_val, Pw.map_mp, Pw.all_tt, Pw.cut_mp, Pw.selDk_val, Pw.selDk_own, Pw.selODk_own, Pw.selK_int, Pw.selK_str, Pw.selSm_some, Pw.kTr2_ap, Pw.kTr3_ap, Pw.k_xDIn3_ap, Pw.k_xDIn2_ap, Pw.k_xDIn1_ap, Pw.xDIn_ap, Pw.k_xDGet4_ap, Pw.k_xDGet3_ap, Pw.k_xDGet2_ap, Pw.k_xDGet1_ap, Pw.xDGet_ap, Pw.k_xDGet13_ap, Pw.k_xDGet12_ap, Pw.k_xDGet11_ap, Pw.xDGet1_ap, Pw.k_xDGet24_ap, Pw.k_xDGet23_ap, Pw.k_xDGet22_ap, Pw.k_xDGet21_ap, Pw.xDGet2_ap, Pw.xDNew_ap, Pw.k_xDPut5_ap, Pw.k_xDPut4_ap, Pw.k_xDPut3_ap, Pw.k_xDPut2_ap, Pw.k_xDPut1_ap, Pw.xDPut_ap, Pw.k_xDisp13_ap, Pw.k_xDisp12_ap, Pw.k_xDisp11_ap, Pw.xDisp1_ap, Pw.selD2_ap, Pw.k_xDUpd3_ap, Pw.k_xDUpd2_ap, Pw.k_xDUpd1_ap, Pw.xDUpd_ap, Pw.k_xDc3_ap, Pw.k_xDc2_ap, Pw.k_xDc1_ap, Pw.xDc_ap, Pw.k_dcK2_ap, Pw.k_dcK_ap, Pw.k_dc_ap, Pw.lk_in, Pw.lk_get1, Pw.ptK_nat, Pw.ptV_nat, Pw.xSortSet_ap, Pw.k_xListR2_ap, Pw.k_xListR1_ap, Pw.xListR_ap, Pw.k_xRep3_ap, Pw.k_xRep2_ap, Pw.k_xRep1_ap, Pw.xRep_ap, Pw.xTupleF_lst, Pw.k_isF_ap, Pw.k_xTI2_ap, Pw.k_xTI1_ap, Pw.k_xTI_ap, Pw.xTIndexP_ap, Pw.k_whN_ap, Pw.k_whB_ap, Pw.xInC_lstN, Pw.xInC_tupN, Pw.xInC_nilT, Pw.k_xPopAt6_ap, Pw.k_xPopAt5_ap, Pw.k_xPopAt4_ap, Pw.k_xPopAt3_ap, Pw.k_xPopAt2_ap, Pw.k_xPopAt1_ap, Pw.xPopAt_ap, Pw.k_xTru2_ap, Pw.k_xTru1_ap, Pw.xTru_ap, Pw.k_xPop2_ap, Pw.k_xPop1_ap, Pw.xPop_ap, Pw.k_xDInE4_ap, Pw.k_xDInE3_ap, Pw.k_xDInE2_ap, Pw.k_xDInE1_ap, Pw.xDInE_ap, Pw.k_xRevB2_ap, Pw.k_xRevB1_ap, Pw.xRevB_ap, Pw.xSortA_ap, Pw.k_xLcO2_ap, Pw.k_xLcO1_ap, Pw.xLcO_ap, List.length_cons, List.length_nil, List.length_map, List.length_range, List.length_append, List.length_reverse, List.length_set, List.cons_append, List.nil_append, List.append_nil, List.reduceReplicate, List.take_succ_cons, List.take_zero, List.map_cons, List.map_nil, Nat.reduceSub, Nat.reduceAdd, Nat.reduceLT, Nat.reduceLeDiff, Nat.reduceEqDiff, Int.reduceAdd, Int.reduceSub, Int.reduceMul, Int.reduceNeg, Int.reduceToNat, Int.reduceLT, Int.reduceLE, Int.reduceEq, Int.reducePow, Int.toNat_natCast, List.nodup_cons, List.nodup_nil, List.not_mem_nil, List.set_cons_zero, List.set_cons_succ, List.reverse_cons, List.reverse_nil, Nat.zero_add, Int.sub_zero, Int.zero_add, ne_eq, reduceCtorEq, not_false_eq_true, not_true_eq_false, true_and, and_true, and_self, decide_true, decide_false, Bool.not_true, Bool.not_false, Bool.false_xor, Bool.true_xor, Bool.xor_false, Bool.xor_true, decide_eq_true_eq, eq_self, Nat.le_refl, Nat.zero_le, if_true, if_false, ite_true, ite_false, Bool.false_eq_true, reduceIte, reduceDIte, Int.lt_irrefl, Int.le_refl, ge_iff_le, gt_iff_lt])
local macro_rules | `(tactic| walk_at "pz") => `(tactic| simp (config := { failIfUnchanged := false }) only [Pw.nth_nil, Pw.nth_zero, Pw.nth_succ, Pw.put_zero, Pw.put_succ, Pw.shr_lst, Pw.shr_dK, Pw.shr_dT, Pw.shr_lls, Pw.selS_val, Pw.selS_own, Pw.kS_ap, Pw.kX_ap, Pw.kT_ap, Pw.kRB_ap, Pw.kRD_ap, Pw.kF_ap, Pw.selB_t, Pw.selB_f, Pw.selBl_bl, Pw.selN_un, Pw.selN_val, Pw.selN_own, Pw.noio_sel, Pw.selI_int, Pw.selR_lst, Pw.selR_tup, Pw.selR_ftup, Pw.selR_rng, Pw.selQ_lst, Pw.selQ_tup, Pw.revD_lst, Pw.revD_tup, Pw.selZ_lst, Pw.selZ_tup, Pw.selO_un, Pw.selO_val, Pw.k_now_ap, Pw.nOw_nil, Pw.nOw_cons, Pw.wipeE_nil, Pw.wipeE_cons, Pw.backE_nil, Pw.backE_cons, Pw.toSl_v, Pw.ioS_own, Pw.toSl_rf, Pw.rfs_nil, Pw.rfs_val, Pw.rfs_ref, Pw.argsOf_eq, Pw.argsOf_nil, Pw.argsOf_cons, Pw.selP_own, Pw.isNonD_non, Pw.isNonD_int, Pw.isNonD_str, Pw.isNonD_tup, Pw.isNonD_lst, Pw.isNonD_bl, Pw.selIx_val, Pw.selIx_own, Pw.selLls_own, Pw.selVI_int, Pw.selX_zero, Pw.selX_one, Pw.selX_last, Pw.selL_lst, Pw.selSz_tup, Pw.selSz_lst, Pw.selSz_fro, Pw.selOL_own, Pw.k_xVar1_ap, Pw.k_xVar2_ap, Pw.xVar_ap, Pw.xC_ap, Pw.k_xShr1_ap, Pw.xShr_ap, Pw.k_xOp3_ap, Pw.k_xOp2_ap, Pw.k_xOp1_ap, Pw.xOp_ap, Pw.k_xUn2_ap, Pw.k_xUn1_ap, Pw.xUn_ap, Pw.xNext_ap, Pw.xSeq_ap, Pw.xBreak_ap, Pw.xCont_ap, Pw.k_xDrop1_ap, Pw.xDrop_ap, Pw.xRet_ap, Pw.xRetN_ap, Pw.k_xIfS1_ap, Pw.xIfS_ap, Pw.xNever_ap, Pw.k_xB2_ap, Pw.k_xB1_ap, Pw.xB_ap, Pw.k_xAnd1_ap, Pw.xAnd_ap, Pw.k_xOr1_ap, Pw.xOr_ap, Pw.k_xNot1_ap, Pw.xNot_ap, Pw.k_xIf1_ap, Pw.xIf_ap, Pw.k_xAndV2_ap, Pw.k_xAndV1_ap, Pw.xAndV_ap, Pw.k_xOrV2_ap, Pw.k_xOrV1_ap, Pw.xOrV_ap, Pw.k_xNotV2_ap, Pw.k_xNotV1_ap, Pw.xNotV_ap, Pw.xYes_ap, Pw.xvNil_ap, Pw.k_xvCons2_ap, Pw.k_xvCons1_ap, Pw.xvCons_ap, Pw.k_xTup1_ap, Pw.xTup_ap, Pw.k_xLst1_ap, Pw.xLst_ap, Pw.k_xCB2_ap, Pw.k_xCB1_ap, Pw.xCB_ap, Pw.k_pk_ap, Pw.pk_ap, Pw.k_xOpL3_ap, Pw.k_xOpL2_ap, Pw.k_xOpL1_ap, Pw.xOpL_ap, Pw.k_xOpR3_ap, Pw.k_xOpR2_ap, Pw.k_xOpR1_ap, Pw.xOpR_ap, Pw.k_xCBp2_ap, Pw.k_xCBp1_ap, Pw.xCBp_ap, Pw.xgName_ap, Pw.xgNil_ap, Pw.k_xgCons1_ap, Pw.xgCons_ap, Pw.xgTup_ap, Pw.k_xAsg1_ap, Pw.xAsg_ap, Pw.k_xAsgO1_ap, Pw.xAsgO_ap, Pw.k_xAug2_ap, Pw.xAug_ap, Pw.k_xFor1_ap, Pw.xFor_ap, Pw.xForL_nil, Pw.k_forL_ap, Pw.k_xiAny2_ap, Pw.k_xiAny3_ap, Pw.k_xiAny1_ap, Pw.xiAny_ap, Pw.k_xiRev2_ap, Pw.k_xiRev1_ap, Pw.xiRev_ap, Pw.k_xRevE_lst, Pw.k_xRevE_tup, Pw.xRevE_ap, Pw.k_xiEnum2_ap, Pw.k_xiEnum1_ap, Pw.xiEnum_ap, Pw.k_xiZip3_ap, Pw.k_xiZip2_ap, Pw.k_xiZip1_ap, Pw.xiZip_ap, Pw.k_xiR12_ap, Pw.k_xiR11_ap, Pw.xiR1_ap, Pw.k_xiR24_ap, Pw.k_xiR22_ap, Pw.k_xiR21_ap, Pw.xiR2_ap, Pw.rgD_0, Pw.k_xLc3_ap, Pw.k_xLc2_ap, Pw.k_xLc1_ap, Pw.xLc_ap, Pw.k_xLcF3_ap, Pw.k_xLcF2_ap, Pw.k_xLcF1_ap, Pw.xLcF_ap, Pw.xaNil_ap, Pw.k_xaCons2_ap, Pw.k_xaCons1_ap, Pw.xaCons_ap, Pw.k_xaRef3_ap, Pw.kF1_ap, Pw.k_xaRef2_ap, Pw.k_xaRef1_ap, Pw.xaRef_ap, Pw.putBack_nil, Pw.putBack_val, Pw.k_putBack_ap, Pw.putBack_ref, Pw.k_xCall2_ap, Pw.k_xCall1_ap, Pw.xCall_ap, Pw.k_fnNx_ap, Pw.k_fnRt_ap, Pw.kNo_ap, Pw.fnX_ap, Pw.xI_ap, Pw.xIC_ap, Pw.xNeg_ap, Pw.xIsN_ap, Pw.xNotN_ap, Pw.xAdd_int, Pw.xAdd_str, Pw.xAdd_tup, Pw.xAdd_lst, Pw.xEqC_int, Pw.xEqC_str, Pw.xEqC_bl, Pw.xEqC_non, Pw.xEqC_ni, Pw.xEqC_in, Pw.k_xCh5_ap, Pw.k_xCh4_ap, Pw.k_xCh3_ap, Pw.k_xCh2b_ap, Pw.k_xCh2_ap, Pw.k_xCh1_ap, Pw.xChain_ap, Pw.xIx_lst, Pw.xIx_tup, Pw.k_xIxP2_ap, Pw.k_xIxP1_ap, Pw.xIxP_ap, Pw.k_xIx2V5_ap, Pw.k_xIx2V4_ap, Pw.k_xIx2V3_ap, Pw.k_xIx2V2_ap, Pw.k_xIx2V1_ap, Pw.xIx2V_ap, Pw.k_xSet26_ap, Pw.k_xSet25_ap, Pw.k_xSet24_ap, Pw.k_xSet23_ap, Pw.k_xSet22_ap, Pw.k_xSet21_ap, Pw.xSet2_ap, Pw.k_xSetRow5_ap, Pw.k_xSetRow4_ap, Pw.k_xSetRow3_ap, Pw.k_xSetRow2_ap, Pw.k_xSetRow1_ap, Pw.xSetRow_ap, Pw.xNoPart_ap, Pw.k_xPart2_ap, Pw.k_xPart1_ap, Pw.xPart_ap, Pw.k_xSl4_ap, Pw.k_xSl3_ap, Pw.k_xSl2_ap, Pw.k_xSl1_ap, Pw.xSl_ap, Pw.xLen_lst, Pw.xLen_tup, Pw.xLen_dK, Pw.xLen_str, Pw.xTupleOf_lst, Pw.xTupleOf_tup, Pw.xListOf_lst, Pw.xListOf_tup, Pw.xAbs_ap, Pw.xInt1_int, Pw.xInt1_bl, Pw.xMax2_ap, Pw.xMin2_ap, Pw.xAll_map, Pw.xAny_map, Pw.xSum_map, Pw.xSum_mapT, Pw.k_xAppend3_ap, Pw.k_xAppend2_ap, Pw.k_xAppend1_ap, Pw.xAppend_ap, Pw.k_xExtend4_ap, Pw.k_xExtend3_ap, Pw.k_xExtend2_ap, Pw.k_xExtend1_ap, Pw.xExtend_ap, Pw.k_xRev1_ap, Pw.xRev_ap, Pw.k_xSetIx6_ap, Pw.k_xSetIx5_ap, Pw.k_xSetIx4_ap, Pw.k_xSetIx3_ap, Pw.k_xSetIx2_ap, Pw.k_xSetIx1_ap, Pw.xSetIx_ap, Pw.kTr_ap, Pw.k_isL_ap, Pw.k_xIndexP3_ap, Pw.k_xIndexP2_ap, Pw.k_xIndexP1_ap, Pw.xIndexP_ap, Pw.xRange1_ap, Pw.getD_zero, Pw.getD_one, Pw.getD_two, Pw.getD_last, Pw.k_st_ap, Pw.k_xe_ap, Pw.kU_ap, Pw.k_lcB_ap, Pw.k_lcT_ap, Pw.k_xeF_lst, Pw.k_xf_ap, Pw.enum_rng0, Pw.zip_map, Pw.rev_rng, Pw.fre_un, Pw.fre_val, Pw.map_mp, Pw.all_tt, Pw.cut_mp, Pw.selDk_val, Pw.selDk_own, Pw.selODk_own, Pw.selK_int, Pw.selK_str, Pw.selSm_some, Pw.kTr2_ap, Pw.kTr3_ap, Pw.k_xDIn3_ap, Pw.k_xDIn2_ap, Pw.k_xDIn1_ap, Pw.xDIn_ap, Pw.k_xDGet4_ap, Pw.k_xDGet3_ap, Pw.k_xDGet2_ap, Pw.k_xDGet1_ap, Pw.xDGet_ap, Pw.k_xDGet13_ap, Pw.k_xDGet12_ap, Pw.k_xDGet11_ap, Pw.xDGet1_ap, Pw.k_xDGet24_ap, Pw.k_xDGet23_ap, Pw.k_xDGet22_ap, Pw.k_xDGet21_ap, Pw.xDGet2_ap, Pw.xDNew_ap, Pw.k_xDPut5_ap, Pw.k_xDPut4_ap, Pw.k_xDPut3_ap, Pw.k_xDPut2_ap, Pw.k_xDPut1_ap, Pw.xDPut_ap, Pw.k_xDisp13_ap, Pw.k_xDisp12_ap, Pw.k_xDisp11_ap, Pw.xDisp1_ap, Pw.selD2_ap, Pw.k_xDUpd3_ap, Pw.k_xDUpd2_ap, Pw.k_xDUpd1_ap, Pw.xDUpd_ap, Pw.k_xDc3_ap, Pw.k_xDc2_ap, Pw.k_xDc1_ap, Pw.xDc_ap, Pw.k_dcK2_ap, Pw.k_dcK_ap, Pw.k_dc_ap, Pw.lk_in, Pw.lk_get1, Pw.ptK_nat, Pw.ptV_nat, Pw.xSortSet_ap, Pw.k_xListR2_ap, Pw.k_xListR1_ap, Pw.xListR_ap, Pw.k_xRep3_ap, Pw.k_xRep2_ap, Pw.k_xRep1_ap, Pw.xRep_ap, Pw.xTupleF_lst, Pw.k_isF_ap, Pw.k_xTI2_ap, Pw.k_xTI1_ap, Pw.k_xTI_ap, Pw.xTIndexP_ap, Pw.k_whN_ap, Pw.k_whB_ap, Pw.xInC_lstN, Pw.xInC_tupN, Pw.xInC_nilT, Pw.k_xPopAt6_ap, Pw.k_xPopAt5_ap, Pw.k_xPopAt4_ap, Pw.k_xPopAt3_ap, Pw.k_xPopAt2_ap, Pw.k_xPopAt1_ap, Pw.xPopAt_ap, Pw.k_xTru2_ap, Pw.k_xTru1_ap, Pw.xTru_ap, Pw.k_xPop2_ap, Pw.k_xPop1_ap, Pw.xPop_ap, Pw.k_xDInE4_ap, Pw.k_xDInE3_ap, Pw.k_xDInE2_ap, Pw.k_xDInE1_ap, Pw.xDInE_ap, Pw.k_xRevB2_ap, Pw.k_xRevB1_ap, Pw.xRevB_ap, Pw.xSortA_ap, Pw.k_xLcO2_ap, Pw.k_xLcO1_ap, Pw.xLcO_ap, List.length_cons, List.length_nil, List.length_map, List.length_range, List.length_append, List.length_reverse, List.length_set, List.cons_append, List.nil_append, List.append_nil, List.reduceReplicate, List.take_succ_cons, List.take_zero, List.map_cons, List.map_nil, Nat.reduceSub, Nat.reduceAdd, Nat.reduceLT, Nat.reduceLeDiff, Nat.reduceEqDiff, Int.reduceAdd, Int.reduceSub, Int.reduceMul, Int.reduceNeg, Int.reduceToNat, Int.reduceLT, Int.reduceLE, Int.reduceEq, Int.reducePow, Int.toNat_natCast, List.nodup_cons, List.nodup_nil, List.not_mem_nil, List.set_cons_zero, List.set_cons_succ, List.reverse_cons, List.reverse_nil, Nat.zero_add, Int.sub_zero, Int.zero_add, ne_eq, reduceCtorEq, not_false_eq_true, not_true_eq_false, true_and, and_true, and_self, decide_true, decide_false, Bool.not_true, Bool.not_false, Bool.false_xor, Bool.true_xor, Bool.xor_false, Bool.xor_true, decide_eq_true_eq, eq_self, Nat.le_refl, Nat.zero_le, if_true, if_false, ite_true, ite_false, Bool.false_eq_true, reduceIte, reduceDIte, Int.lt_irrefl, Int.le_refl, ge_iff_le, gt_iff_lt, Pw.rng_snoc, Pw.selN_fre, Pw.selO_fre, Pw.getD_rng, Pw.selX_nat, Pw.rowD_rng, Pw.getD_rng0, Pw.xMin_map, Pw.xMin_mapT, Pw.xMax_map, Pw.xMax_mapT, Pw.sm_nat, Pw.lk_get, Pw.selN_nio, *])
open Classical in
noncomputable def tell (P : Prop) : Bool := decide P
theorem tell_t {P : Prop} (h : P) : tell P = true := by unfold tell; simp [h]
theorem tell_f {P : Prop} (h : ¬ P) : tell P = false := by unfold tell; simp [h]
theorem tell_iff {P : Prop} : tell P = true ↔ P := by unfold tell; simp
theorem fil_yes {p : List Nat → Bool} {pre : List (List Nat)} {r : List Nat} (h : p r = true) : (pre ++ [r]).filter p = pre.filter p ++ [r] := by
  rw [List.filter_append, List.filter_cons_of_pos h]; rfl
theorem fil_no {p : List Nat → Bool} {pre : List (List Nat)} {r : List Nat} (h : p r = false) : (pre ++ [r]).filter p = pre.filter p := by
  rw [List.filter_append, List.filter_cons_of_neg (by rw [h]; decide), List.filter_nil, List.append_nil]
section
variable {m : Nat} {need : Nat → Int} {o : Nat → List Nat} {R : D → List Sl → Prop}
theorem is_stuck_ok (p : POk m need o) {r : List Nat} (ha : Asc r) (hr : ∀ x ∈ r, x < m) (k : ∀ b : Bool, (b = true → ∀ n ∈ r, (((o n).filter fun x => decide (x ∉ r)).length : Nat) < need n) → R (.bl b) [.val (prD m need o), .val (natT r)]) :
    x_is_stuck [.val (prD m need o), .val (natT r)] R := by
  have hm := p.m24
  have hrl := nodup_len (sorted_nodup ha) hr
  unfold x_is_stuck xb_is_stuck
  walk_at "pz"
  refine check_promises_ok p ?_
  walk_at "pz"
  refine sortset_nat (by omega) fun zs hz hmz => ?_
  have ez : zs = r := sorted_eq hz ha hmz
  subst ez
  walk_at "pz"
  refine eq_natl (fun x hx => by have := hr x hx; omega) ?_
  walk_at "pz"
  refine lc_map (fun _ => .bl true) (fun i hi kk hkk => ?_) (by simp; omega) ?_
  · have h6 : (0 : Int) ≤ (i : Int) := by omega
    have h7 : (i : Int) < (m : Int) := by have := hr i hi; omega
    walk_at "pz"
    exact hkk _ ⟨rfl, fun _ h => h⟩
  · rw [List.nil_append]
    walk_at "pz"
    refine for_pre (e := fun x => D.int ((x : Nat) : Int)) (fun pre E => ∃ (s2 s3 s4 : Sl), E = [.val (prD m need o), .val (natT zs), s2, s3, s4, .un] ∧ fre s2 ∧ fre s3 ∧ fre s4 ∧ ∀ n ∈ pre, (((o n).filter fun x => decide (x ∉ zs)).length : Nat) < need n)
      ⟨_, _, _, rfl, fre_un, fre_un, fre_un, by simp⟩ (fun pre a post hL E hE nx hnx => ?_) (fun E hE => ?_)
    · obtain ⟨s2, s3, s4, rfl, f2, f3, f4, hok⟩ := hE
      have ham : a < m := hr a (by rw [hL]; simp)
      have hol := p.len ham
      have kf := k false (fun z => nomatch z)
      have q1 : (0 : Int) ≤ ((a : Nat) : Int) := by omega
      clear hL k
      walk_at "pz"
      refine lc_fil (fun x => decide (x ∉ zs)) (fun x => D.int ((x : Nat) : Int)) (fun x hx kk kf hk hkf => ?_) (by simp; omega) ?_
      · walk_at "pz"
        by_cases h3 : x ∈ zs
        · walk_at "pz"
          exact hkf (by simp [h3]) _ ⟨rfl, fun _ h => h⟩
        · walk_at "pz"
          exact hk (by simp [h3]) _ ⟨rfl, fun _ h => h⟩
      · rw [List.nil_append]
        by_cases h4 : need a ≤ (((o a).filter fun x => decide (x ∉ zs)).length : Nat)
        · clear hnx
          walk_at "pz"
        · clear kf
          walk_at "pz"
          refine hnx _ ⟨_, _, _, rfl, fre_val, fre_val, fre_val, fun n hn => ?_⟩
          rcases List.mem_append.mp hn with z | z
          · exact hok n z
          · rw [List.mem_singleton.mp z]; omega
    · obtain ⟨s2, s3, s4, rfl, f2, f3, f4, hok⟩ := hE
      have := k true fun _ => hok
      clear k
      walk_at "pz"
theorem bears_itself_ok (p : POk m need o) {r : List Nat} (ha : Asc r) (hr : ∀ x ∈ r, x < m) (k : ∀ b : Bool, R (.bl b) [.val (prD m need o), .val (natT r)]) :
    x_bears_itself [.val (prD m need o), .val (natT r)] R := by
  have hm := p.m24
  have hrl := nodup_len (sorted_nodup ha) hr
  unfold x_bears_itself xb_bears_itself
  walk_at "pz"
  refine check_promises_ok p ?_
  walk_at "pz"
  refine sortset_nat (by omega) fun zs hz hmz => ?_
  have ez : zs = r := sorted_eq hz ha hmz
  subst ez
  walk_at "pz"
  refine eq_natl (fun x hx => by have := hr x hx; omega) ?_
  walk_at "pz"
  refine lc_map (fun _ => .bl true) (fun i hi kk hkk => ?_) (by simp; omega) ?_
  · have h6 : (0 : Int) ≤ (i : Int) := by omega
    have h7 : (i : Int) < (m : Int) := by have := hr i hi; omega
    walk_at "pz"
    exact hkk _ ⟨rfl, fun _ h => h⟩
  · rw [List.nil_append]
    walk_at "pz"
    refine for_pre (e := fun x => D.int ((x : Nat) : Int)) (fun pre E => ∃ (s2 s3 s4 : Sl), E = [.val (prD m need o), .val (natT zs), s2, s3, s4, .un] ∧ fre s2 ∧ fre s3 ∧ fre s4)
      ⟨_, _, _, rfl, fre_un, fre_un, fre_un⟩ (fun pre a post hL E hE nx hnx => ?_) (fun E hE => ?_)
    · obtain ⟨s2, s3, s4, rfl, f2, f3, f4⟩ := hE
      have ham : a < m := hr a (by rw [hL]; simp)
      have hol := p.len ham
      have kf := k false
      have q1 : (0 : Int) ≤ ((a : Nat) : Int) := by omega
      clear hL k
      walk_at "pz"
      refine lc_fil (fun x => decide (x ∈ zs)) (fun x => D.int ((x : Nat) : Int)) (fun x hx kk kf hk hkf => ?_) (by simp; omega) ?_
      · walk_at "pz"
        by_cases h3 : x ∈ zs
        · walk_at "pz"
          exact hk (by simp [h3]) _ ⟨rfl, fun _ h => h⟩
        · walk_at "pz"
          exact hkf (by simp [h3]) _ ⟨rfl, fun _ h => h⟩
      · rw [List.nil_append]
        by_cases h4 : (((o a).filter fun x => decide (x ∈ zs)).length : Nat) < need a
        · clear hnx
          walk_at "pz"
        · clear kf
          walk_at "pz"
          exact hnx _ ⟨_, _, _, rfl, fre_val, fre_val, fre_val⟩
    · obtain ⟨s2, s3, s4, rfl, f2, f3, f4⟩ := hE
      have := k true
      clear k
      walk_at "pz"
/-- all rows of numbers, in order -/
def subR (m : Nat) : List (List Nat) := ((List.range (2 ^ m)).map (bitRow m)).mergeSort leN
theorem subR_sorted {m : Nat} : (subR m).Pairwise fun a b => leN a b = true := PySem.W.sort_pairwise (le := leN) ⟨fun _ _ _ h1 h2 => leN_trans h1 h2, leN_total⟩ _
theorem subR_mem {m : Nat} {r : List Nat} : r ∈ subR m ↔ Asc r ∧ ∀ x ∈ r, x < m := by
  unfold subR
  rw [(List.mergeSort_perm _ _).mem_iff, List.mem_map]
  constructor
  · rintro ⟨n, _, rfl⟩
    exact ⟨bitRow_asc, fun x hx => bitRow_lt hx⟩
  · rintro ⟨h1, h2⟩
    obtain ⟨n, h3, h4⟩ := bitRow_all h1 h2
    exact ⟨n, List.mem_range.mpr h3, h4⟩
theorem subR_len {m : Nat} (hm : m ≤ 9) : (subR m).length ≤ 512 := by
  unfold subR
  rw [List.length_mergeSort, List.length_map, List.length_range]
  have := Nat.pow_le_pow_right (n := 2) (by decide) hm
  simpa using this
theorem asc_len {r : List Nat} (h : Asc r) (hl : ∀ x ∈ r, x < m) : r.length ≤ m := nodup_len (sorted_nodup h) hl
theorem least_stuck_ok (P : P1 m need o) {q : Nat} (hq : q < m) (hno : ∀ r, Asc r → (∀ x ∈ r, x < m) → q ∈ r → ¬ ∀ n ∈ r, (((o n).filter fun x => decide (x ∉ r)).length : Nat) < need n)
    (k : R (.lst []) [.val (prD m need o), .val (.int (q : Nat))]) : x_least_stuck [.val (prD m need o), .val (.int (q : Nat))] R := by
  have hm := P.m7
  have hsl := subR_len (m := m) (by omega)
  unfold x_least_stuck xb_least_stuck
  walk_at "pz"
  refine check_few_ok P.p P.m7 hq ?_
  walk_at "pz"
  refine subsets_ok (by omega) ?_
  rw [show ((List.range (2 ^ m)).map (bitRow m)).mergeSort leN = subR m from rfl]
  walk_at "pz"
  refine lc_fil (e := natT) (fun _ => false) natT (fun r hr kk kf hk hkf => ?_) (by simp; omega) ?_
  · obtain ⟨h1, h2⟩ := subR_mem.mp hr
    have hkf := hkf rfl
    clear hk
    walk_at "pz"
    by_cases h3 : q ∈ r
    · walk_at "pz"
      refine is_stuck_ok P.p h1 h2 fun b hb => ?_
      cases b with
      | true => exact absurd (hb rfl) (hno r h1 h2 h3)
      | false =>
        walk_at "pz"
        exact hkf _ ⟨rfl, fun _ h => h⟩
    · walk_at "pz"
      exact hkf _ ⟨rfl, fun _ h => h⟩
  · rw [List.nil_append, List.filter_eq_nil_iff.mpr (by simp)]
    walk_at "pz"
    refine least_of_ok (rows := []) (by simp) (by simp) ?_
    exact k
/-- a way that keeps away from some -/
def Bk (need : Nat → Int) (o : Nat → List Nat) (q : Nat) (r : List Nat) : Prop := ∃ w x, Wy need o q w x ∧ need x = 0 ∧ ∀ y ∈ w, y ∉ r
/-- a way to some, or to one that needs nothing -/
def Mk (need : Nat → Int) (o : Nat → List Nat) (q : Nat) (r : List Nat) : Prop := ∃ w x, Wy need o q w x ∧ (x ∈ r ∨ need x = 0)
theorem rf_bk (P : P1 m need o) {q : Nat} (hq : q < m) {r l : List Nat} {F : Nat → Nat} (h : RF m need o r [] l F) : q ∈ l ↔ Bk need o q r := by
  constructor
  · intro hl
    obtain ⟨w, x, hw, hx, hall, _⟩ := up h P.one (F q) q (Nat.le_refl _) hl
    exact ⟨w, x, hw, hx.resolve_left (by simp), fun y hy => ((hall y hy).2.2).resolve_right (by simp)⟩
  · rintro ⟨w, x, hw, hx, hall⟩
    have hxm := hw.lt P.p.lt hq x hw.last_mem
    have hxl := (rf_base h hxm (hall x hw.last_mem) hx).1
    exact (down h P.p.lt (fun k hk => by rcases P.one k hk with z | z <;> omega) hq hw hxl hall).1
theorem rf_mk (P : P1 m need o) {q : Nat} (hq : q < m) {r l : List Nat} {F : Nat → Nat} (h : RF m need o [] r l F) : q ∈ l ↔ Mk need o q r := by
  constructor
  · intro hl
    obtain ⟨w, x, hw, hx, hall, _⟩ := up h P.one (F q) q (Nat.le_refl _) hl
    exact ⟨w, x, hw, hx⟩
  · rintro ⟨w, x, hw, hx⟩
    have hxm := hw.lt P.p.lt hq x hw.last_mem
    have hxl : x ∈ l := by
      rcases hx with z | z
      · exact (h.mad x z).1
      · exact (rf_base h hxm (by simp) z).1
    exact (down h P.p.lt (fun k hk => by rcases P.one k hk with z | z <;> omega) hq hw hxl (by simp)).1
theorem least_breakers_ok (P : P1 m need o) {q : Nat} (hq : q < m) (k : ∀ L : List (List Nat), L.Pairwise (fun a b => leN a b = true) → (∀ r, r ∈ L ↔ (Asc r ∧ ∀ x ∈ r, x < m) ∧ q ∉ r ∧ ¬ Bk need o q r) → L.length ≤ 512 → R (.lst ((lea L).map natT)) [.val (prD m need o), .val (.int (q : Nat))]) :
    x_least_breakers [.val (prD m need o), .val (.int (q : Nat))] R := by
  have hm := P.m7
  have hsl := subR_len (m := m) (by omega)
  unfold x_least_breakers xb_least_breakers
  walk_at "pz"
  refine check_few_ok P.p P.m7 hq ?_
  walk_at "pz"
  refine subsets_ok (by omega) ?_
  rw [show ((List.range (2 ^ m)).map (bitRow m)).mergeSort leN = subR m from rfl]
  walk_at "pz"
  refine lc_fil (e := natT) (fun r => decide (q ∉ r)) natT (fun r hr kk kf hk hkf => ?_) (by simp; omega) ?_
  · walk_at "pz"
    by_cases h3 : q ∈ r
    · walk_at "pz"
      exact hkf (by simp [h3]) _ ⟨rfl, fun _ h => h⟩
    · walk_at "pz"
      exact hk (by simp [h3]) _ ⟨rfl, fun _ h => h⟩
  · rw [List.nil_append]
    have hR : ∀ r, r ∈ (subR m).filter (fun r => decide (q ∉ r)) → (Asc r ∧ ∀ x ∈ r, x < m) ∧ q ∉ r := fun r hr => by
      obtain ⟨h1, h2⟩ := List.mem_filter.mp hr
      exact ⟨subR_mem.mp h1, of_decide_eq_true h2⟩
    have hl2 := List.length_filter_le (fun r => decide (q ∉ r)) (subR m)
    have k := k (((subR m).filter (fun r => decide (q ∉ r))).filter fun r => tell (¬ Bk need o q r)) ((subR_sorted.filter _).filter _) (fun r => by
      rw [List.mem_filter, List.mem_filter, tell_iff, subR_mem, decide_eq_true_iff]; exact and_assoc) (by have := List.length_filter_le (fun r => tell (¬ Bk need o q r)) ((subR m).filter (fun r => decide (q ∉ r))); omega)
    generalize (subR m).filter (fun r => decide (q ∉ r)) = rows at *
    walk_at "pz"
    refine lc_fil (e := natT) (fun r => tell (¬ Bk need o q r)) natT (fun r hr kk kf hk hkf => ?_) (by simp; omega) ?_
    · obtain ⟨⟨h1, h2⟩, h3⟩ := hR r hr
      walk_at "pz"
      refine rounds_of_ok P.p (md := []) (by simp) (by simp) fun l F h => ?_
      have hiff := rf_bk P hq h
      walk_at "pz"
      by_cases h4 : q ∈ l
      · have := hkf (tell_f (by simpa using hiff.mp h4))
        clear hk hkf hiff
        walk_at "pz"
        exact this _ ⟨rfl, fun _ h => h⟩
      · have := hk (tell_t fun z => h4 (hiff.mpr z))
        clear hk hkf hiff
        walk_at "pz"
        exact this _ ⟨rfl, fun _ h => h⟩
    · rw [List.nil_append]
      have hr2 : ∀ r ∈ rows.filter (fun r => tell (¬ Bk need o q r)), r.length ≤ 100 := fun r hr => by
        obtain ⟨⟨h1, h2⟩, _⟩ := hR r (List.mem_filter.mp hr).1
        have := asc_len h1 h2; omega
      have hl3 := List.length_filter_le (fun r => tell (¬ Bk need o q r)) rows
      generalize rows.filter (fun r => tell (¬ Bk need o q r)) = L at *
      walk_at "pz"
      refine least_of_ok (by omega) hr2 ?_
      walk_at "pz"
theorem least_makers_ok (P : P1 m need o) {q : Nat} (hq : q < m) (k : ∀ L : List (List Nat), L.Pairwise (fun a b => leN a b = true) → (∀ r, r ∈ L ↔ (Asc r ∧ ∀ x ∈ r, x < m) ∧ q ∉ r ∧ Mk need o q r) → L.length ≤ 512 → R (.lst ((lea L).map natT)) [.val (prD m need o), .val (.int (q : Nat))]) :
    x_least_makers [.val (prD m need o), .val (.int (q : Nat))] R := by
  have hm := P.m7
  have hsl := subR_len (m := m) (by omega)
  unfold x_least_makers xb_least_makers
  walk_at "pz"
  refine check_few_ok P.p P.m7 hq ?_
  walk_at "pz"
  refine subsets_ok (by omega) ?_
  rw [show ((List.range (2 ^ m)).map (bitRow m)).mergeSort leN = subR m from rfl]
  walk_at "pz"
  refine lc_fil (e := natT) (fun r => decide (q ∉ r)) natT (fun r hr kk kf hk hkf => ?_) (by simp; omega) ?_
  · walk_at "pz"
    by_cases h3 : q ∈ r
    · walk_at "pz"
      exact hkf (by simp [h3]) _ ⟨rfl, fun _ h => h⟩
    · walk_at "pz"
      exact hk (by simp [h3]) _ ⟨rfl, fun _ h => h⟩
  · rw [List.nil_append]
    have hR : ∀ r, r ∈ (subR m).filter (fun r => decide (q ∉ r)) → (Asc r ∧ ∀ x ∈ r, x < m) ∧ q ∉ r := fun r hr => by
      obtain ⟨h1, h2⟩ := List.mem_filter.mp hr
      exact ⟨subR_mem.mp h1, of_decide_eq_true h2⟩
    have hl2 := List.length_filter_le (fun r => decide (q ∉ r)) (subR m)
    have k := k (((subR m).filter (fun r => decide (q ∉ r))).filter fun r => tell (Mk need o q r)) ((subR_sorted.filter _).filter _) (fun r => by
      rw [List.mem_filter, List.mem_filter, tell_iff, subR_mem, decide_eq_true_iff]; exact and_assoc) (by have := List.length_filter_le (fun r => tell (Mk need o q r)) ((subR m).filter (fun r => decide (q ∉ r))); omega)
    generalize (subR m).filter (fun r => decide (q ∉ r)) = rows at *
    walk_at "pz"
    refine lc_fil (e := natT) (fun r => tell (Mk need o q r)) natT (fun r hr kk kf hk hkf => ?_) (by simp; omega) ?_
    · obtain ⟨⟨h1, h2⟩, h3⟩ := hR r hr
      walk_at "pz"
      refine rounds_of_ok P.p (br := []) (md := r) (sorted_nodup h1) h2 fun l F h => ?_
      have hiff := rf_mk P hq h
      walk_at "pz"
      by_cases h4 : q ∈ l
      · have := hk (tell_t (hiff.mp h4))
        clear hk hkf hiff
        walk_at "pz"
        exact this _ ⟨rfl, fun _ h => h⟩
      · have := hkf (tell_f fun z => h4 (hiff.mpr z))
        clear hk hkf hiff
        walk_at "pz"
        exact this _ ⟨rfl, fun _ h => h⟩
    · rw [List.nil_append]
      have hr2 : ∀ r ∈ rows.filter (fun r => tell (Mk need o q r)), r.length ≤ 100 := fun r hr => by
        obtain ⟨⟨h1, h2⟩, _⟩ := hR r (List.mem_filter.mp hr).1
        have := asc_len h1 h2; omega
      have hl3 := List.length_filter_le (fun r => tell (Mk need o q r)) rows
      generalize rows.filter (fun r => tell (Mk need o q r)) = L at *
      walk_at "pz"
      refine least_of_ok (by omega) hr2 ?_
      walk_at "pz"
/-- a way within some -/
def Kp (need : Nat → Int) (o : Nat → List Nat) (q : Nat) (r : List Nat) : Prop := ∃ w x, Wy need o q w x ∧ need x = 0 ∧ ∀ y ∈ w, y ∈ r
theorem kp_bk (P : P1 m need o) {q : Nat} (hq : q < m) {r : List Nat} : Bk need o q ((List.range m).filter fun x => decide (x ∉ r)) ↔ Kp need o q r := by
  constructor
  · rintro ⟨w, x, hw, hx, hall⟩
    refine ⟨w, x, hw, hx, fun y hy => ?_⟩
    have h1 := hall y hy
    have h2 := hw.lt P.p.lt hq y hy
    by_cases h3 : y ∈ r
    · exact h3
    · exact absurd (List.mem_filter.mpr ⟨List.mem_range.mpr h2, decide_eq_true h3⟩) h1
  · rintro ⟨w, x, hw, hx, hall⟩
    exact ⟨w, x, hw, hx, fun y hy z => of_decide_eq_true (List.mem_filter.mp z).2 (hall y hy)⟩
theorem least_keepers_ok (P : P1 m need o) {q : Nat} (hq : q < m) (k : ∀ L : List (List Nat), L.Pairwise (fun a b => leN a b = true) → (∀ r, r ∈ L ↔ (Asc r ∧ ∀ x ∈ r, x < m) ∧ q ∈ r ∧ Kp need o q r) → L.length ≤ 512 → R (.lst ((lea L).map natT)) [.val (prD m need o), .val (.int (q : Nat))]) :
    x_least_keepers [.val (prD m need o), .val (.int (q : Nat))] R := by
  have hm := P.m7
  have hsm : Sm (m : Int) := sm_nat (by omega)
  have hsl := subR_len (m := m) (by omega)
  unfold x_least_keepers xb_least_keepers
  walk_at "pz"
  refine check_few_ok P.p P.m7 hq ?_
  walk_at "pz"
  refine subsets_ok (by omega) ?_
  rw [show ((List.range (2 ^ m)).map (bitRow m)).mergeSort leN = subR m from rfl]
  have hmem := fun r : List Nat => subR_mem (m := m) (r := r)
  have k := k ((subR m).filter fun r => tell (q ∈ r ∧ Kp need o q r)) (subR_sorted.filter _) (fun r => by rw [List.mem_filter, tell_iff, subR_mem]) (by have := List.length_filter_le (fun r => tell (q ∈ r ∧ Kp need o q r)) (subR m); omega)
  generalize subR m = rows at *
  walk_at "pz"
  refine for_pre (e := natT) (fun pre E => ∃ s3 s4, E = [.val (prD m need o), .val (.int (q : Nat)), .own false (.lst ((pre.filter fun r => tell (q ∈ r ∧ Kp need o q r)).map natT)), s3, s4, .un] ∧ fre s3 ∧ fre s4) ⟨_, _, rfl, fre_un, fre_un⟩ (fun pre r post hL E hE nx hnx => ?_) (fun E hE => ?_)
  · obtain ⟨s3, s4, rfl, f3, f4⟩ := hE
    obtain ⟨h1, h2⟩ := (hmem r).mp (by rw [hL]; simp)
    have hpl : (pre.filter fun r => tell (q ∈ r ∧ Kp need o q r)).length ≤ 512 := by
      have e := congrArg List.length hL
      have := List.length_filter_le (fun r => tell (q ∈ r ∧ Kp need o q r)) pre
      simp at e; omega
    have yes : q ∈ r ∧ Kp need o q r → (pre ++ [r]).filter (fun r => tell (q ∈ r ∧ Kp need o q r)) = pre.filter (fun r => tell (q ∈ r ∧ Kp need o q r)) ++ [r] := fun h => fil_yes (p := fun r => tell (q ∈ r ∧ Kp need o q r)) (tell_t h)
    have no : ¬ (q ∈ r ∧ Kp need o q r) → (pre ++ [r]).filter (fun r => tell (q ∈ r ∧ Kp need o q r)) = pre.filter (fun r => tell (q ∈ r ∧ Kp need o q r)) := fun h => fil_no (p := fun r => tell (q ∈ r ∧ Kp need o q r)) (tell_f h)
    clear hL k hmem
    generalize pre.filter (fun r => tell (q ∈ r ∧ Kp need o q r)) = L at *
    walk_at "pz"
    refine lc_fil (fun x => decide (x ∉ r)) (fun x => D.int ((x : Nat) : Int)) (fun x hx kk kf hk hkf => ?_) (by simp; omega) ?_
    · walk_at "pz"
      by_cases h3 : x ∈ r
      · walk_at "pz"
        exact hkf (by simp [h3]) _ ⟨rfl, fun _ h => h⟩
      · walk_at "pz"
        exact hk (by simp [h3]) _ ⟨rfl, fun _ h => h⟩
    · rw [List.nil_append]
      have hkp := kp_bk P hq (r := r)
      generalize (List.range m).filter (fun x => decide (x ∉ r)) = cr at *
      walk_at "pz"
      by_cases h3 : q ∈ r
      · walk_at "pz"
        refine rounds_of_ok P.p (md := []) (by simp) (by simp) fun l F h => ?_
        have hiff := (rf_bk P hq h).trans hkp
        walk_at "pz"
        by_cases h4 : q ∈ l
        · have e1 := yes ⟨h3, hiff.mp h4⟩
          rw [e1] at hnx
          clear yes no hiff hkp e1
          walk_at "pz"
          have e5 : L.map natT ++ [natT r] = (L ++ [r]).map natT := by rw [List.map_append]; rfl
          rw [e5]
          exact ⟨by omega, hnx _ ⟨_, _, rfl, fre_val, fre_val⟩⟩
        · have e1 := no fun z => h4 (hiff.mpr z.2)
          rw [e1] at hnx
          clear yes no hiff hkp e1
          walk_at "pz"
          exact hnx _ ⟨_, _, rfl, fre_val, fre_val⟩
      · have e1 := no fun z => h3 z.1
        rw [e1] at hnx
        clear yes no hkp e1
        walk_at "pz"
        exact hnx _ ⟨_, _, rfl, fre_val, fre_val⟩
  · obtain ⟨s3, s4, rfl, f3, f4⟩ := hE
    have hr2 : ∀ r ∈ rows.filter (fun r => tell (q ∈ r ∧ Kp need o q r)), r.length ≤ 100 := fun r hr => by
      obtain ⟨h1, h2⟩ := (hmem r).mp (List.mem_filter.mp hr).1
      have := asc_len h1 h2; omega
    have hl3 := List.length_filter_le (fun r => tell (q ∈ r ∧ Kp need o q r)) rows
    generalize rows.filter (fun r => tell (q ∈ r ∧ Kp need o q r)) = L at *
    walk_at "pz"
    refine least_of_ok (by omega) hr2 ?_
    walk_at "pz"
end
end K99
end

section
set_option maxRecDepth 100000
set_option maxHeartbeats 1000000
namespace K99
open PySem L2 Pw GBf
local macro_rules | `(tactic| walk_at "px") => `(tactic| simp (config := { failIfUnchanged := false }) only [Pw.nth_nil, Pw.nth_zero, Pw.nth_succ, Pw.put_zero, Pw.put_succ, Pw.shr_lst, Pw.shr_dK, Pw.shr_dT, Pw.shr_lls, Pw.selS_val, Pw.selS_own, Pw.kS_ap, Pw.kX_ap, Pw.kT_ap, Pw.kRB_ap, Pw.kRD_ap, Pw.kF_ap, Pw.selB_t, Pw.selB_f, Pw.selBl_bl, Pw.selN_un, Pw.selN_val, Pw.selN_own, Pw.noio_sel, Pw.selI_int, Pw.selR_lst, Pw.selR_tup, Pw.selR_ftup, Pw.selR_rng, Pw.selQ_lst, Pw.selQ_tup, Pw.revD_lst, Pw.revD_tup, Pw.selZ_lst, Pw.selZ_tup, Pw.selO_un, Pw.selO_val, Pw.k_now_ap, Pw.nOw_nil, Pw.nOw_cons, Pw.wipeE_nil, Pw.wipeE_cons, Pw.backE_nil, Pw.backE_cons, Pw.toSl_v, Pw.ioS_own, Pw.toSl_rf, Pw.rfs_nil, Pw.rfs_val, Pw.rfs_ref, Pw.argsOf_eq, Pw.argsOf_nil, Pw.argsOf_cons, Pw.selP_own, Pw.isNonD_non, Pw.isNonD_int, Pw.isNonD_str, Pw.isNonD_tup, Pw.isNonD_lst, Pw.isNonD_bl, Pw.selIx_val, Pw.selIx_own, Pw.selLls_own, Pw.selVI_int, Pw.selX_zero, Pw.selX_one, Pw.selX_last, Pw.selL_lst, Pw.selSz_tup, Pw.selSz_lst, Pw.selSz_fro, Pw.selOL_own, Pw.k_xVar1_ap, Pw.k_xVar2_ap, Pw.xVar_ap, Pw.xC_ap, Pw.k_xShr1_ap, Pw.xShr_ap, Pw.k_xOp3_ap, Pw.k_xOp2_ap, Pw.k_xOp1_ap, Pw.xOp_ap, Pw.k_xUn2_ap, Pw.k_xUn1_ap, Pw.xUn_ap, Pw.xNext_ap, Pw.xSeq_ap, Pw.xBreak_ap, Pw.xCont_ap, Pw.k_xDrop1_ap, Pw.xDrop_ap, Pw.xRet_ap, Pw.xRetN_ap, Pw.k_xIfS1_ap, Pw.xIfS_ap, Pw.xNever_ap, Pw.k_xB2_ap, Pw.k_xB1_ap, Pw.xB_ap, Pw.k_xAnd1_ap, Pw.xAnd_ap, Pw.k_xOr1_ap, Pw.xOr_ap, Pw.k_xNot1_ap, Pw.xNot_ap, Pw.k_xIf1_ap, Pw.xIf_ap, Pw.k_xAndV2_ap, Pw.k_xAndV1_ap, Pw.xAndV_ap, Pw.k_xOrV2_ap, Pw.k_xOrV1_ap, Pw.xOrV_ap, Pw.k_xNotV2_ap, Pw.k_xNotV1_ap, Pw.xNotV_ap, Pw.xYes_ap, Pw.xvNil_ap, Pw.k_xvCons2_ap, Pw.k_xvCons1_ap, Pw.xvCons_ap, Pw.k_xTup1_ap, Pw.xTup_ap, Pw.k_xLst1_ap, Pw.xLst_ap, Pw.k_xCB2_ap, Pw.k_xCB1_ap, Pw.xCB_ap, Pw.k_pk_ap, Pw.pk_ap, Pw.k_xOpL3_ap, Pw.k_xOpL2_ap, Pw.k_xOpL1_ap, Pw.xOpL_ap, Pw.k_xOpR3_ap, Pw.k_xOpR2_ap, Pw.k_xOpR1_ap, Pw.xOpR_ap, Pw.k_xCBp2_ap, Pw.k_xCBp1_ap, Pw.xCBp_ap, Pw.xgName_ap, Pw.xgNil_ap, Pw.k_xgCons1_ap, Pw.xgCons_ap, Pw.xgTup_ap, Pw.k_xAsg1_ap, Pw.xAsg_ap, Pw.k_xAsgO1_ap, Pw.xAsgO_ap, Pw.k_xAug2_ap, Pw.xAug_ap, Pw.k_xFor1_ap, Pw.xFor_ap, Pw.xForL_nil, Pw.k_forL_ap, Pw.k_xiAny2_ap, Pw.k_xiAny3_ap, Pw.k_xiAny1_ap, Pw.xiAny_ap, Pw.k_xiRev2_ap, Pw.k_xiRev1_ap, Pw.xiRev_ap, Pw.k_xRevE_lst, Pw.k_xRevE_tup, Pw.xRevE_ap, Pw.k_xiEnum2_ap, Pw.k_xiEnum1_ap, Pw.xiEnum_ap, Pw.k_xiZip3_ap, Pw.k_xiZip2_ap, Pw.k_xiZip1_ap, Pw.xiZip_ap, Pw.k_xiR12_ap, Pw.k_xiR11_ap, Pw.xiR1_ap, Pw.k_xiR24_ap, Pw.k_xiR22_ap, Pw.k_xiR21_ap, Pw.xiR2_ap, Pw.rgD_0, Pw.k_xLc3_ap, Pw.k_xLc2_ap, Pw.k_xLc1_ap, Pw.xLc_ap, Pw.k_xLcF3_ap, Pw.k_xLcF2_ap, Pw.k_xLcF1_ap, Pw.xLcF_ap, Pw.xaNil_ap, Pw.k_xaCons2_ap, Pw.k_xaCons1_ap, Pw.xaCons_ap, Pw.k_xaRef3_ap, Pw.kF1_ap, Pw.k_xaRef2_ap, Pw.k_xaRef1_ap, Pw.xaRef_ap, Pw.putBack_nil, Pw.putBack_val, Pw.k_putBack_ap, Pw.putBack_ref, Pw.k_xCall2_ap, Pw.k_xCall1_ap, Pw.xCall_ap, Pw.k_fnNx_ap, Pw.k_fnRt_ap, Pw.kNo_ap, Pw.fnX_ap, Pw.xI_ap, Pw.xIC_ap, Pw.xNeg_ap, Pw.xIsN_ap, Pw.xNotN_ap, Pw.xAdd_int, Pw.xAdd_str, Pw.xAdd_tup, Pw.xAdd_lst, Pw.xEqC_int, Pw.xEqC_str, Pw.xEqC_bl, Pw.xEqC_non, Pw.xEqC_ni, Pw.xEqC_in, Pw.k_xCh5_ap, Pw.k_xCh4_ap, Pw.k_xCh3_ap, Pw.k_xCh2b_ap, Pw.k_xCh2_ap, Pw.k_xCh1_ap, Pw.xChain_ap, Pw.xIx_lst, Pw.xIx_tup, Pw.k_xIxP2_ap, Pw.k_xIxP1_ap, Pw.xIxP_ap, Pw.k_xIx2V5_ap, Pw.k_xIx2V4_ap, Pw.k_xIx2V3_ap, Pw.k_xIx2V2_ap, Pw.k_xIx2V1_ap, Pw.xIx2V_ap, Pw.k_xSet26_ap, Pw.k_xSet25_ap, Pw.k_xSet24_ap, Pw.k_xSet23_ap, Pw.k_xSet22_ap, Pw.k_xSet21_ap, Pw.xSet2_ap, Pw.k_xSetRow5_ap, Pw.k_xSetRow4_ap, Pw.k_xSetRow3_ap, Pw.k_xSetRow2_ap, Pw.k_xSetRow1_ap, Pw.xSetRow_ap, Pw.xNoPart_ap, Pw.k_xPart2_ap, Pw.k_xPart1_ap, Pw.xPart_ap, Pw.k_xSl4_ap, Pw.k_xSl3_ap, Pw.k_xSl2_ap, Pw.k_xSl1_ap, Pw.xSl_ap, Pw.xLen_lst, Pw.xLen_tup, Pw.xLen_dK, Pw.xLen_str, Pw.xTupleOf_lst, Pw.xTupleOf_tup, Pw.xListOf_lst, Pw.xListOf_tup, Pw.xAbs_ap, Pw.xInt1_int, Pw.xInt1_bl, Pw.xMax2_ap, Pw.xMin2_ap, Pw.xAll_map, Pw.xAny_map, Pw.xSum_map, Pw.xSum_mapT, Pw.k_xAppend3_ap, Pw.k_xAppend2_ap, Pw.k_xAppend1_ap, Pw.xAppend_ap, Pw.k_xExtend4_ap, Pw.k_xExtend3_ap, Pw.k_xExtend2_ap, Pw.k_xExtend1_ap, Pw.xExtend_ap, Pw.k_xRev1_ap, Pw.xRev_ap, Pw.k_xSetIx6_ap, Pw.k_xSetIx5_ap, Pw.k_xSetIx4_ap, Pw.k_xSetIx3_ap, Pw.k_xSetIx2_ap, Pw.k_xSetIx1_ap, Pw.xSetIx_ap, Pw.kTr_ap, Pw.k_isL_ap, Pw.k_xIndexP3_ap, Pw.k_xIndexP2_ap, Pw.k_xIndexP1_ap, Pw.xIndexP_ap, Pw.xRange1_ap, Pw.getD_zero, Pw.getD_one, Pw.getD_two, Pw.getD_last, Pw.k_st_ap, Pw.k_xe_ap, Pw.kU_ap, Pw.k_lcB_ap, Pw.k_lcT_ap, Pw.k_xeF_lst, Pw.k_xf_ap, Pw.enum_rng0, Pw.zip_map, Pw.rev_rng, Pw.fre_un, Pw.fre_val, Pw.map_mp, Pw.all_tt, Pw.cut_mp, Pw.selDk_val, Pw.selDk_own, Pw.selODk_own, Pw.selK_int, Pw.selK_str, Pw.selSm_some, Pw.kTr2_ap, Pw.kTr3_ap, Pw.k_xDIn3_ap, Pw.k_xDIn2_ap, Pw.k_xDIn1_ap, Pw.xDIn_ap, Pw.k_xDGet4_ap, Pw.k_xDGet3_ap, Pw.k_xDGet2_ap, Pw.k_xDGet1_ap, Pw.xDGet_ap, Pw.k_xDGet13_ap, Pw.k_xDGet12_ap, Pw.k_xDGet11_ap, Pw.xDGet1_ap, Pw.k_xDGet24_ap, Pw.k_xDGet23_ap, Pw.k_xDGet22_ap, Pw.k_xDGet21_ap, Pw.xDGet2_ap, Pw.xDNew_ap, Pw.k_xDPut5_ap, Pw.k_xDPut4_ap, Pw.k_xDPut3_ap, Pw.k_xDPut2_ap, Pw.k_xDPut1_ap, Pw.xDPut_ap, Pw.k_xDisp13_ap, Pw.k_xDisp12_ap, Pw.k_xDisp11_ap, Pw.xDisp1_ap, Pw.selD2_ap, Pw.k_xDUpd3_ap, Pw.k_xDUpd2_ap, Pw.k_xDUpd1_ap, Pw.xDUpd_ap, Pw.k_xDc3_ap, Pw.k_xDc2_ap, Pw.k_xDc1_ap, Pw.xDc_ap, Pw.k_dcK2_ap, Pw.k_dcK_ap, Pw.k_dc_ap, Pw.lk_in, Pw.lk_get1, Pw.ptK_nat, Pw.ptV_nat, Pw.xSortSet_ap, Pw.k_xListR2_ap, Pw.k_xListR1_ap, Pw.xListR_ap, Pw.k_xRep3_ap, Pw.k_xRep2_ap, Pw.k_xRep1_ap, Pw.xRep_ap, Pw.xTupleF_lst, Pw.k_isF_ap, Pw.k_xTI2_ap, Pw.k_xTI1_ap, Pw.k_xTI_ap, Pw.xTIndexP_ap, Pw.k_whN_ap, Pw.k_whB_ap, Pw.xInC_lstN, Pw.xInC_tupN, Pw.xInC_nilT, Pw.k_xPopAt6_ap, Pw.k_xPopAt5_ap, Pw.k_xPopAt4_ap, Pw.k_xPopAt3_ap, Pw.k_xPopAt2_ap, Pw.k_xPopAt1_ap, Pw.xPopAt_ap, Pw.k_xTru2_ap, Pw.k_xTru1_ap, Pw.xTru_ap, Pw.k_xPop2_ap, Pw.k_xPop1_ap, Pw.xPop_ap, Pw.k_xDInE4_ap, Pw.k_xDInE3_ap, Pw.k_xDInE2_ap, Pw.k_xDInE1_ap, Pw.xDInE_ap, Pw.k_xRevB2_ap, Pw.k_xRevB1_ap, Pw.xRevB_ap, Pw.xSortA_ap, Pw.k_xLcO2_ap, Pw.k_xLcO1_ap, Pw.xLcO_ap, List.length_cons, List.length_nil, List.length_map, List.length_range, List.length_append, List.length_reverse, List.length_set, List.cons_append, List.nil_append, List.append_nil, List.reduceReplicate, List.take_succ_cons, List.take_zero, List.map_cons, List.map_nil, Nat.reduceSub, Nat.reduceAdd, Nat.reduceLT, Nat.reduceLeDiff, Nat.reduceEqDiff, Int.reduceAdd, Int.reduceSub, Int.reduceMul, Int.reduceNeg, Int.reduceToNat, Int.reduceLT, Int.reduceLE, Int.reduceEq, Int.reducePow, Int.toNat_natCast, List.nodup_cons, List.nodup_nil, List.not_mem_nil, List.set_cons_zero, List.set_cons_succ, List.reverse_cons, List.reverse_nil, Nat.zero_add, Int.sub_zero, Int.zero_add, ne_eq, reduceCtorEq, not_false_eq_true, not_true_eq_false, true_and, and_true, and_self, decide_true, decide_false, Bool.not_true, Bool.not_false, Bool.false_xor, Bool.true_xor, Bool.xor_false, Bool.xor_true, decide_eq_true_eq, eq_self, Nat.le_refl, Nat.zero_le, if_true, if_false, ite_true, ite_false, Bool.false_eq_true, reduceIte, reduceDIte, Int.lt_irrefl, Int.le_refl, ge_iff_le, gt_iff_lt])
local macro_rules | `(tactic| walk_at "pz") => `(tactic| simp (config := { failIfUnchanged := false }) only [Pw.nth_nil, Pw.nth_zero, Pw.nth_succ, Pw.put_zero, Pw.put_succ, Pw.shr_lst, Pw.shr_dK, Pw.shr_dT, Pw.shr_lls, Pw.selS_val, Pw.selS_own, Pw.kS_ap, Pw.kX_ap, Pw.kT_ap, Pw.kRB_ap, Pw.kRD_ap, Pw.kF_ap, Pw.selB_t, Pw.selB_f, Pw.selBl_bl, Pw.selN_un, Pw.selN_val, Pw.selN_own, Pw.noio_sel, Pw.selI_int, Pw.selR_lst, Pw.selR_tup, Pw.selR_ftup, Pw.selR_rng, Pw.selQ_lst, Pw.selQ_tup, Pw.revD_lst, Pw.revD_tup, Pw.selZ_lst, Pw.selZ_tup, Pw.selO_un, Pw.selO_val, Pw.k_now_ap, Pw.nOw_nil, Pw.nOw_cons, Pw.wipeE_nil, Pw.wipeE_cons, Pw.backE_nil, Pw.backE_cons, Pw.toSl_v, Pw.ioS_own, Pw.toSl_rf, Pw.rfs_nil, Pw.rfs_val, Pw.rfs_ref, Pw.argsOf_eq, Pw.argsOf_nil, Pw.argsOf_cons, Pw.selP_own, Pw.isNonD_non, Pw.isNonD_int, Pw.isNonD_str, Pw.isNonD_tup, Pw.isNonD_lst, Pw.isNonD_bl, Pw.selIx_val, Pw.selIx_own, Pw.selLls_own, Pw.selVI_int, Pw.selX_zero, Pw.selX_one, Pw.selX_last, Pw.selL_lst, Pw.selSz_tup, Pw.selSz_lst, Pw.selSz_fro, Pw.selOL_own, Pw.k_xVar1_ap, Pw.k_xVar2_ap, Pw.xVar_ap, Pw.xC_ap, Pw.k_xShr1_ap, Pw.xShr_ap, Pw.k_xOp3_ap, Pw.k_xOp2_ap, Pw.k_xOp1_ap, Pw.xOp_ap, Pw.k_xUn2_ap, Pw.k_xUn1_ap, Pw.xUn_ap, Pw.xNext_ap, Pw.xSeq_ap, Pw.xBreak_ap, Pw.xCont_ap, Pw.k_xDrop1_ap, Pw.xDrop_ap, Pw.xRet_ap, Pw.xRetN_ap, Pw.k_xIfS1_ap, Pw.xIfS_ap, Pw.xNever_ap, Pw.k_xB2_ap, Pw.k_xB1_ap, Pw.xB_ap, Pw.k_xAnd1_ap, Pw.xAnd_ap, Pw.k_xOr1_ap, Pw.xOr_ap, Pw.k_xNot1_ap, Pw.xNot_ap, Pw.k_xIf1_ap, Pw.xIf_ap, Pw.k_xAndV2_ap, Pw.k_xAndV1_ap, Pw.xAndV_ap, Pw.k_xOrV2_ap, Pw.k_xOrV1_ap, Pw.xOrV_ap, Pw.k_xNotV2_ap, Pw.k_xNotV1_ap, Pw.xNotV_ap, Pw.xYes_ap, Pw.xvNil_ap, Pw.k_xvCons2_ap, Pw.k_xvCons1_ap, Pw.xvCons_ap, Pw.k_xTup1_ap, Pw.xTup_ap, Pw.k_xLst1_ap, Pw.xLst_ap, Pw.k_xCB2_ap, Pw.k_xCB1_ap, Pw.xCB_ap, Pw.k_pk_ap, Pw.pk_ap, Pw.k_xOpL3_ap, Pw.k_xOpL2_ap, Pw.k_xOpL1_ap, Pw.xOpL_ap, Pw.k_xOpR3_ap, Pw.k_xOpR2_ap, Pw.k_xOpR1_ap, Pw.xOpR_ap, Pw.k_xCBp2_ap, Pw.k_xCBp1_ap, Pw.xCBp_ap, Pw.xgName_ap, Pw.xgNil_ap, Pw.k_xgCons1_ap, Pw.xgCons_ap, Pw.xgTup_ap, Pw.k_xAsg1_ap, Pw.xAsg_ap, Pw.k_xAsgO1_ap, Pw.xAsgO_ap, Pw.k_xAug2_ap, Pw.xAug_ap, Pw.k_xFor1_ap, Pw.xFor_ap, Pw.xForL_nil, Pw.k_forL_ap, Pw.k_xiAny2_ap, Pw.k_xiAny3_ap, Pw.k_xiAny1_ap, Pw.xiAny_ap, Pw.k_xiRev2_ap, Pw.k_xiRev1_ap, Pw.xiRev_ap, Pw.k_xRevE_lst, Pw.k_xRevE_tup, Pw.xRevE_ap, Pw.k_xiEnum2_ap, Pw.k_xiEnum1_ap, Pw.xiEnum_ap, Pw.k_xiZip3_ap, Pw.k_xiZip2_ap, Pw.k_xiZip1_ap, Pw.xiZip_ap, Pw.k_xiR12_ap, Pw.k_xiR11_ap, Pw.xiR1_ap, Pw.k_xiR24_ap, Pw.k_xiR22_ap, Pw.k_xiR21_ap, Pw.xiR2_ap, Pw.rgD_0, Pw.k_xLc3_ap, Pw.k_xLc2_ap, Pw.k_xLc1_ap, Pw.xLc_ap, Pw.k_xLcF3_ap, Pw.k_xLcF2_ap, Pw.k_xLcF1_ap, Pw.xLcF_ap, Pw.xaNil_ap, Pw.k_xaCons2_ap, Pw.k_xaCons1_ap, Pw.xaCons_ap, Pw.k_xaRef3_ap, Pw.kF1_ap, Pw.k_xaRef2_ap, Pw.k_xaRef1_ap, Pw.xaRef_ap, Pw.putBack_nil, Pw.putBack_val, Pw.k_putBack_ap, Pw.putBack_ref, Pw.k_xCall2_ap, Pw.k_xCall1_ap, Pw.xCall_ap, Pw.k_fnNx_ap, Pw.k_fnRt_ap, Pw.kNo_ap, Pw.fnX_ap, Pw.xI_ap, Pw.xIC_ap, Pw.xNeg_ap, Pw.xIsN_ap, Pw.xNotN_ap, Pw.xAdd_int, Pw.xAdd_str, Pw.xAdd_tup, Pw.xAdd_lst, Pw.xEqC_int, Pw.xEqC_str, Pw.xEqC_bl, Pw.xEqC_non, Pw.xEqC_ni, Pw.xEqC_in, Pw.k_xCh5_ap, Pw.k_xCh4_ap, Pw.k_xCh3_ap, Pw.k_xCh2b_ap, Pw.k_xCh2_ap, Pw.k_xCh1_ap, Pw.xChain_ap, Pw.xIx_lst, Pw.xIx_tup, Pw.k_xIxP2_ap, Pw.k_xIxP1_ap, Pw.xIxP_ap, Pw.k_xIx2V5_ap, Pw.k_xIx2V4_ap, Pw.k_xIx2V3_ap, Pw.k_xIx2V2_ap, Pw.k_xIx2V1_ap, Pw.xIx2V_ap, Pw.k_xSet26_ap, Pw.k_xSet25_ap, Pw.k_xSet24_ap, Pw.k_xSet23_ap, Pw.k_xSet22_ap, Pw.k_xSet21_ap, Pw.xSet2_ap, Pw.k_xSetRow5_ap, Pw.k_xSetRow4_ap, Pw.k_xSetRow3_ap, Pw.k_xSetRow2_ap, Pw.k_xSetRow1_ap, Pw.xSetRow_ap, Pw.xNoPart_ap, Pw.k_xPart2_ap, Pw.k_xPart1_ap, Pw.xPart_ap, Pw.k_xSl4_ap, Pw.k_xSl3_ap, Pw.k_xSl2_ap, Pw.k_xSl1_ap, Pw.xSl_ap, Pw.xLen_lst, Pw.xLen_tup, Pw.xLen_dK, Pw.xLen_str, Pw.xTupleOf_lst, Pw.xTupleOf_tup, Pw.xListOf_lst, Pw.xListOf_tup, Pw.xAbs_ap, Pw.xInt1_int, Pw.xInt1_bl, Pw.xMax2_ap, Pw.xMin2_ap, Pw.xAll_map, Pw.xAny_map, Pw.xSum_map, Pw.xSum_mapT, Pw.k_xAppend3_ap, Pw.k_xAppend2_ap, Pw.k_xAppend1_ap, Pw.xAppend_ap, Pw.k_xExtend4_ap, Pw.k_xExtend3_ap, Pw.k_xExtend2_ap, Pw.k_xExtend1_ap, Pw.xExtend_ap, Pw.k_xRev1_ap, Pw.xRev_ap, Pw.k_xSetIx6_ap, Pw.k_xSetIx5_ap, Pw.k_xSetIx4_ap, Pw.k_xSetIx3_ap, Pw.k_xSetIx2_ap, Pw.k_xSetIx1_ap, Pw.xSetIx_ap, Pw.kTr_ap, Pw.k_isL_ap, Pw.k_xIndexP3_ap, Pw.k_xIndexP2_ap, Pw.k_xIndexP1_ap, Pw.xIndexP_ap, Pw.xRange1_ap, Pw.getD_zero, Pw.getD_one, Pw.getD_two, Pw.getD_last, Pw.k_st_ap, Pw.k_xe_ap, Pw.kU_ap, Pw.k_lcB_ap, Pw.k_lcT_ap, Pw.k_xeF_lst, Pw.k_xf_ap, Pw.enum_rng0, Pw.zip_map, Pw.rev_rng, Pw.fre_un, Pw.fre_val, Pw.map_mp, Pw.all_tt, Pw.cut_mp, Pw.selDk_val, Pw.selDk_own, Pw.selODk_own, Pw.selK_int, Pw.selK_str, Pw.selSm_some, Pw.kTr2_ap, Pw.kTr3_ap, Pw.k_xDIn3_ap, Pw.k_xDIn2_ap, Pw.k_xDIn1_ap, Pw.xDIn_ap, Pw.k_xDGet4_ap, Pw.k_xDGet3_ap, Pw.k_xDGet2_ap, Pw.k_xDGet1_ap, Pw.xDGet_ap, Pw.k_xDGet13_ap, Pw.k_xDGet12_ap, Pw.k_xDGet11_ap, Pw.xDGet1_ap, Pw.k_xDGet24_ap, Pw.k_xDGet23_ap, Pw.k_xDGet22_ap, Pw.k_xDGet21_ap, Pw.xDGet2_ap, Pw.xDNew_ap, Pw.k_xDPut5_ap, Pw.k_xDPut4_ap, Pw.k_xDPut3_ap, Pw.k_xDPut2_ap, Pw.k_xDPut1_ap, Pw.xDPut_ap, Pw.k_xDisp13_ap, Pw.k_xDisp12_ap, Pw.k_xDisp11_ap, Pw.xDisp1_ap, Pw.selD2_ap, Pw.k_xDUpd3_ap, Pw.k_xDUpd2_ap, Pw.k_xDUpd1_ap, Pw.xDUpd_ap, Pw.k_xDc3_ap, Pw.k_xDc2_ap, Pw.k_xDc1_ap, Pw.xDc_ap, Pw.k_dcK2_ap, Pw.k_dcK_ap, Pw.k_dc_ap, Pw.lk_in, Pw.lk_get1, Pw.ptK_nat, Pw.ptV_nat, Pw.xSortSet_ap, Pw.k_xListR2_ap, Pw.k_xListR1_ap, Pw.xListR_ap, Pw.k_xRep3_ap, Pw.k_xRep2_ap, Pw.k_xRep1_ap, Pw.xRep_ap, Pw.xTupleF_lst, Pw.k_isF_ap, Pw.k_xTI2_ap, Pw.k_xTI1_ap, Pw.k_xTI_ap, Pw.xTIndexP_ap, Pw.k_whN_ap, Pw.k_whB_ap, Pw.xInC_lstN, Pw.xInC_tupN, Pw.xInC_nilT, Pw.k_xPopAt6_ap, Pw.k_xPopAt5_ap, Pw.k_xPopAt4_ap, Pw.k_xPopAt3_ap, Pw.k_xPopAt2_ap, Pw.k_xPopAt1_ap, Pw.xPopAt_ap, Pw.k_xTru2_ap, Pw.k_xTru1_ap, Pw.xTru_ap, Pw.k_xPop2_ap, Pw.k_xPop1_ap, Pw.xPop_ap, Pw.k_xDInE4_ap, Pw.k_xDInE3_ap, Pw.k_xDInE2_ap, Pw.k_xDInE1_ap, Pw.xDInE_ap, Pw.k_xRevB2_ap, Pw.k_xRevB1_ap, Pw.xRevB_ap, Pw.xSortA_ap, Pw.k_xLcO2_ap, Pw.k_xLcO1_ap, Pw.xLcO_ap, List.length_cons, List.length_nil, List.length_map, List.length_range, List.length_append, List.length_reverse, List.length_set, List.cons_append, List.nil_append, List.append_nil, List.reduceReplicate, List.take_succ_cons, List.take_zero, List.map_cons, List.map_nil, Nat.reduceSub, Nat.reduceAdd, Nat.reduceLT, Nat.reduceLeDiff, Nat.reduceEqDiff, Int.reduceAdd, Int.reduceSub, Int.reduceMul, Int.reduceNeg, Int.reduceToNat, Int.reduceLT, Int.reduceLE, Int.reduceEq, Int.reducePow, Int.toNat_natCast, List.nodup_cons, List.nodup_nil, List.not_mem_nil, List.set_cons_zero, List.set_cons_succ, List.reverse_cons, List.reverse_nil, Nat.zero_add, Int.sub_zero, Int.zero_add, ne_eq, reduceCtorEq, not_false_eq_true, not_true_eq_false, true_and, and_true, and_self, decide_true, decide_false, Bool.not_true, Bool.not_false, Bool.false_xor, Bool.true_xor, Bool.xor_false, Bool.xor_true, decide_eq_true_eq, eq_self, Nat.le_refl, Nat.zero_le, if_true, if_false, ite_true, ite_false, Bool.false_eq_true, reduceIte, reduceDIte, Int.lt_irrefl, Int.le_refl, ge_iff_le, gt_iff_lt, Pw.rng_snoc, Pw.selN_fre, Pw.selO_fre, Pw.getD_rng, Pw.selX_nat, Pw.rowD_rng, Pw.getD_rng0, Pw.xMin_map, Pw.xMin_mapT, Pw.xMax_map, Pw.xMax_mapT, Pw.sm_nat, Pw.lk_get, Pw.selN_nio, *])
def xb_last : XS := xSeq (xAsg (xCB xTupleOf (xvCons (xShr (xLc (xiAny (xCall 1 x_stuck (xaCons (xVar 3) (xaNil)))) (xgName 7) (xB (xOp (xGt) (xCB xLen (xvCons (xOp xIx (xIxP 3 (xVar 7)) (xC (.int 1))) (xvNil))) (xC (.int 0)))) (xVar 7) [7])) (xvNil))) (xgName 15))
    (xIfS (xAnd (xB (xCall 2 x_bears_itself (xaCons (xVar 3) (xaCons (xVar 15) (xaNil))))) (xB (xCB xAny (xvCons (xShr (xLc (xiAny (xVar 15)) (xgName 7) (xYes) (xOp (xInC false) (xVar 7) (xCall 1 x_kept (xaCons (xVar 3) (xaNil)))) [7])) (xvNil))))) (xRet (xC (.bl false))) (xNext))
def xb_told : XS := xSeq (xAsg (xCall 2 x_order_to (xaCons (xVar 3) (xaCons (xVar 5) (xaNil)))) (xgName 13))
    (xSeq (xIfS (xOr (xB (xOp (xNe) (xIxP 13 (xUn xNeg (xC (.int 1)))) (xVar 5))) (xOr (xB (xOp (xInD true) (xCB xTupleOf (xvCons (xShr (xCBp xSortTI 13)) (xvNil))) (xIxP 6 (xVar 5)))) (xB (xOp (xNe) (xOp xIx (xIxP 3 (xIxP 13 (xC (.int 0)))) (xC (.int 0))) (xC (.int 0)))))) (xRet (xC (.bl false))) (xNext))
    (xSeq (xFor (xiR2 (xC (.int 1)) (xCBp xLen 13)) (xgName 7) (xIfS (xB (xOp (xInC true) (xIxP 13 (xOp xSub (xVar 7) (xC (.int 1)))) (xOp xIx (xIxP 3 (xIxP 13 (xVar 7))) (xC (.int 1))))) (xRet (xC (.bl false))) (xNext)))
    (xIfS (xOr (xB (xOp (xNe) (xCall 2 x_least_makers (xaCons (xVar 3) (xaCons (xVar 5) (xaNil)))) (xShr (xLst (xvCons (xTup (xvNil)) (xvNil)))))) (xB (xOp (xNe) (xCall 2 x_least_stuck (xaCons (xVar 3) (xaCons (xVar 5) (xaNil)))) (xShr (xLst (xvNil)))))) (xRet (xC (.bl false))) (xNext))))
def xb_made : XS := xSeq (xAsg (xCall 2 x_least_makers (xaCons (xVar 3) (xaCons (xVar 5) (xaNil)))) (xgName 14))
    (xIfS (xOr (xNot (xB (xCB xAll (xvCons (xShr (xLc (xiAny (xVar 14)) (xgName 13) (xYes) (xOp (xEq) (xCBp xLen 13) (xC (.int 1))) [13])) (xvNil))))) (xB (xOp (xInC true) (xVar 5) (xCall 1 x_stuck (xaCons (xVar 3) (xaNil)))))) (xRet (xC (.bl false))) (xNext))
def xb_tail : XS := xSeq (xIfS (xB (xOp (xGt) (xCBp xLen 10) (xC (.int 0)))) xb_told xb_made)
    xb_last
section
variable {m : Nat} {nd : Nat → Int} {o : Nat → List Nat} {R : D → List Sl → Prop}
structure Ws (m : Nat) (nd : Nat → Int) (o : Nat → List Nat) (k : Nat) (ws : List (List Nat)) : Prop where
  d : Dfs (need := nd) (o := o) m k ws []
  l : ws.length ≤ 200000
theorem Ws.mem (P : P1 m nd o) {k : Nat} (hk : k < m) {ws : List (List Nat)} (h : Ws m nd o k ws) {r : List Nat} (hr : r ∈ ws) : Asc r ∧ (∀ x ∈ r, x < m) ∧ r.length ≤ 7 ∧ k ∈ r ∧ ∃ w x, Wy nd o k w x ∧ nd x = 0 ∧ r.Perm w := by
  obtain ⟨w, x, hw, hx, ha, hp⟩ := h.d.fnd r hr
  have hl : ∀ x ∈ r, x < m := fun x hx => hw.lt P.p.lt hk x (hp.mem_iff.mp hx)
  have := asc_len ha hl
  have := P.m7
  exact ⟨ha, hl, by omega, hp.mem_iff.mpr hw.head_mem, w, x, hw, hx, hp⟩
theorem Ws.all {k : Nat} {ws : List (List Nat)} (h : Ws m nd o k ws) {w : List Nat} {x : Nat} (hw : Wy nd o k w x) (hx : nd x = 0) : ∃ r ∈ ws, r.Perm w := by
  rcases h.d.all w x hw hx with z | ⟨w', z, _⟩
  · exact z
  · cases z
/-- the least ways -/
abbrev wl (ws : List (List Nat)) : List (List Nat) := lea (ws.mergeSort leN)
theorem srt_pw {ws : List (List Nat)} : (ws.mergeSort leN).Pairwise fun a b => leN a b = true := PySem.W.sort_pairwise (le := leN) ⟨fun _ _ _ h1 h2 => leN_trans h1 h2, leN_total⟩ _
theorem srt_mem {ws : List (List Nat)} {r : List Nat} : r ∈ ws.mergeSort leN ↔ r ∈ ws := (List.mergeSort_perm _ _).mem_iff
theorem wl_in {ws : List (List Nat)} {r : List Nat} (h : r ∈ wl ws) : r ∈ ws := srt_mem.mp (lea_in h)
theorem wl_below (P : P1 m nd o) {k : Nat} (hk : k < m) {ws : List (List Nat)} (h : Ws m nd o k ws) {r : List Nat} (hr : r ∈ ws) : ∃ z ∈ wl ws, Sub z r :=
  lea_below roN srt_pw (fun r hr => (h.mem P hk (srt_mem.mp hr)).1) r (srt_mem.mpr hr)
theorem bk_nil {k : Nat} : Bk nd o k [] ↔ ∃ w x, Wy nd o k w x ∧ nd x = 0 := ⟨fun ⟨w, x, h1, h2, _⟩ => ⟨w, x, h1, h2⟩, fun ⟨w, x, h1, h2⟩ => ⟨w, x, h1, h2, by simp⟩⟩
theorem wl_ne (P : P1 m nd o) {k : Nat} (hk : k < m) {ws : List (List Nat)} (h : Ws m nd o k ws) : 0 < (wl ws).length ↔ Bk nd o k [] := by
  rw [bk_nil]
  constructor
  · intro hl
    obtain ⟨r, hr⟩ := List.exists_mem_of_length_pos hl
    obtain ⟨_, _, _, _, w, x, h1, h2, _⟩ := h.mem P hk (wl_in hr)
    exact ⟨w, x, h1, h2⟩
  · rintro ⟨w, x, h1, h2⟩
    obtain ⟨r, hr, _⟩ := h.all h1 h2
    obtain ⟨z, hz, _⟩ := wl_below P hk h hr
    exact List.length_pos_of_mem hz
theorem nodup_sort {w ys : List Nat} (h : ys.Perm w) : ∀ x, x ∈ ys ↔ x ∈ w := fun _ => h.mem_iff
theorem eq_nil {n : Bool} {R : D → Prop} (k : R (.bl (n ^^ true))) : xEqC n (.lst []) (.lst []) R := eq_rows (rows := []) (by simp) k
theorem last_ok {XD : XEnds} {s0 s1 s2 s7 s8 s9 s11 s12 s13 s14 s15 : Sl} {q : Nat} {wf : Nat → List (List Nat)} (P : P1 m nd o) (hq : q < m) (hws : ∀ k, k < m → Ws m nd o k (wf k)) (f7 : fre s7) (f15 : fre s15)
    (k : ∀ s7 s15, fre s7 → fre s15 → XD.nx [s0, s1, s2, .val (prD m nd o), .val (.int (m : Nat)), .val (.int (q : Nat)), .val (.lst ((List.range m).map fun k => D.lst ((wf k).map natT))), s7, s8, s9, .val (.lst ((wl (wf q)).map natT)), s11, s12, s13, s14, s15]) :
    xb_last XD [s0, s1, s2, .val (prD m nd o), .val (.int (m : Nat)), .val (.int (q : Nat)), .val (.lst ((List.range m).map fun k => D.lst ((wf k).map natT))), s7, s8, s9, .val (.lst ((wl (wf q)).map natT)), s11, s12, s13, s14, s15] := by
  have hm := P.m7
  unfold xb_last
  walk_at "pz"
  refine stuck_ok P.p fun l F h => ?_
  have hno : ∀ k, k < m → k ∉ l → ¬ Bk nd o k [] := fun k hk hkl z => hkl ((rf_bk P hk h).mpr z)
  have hkm : ∀ k ∈ (List.range m).filter (fun k => decide (k ∉ l)), k < m ∧ k ∉ l := fun k hk => by
    obtain ⟨h1, h2⟩ := List.mem_filter.mp hk
    exact ⟨List.mem_range.mp h1, of_decide_eq_true h2⟩
  have hasc : Asc ((List.range m).filter (fun k => decide (k ∉ l))) := fil_sorted
  generalize (List.range m).filter (fun k => decide (k ∉ l)) = SL at *
  have hsl : SL.length ≤ m := asc_len hasc fun x hx => (hkm x hx).1
  walk_at "pz"
  refine lc_fil (fun k => decide (0 < (((o k).length : Nat) : Int))) (fun x => D.int ((x : Nat) : Int)) (fun x hx kk kf hk hkf => ?_) (by simp; omega) ?_
  · obtain ⟨h1, h2⟩ := hkm x hx
    walk_at "pz"
    by_cases h3 : 0 < (((o x).length : Nat) : Int)
    · have := hk (decide_eq_true h3)
      clear hk hkf
      walk_at "pz"
      exact this _ ⟨rfl, fun _ h => h⟩
    · have := hkf (decide_eq_false h3)
      clear hk hkf
      walk_at "pz"
      exact this _ ⟨rfl, fun _ h => h⟩
  · rw [List.nil_append]
    have hkm2 : ∀ k ∈ SL.filter (fun k => decide (0 < (((o k).length : Nat) : Int))), k < m ∧ k ∉ l := fun k hk => hkm k (List.mem_filter.mp hk).1
    have hasc2 : Asc (SL.filter (fun k => decide (0 < (((o k).length : Nat) : Int)))) := hasc.filter _
    generalize SL.filter (fun k => decide (0 < (((o k).length : Nat) : Int))) = NL at *
    have hnl : NL.length ≤ m := asc_len hasc2 fun x hx => (hkm2 x hx).1
    walk_at "pz"
    refine bears_itself_ok P.p hasc2 (fun x hx => (hkm2 x hx).1) fun b => ?_
    cases b with
    | false =>
      walk_at "pz"
    | true =>
      walk_at "pz"
      refine lc_map (fun _ => .bl false) (fun x hx kk hk => ?_) (by simp; omega) ?_
      · obtain ⟨h1, h2⟩ := hkm2 x hx
        walk_at "pz"
        refine kept_ok P.p fun l2 F2 h2 zs hz hzs => ?_
        have hxz : x ∉ zs := fun z => hno x h1 (hkm2 x hx).2 ((rf_bk P h1 h2).mp (hz.mem_iff.mp z))
        walk_at "pz"
        exact hk _ ⟨rfl, fun _ h => h⟩
      · rw [List.nil_append]
        have hany : (NL.any fun _ => false) = false := by simp
        walk_at "pz"
theorem made_ok {XD : XEnds} {s0 s1 s2 s7 s8 s9 s11 s12 s13 s14 s15 : Sl} {q : Nat} {wf : Nat → List (List Nat)} (P : P1 m nd o) (hq : q < m) (hws : ∀ k, k < m → Ws m nd o k (wf k)) (f13 : fre s13) (f14 : fre s14) (hb : ¬ Bk nd o q [])
    (k : ∀ s13 s14, fre s13 → fre s14 → XD.nx [s0, s1, s2, .val (prD m nd o), .val (.int (m : Nat)), .val (.int (q : Nat)), .val (.lst ((List.range m).map fun k => D.lst ((wf k).map natT))), s7, s8, s9, .val (.lst ((wl (wf q)).map natT)), s11, s12, s13, s14, s15]) :
    xb_made XD [s0, s1, s2, .val (prD m nd o), .val (.int (m : Nat)), .val (.int (q : Nat)), .val (.lst ((List.range m).map fun k => D.lst ((wf k).map natT))), s7, s8, s9, .val (.lst ((wl (wf q)).map natT)), s11, s12, s13, s14, s15] := by
  have hm := P.m7
  unfold xb_made
  walk_at "pz"
  refine least_makers_ok P hq fun L hL hLm hLl => ?_
  have h1 : ∀ r ∈ lea L, r.length = 1 := fun r hr => by
    obtain ⟨h2, h3⟩ := ((lea_ok roN hL fun r hr => ((hLm r).mp hr).1.1).2 r).mp hr
    obtain ⟨⟨h4, h5⟩, h6, w, x, hw, hx⟩ := (hLm r).mp h2
    have hxr : x ∈ r := by
      rcases hx with z | z
      · exact z
      · exact absurd (bk_nil.mpr ⟨w, x, hw, z⟩) hb
    have hs : [x] ∈ L := (hLm [x]).mpr ⟨⟨by simp, fun y hy => by rw [List.mem_singleton.mp hy]; exact h5 x hxr⟩, fun z => by rw [List.mem_singleton.mp z] at h6; exact h6 hxr, w, x, hw, .inl (by simp)⟩
    have := h3 [x] hs fun y hy => by rw [List.mem_singleton.mp hy]; exact hxr
    rw [← this]; rfl
  have hll : (lea L).length ≤ 512 := by have := lea_len (rows := L) (acc := []); simp only [List.length_nil, Nat.zero_add] at this; exact Nat.le_trans this hLl
  generalize lea L = LL at *
  walk_at "pz"
  refine lc_map (e := natT) (fun r => .bl (decide (((r.length : Nat) : Int) = 1))) (fun r hr kk hk => ?_) (by simp; omega) ?_
  · clear h1
    walk_at "pz"
    exact hk _ ⟨rfl, fun _ h => h⟩
  · rw [List.nil_append]
    have hall : (LL.all fun r => decide (((r.length : Nat) : Int) = 1)) = true := List.all_eq_true.mpr fun r hr => decide_eq_true (by have := h1 r hr; omega)
    walk_at "pz"
    refine stuck_ok P.p fun l F h => ?_
    have hql : q ∉ l := fun z => hb ((rf_bk P hq h).mp z)
    have hqs : q ∈ (List.range m).filter (fun k => decide (k ∉ l)) := List.mem_filter.mpr ⟨List.mem_range.mpr hq, decide_eq_true hql⟩
    generalize (List.range m).filter (fun k => decide (k ∉ l)) = SL at *
    walk_at "pz"
theorem told_ok {XD : XEnds} {s0 s1 s2 s7 s8 s9 s11 s12 s13 s14 s15 : Sl} {q : Nat} {wf : Nat → List (List Nat)} (P : P1 m nd o) (hq : q < m) (hws : ∀ k, k < m → Ws m nd o k (wf k)) (f7 : fre s7) (f13 : fre s13) (hb : Bk nd o q [])
    (k : ∀ s7 s13, fre s7 → fre s13 → XD.nx [s0, s1, s2, .val (prD m nd o), .val (.int (m : Nat)), .val (.int (q : Nat)), .val (.lst ((List.range m).map fun k => D.lst ((wf k).map natT))), s7, s8, s9, .val (.lst ((wl (wf q)).map natT)), s11, s12, s13, s14, s15]) :
    xb_told XD [s0, s1, s2, .val (prD m nd o), .val (.int (m : Nat)), .val (.int (q : Nat)), .val (.lst ((List.range m).map fun k => D.lst ((wf k).map natT))), s7, s8, s9, .val (.lst ((wl (wf q)).map natT)), s11, s12, s13, s14, s15] := by
  have hm := P.m7
  have hW := hws q hq
  unfold xb_told
  walk_at "pz"
  refine order_to_ok P.p P.one hq (fun l F h => (rf_bk P hq h).mpr hb) fun row x hw hx => ?_
  have hrn : row.Nodup := (List.reverse_perm row).nodup_iff.mp hw.nodup
  have hrm : ∀ y ∈ row, y < m := fun y hy => hw.lt P.p.lt hq y (List.mem_reverse.mpr hy)
  have hrl := nodup_len hrn hrm
  obtain ⟨t, et⟩ := hw.head
  have eback : ∀ R : D → Prop, Pw.getD (row.map fun x => D.int ((x : Nat) : Int)) (-1) R = R (.int ((q : Nat) : Int)) := fun R => by
    rw [show row = t.reverse ++ [q] by rw [← List.reverse_reverse row, et]; simp, List.map_append]
    exact getD_back
  obtain ⟨w', ew⟩ := hw.last
  have ehead : ∀ R : D → Prop, Pw.getD (row.map fun x => D.int ((x : Nat) : Int)) 0 R = R (.int ((x : Nat) : Int)) := fun R => by
    rw [show row = x :: w'.reverse by rw [← List.reverse_reverse row, ew]; simp, List.map_cons]
    exact getD_zero
  have hxm : x < m := hrm x (by rw [← List.reverse_reverse row, ew]; simp)
  walk_at "pz"
  refine xSortTI_nat hrn fun ys hy1 hy2 => ?_
  have hyw : ys ∈ wf q := by
    obtain ⟨r, hr, hp⟩ := hW.all hw hx
    have ha := (hW.mem P hq hr).1
    have : ys = r := asc_ext hy2 ha (fun z hz => hp.mem_iff.mpr (List.mem_reverse.mpr (hy1.mem_iff.mp hz))) fun z hz => hy1.mem_iff.mpr (List.mem_reverse.mp (hp.mem_iff.mp hz))
    rw [this]; exact hr
  walk_at "pz"
  refine in_rows (fun r hr => ?_) hyw ?_
  · obtain ⟨_, h2, h3, _⟩ := hW.mem P hq hr
    exact ⟨by omega, fun z hz => by have := h2 z hz; omega⟩
  walk_at "pz"
  refine ⟨⟨by decide, by decide⟩, sm_nat (by omega), ?_⟩
  unfold rgD
  refine for_rng (fun i E => ∃ s7, E = [s0, s1, s2, .val (prD m nd o), .val (.int (m : Nat)), .val (.int (q : Nat)), .val (.lst ((List.range m).map fun k => D.lst ((wf k).map natT))), s7, s8, s9, .val (.lst ((wl (wf q)).map natT)), s11, s12, .val (natT row), s14, s15] ∧ fre s7) ⟨_, rfl, f7⟩ (fun i hi E hE nx hnx => ?_) (fun E hE => ?_)
  · obtain ⟨s7, rfl, f7⟩ := hE
    have hi1 : i + 1 < row.length := by omega
    obtain ⟨u, hu⟩ : ∃ u, row[i]? = some u := ⟨_, List.getElem?_eq_getElem (by omega)⟩
    obtain ⟨a, ha⟩ : ∃ a, row[i + 1]? = some a := ⟨_, List.getElem?_eq_getElem hi1⟩
    have hsp : row = row.take i ++ u :: a :: row.drop (i + 2) := by
      have h1 : row.drop i = u :: row.drop (i + 1) := by
        rw [List.drop_eq_getElem_cons (by omega)]
        congr 1
        exact Option.some.inj ((List.getElem?_eq_getElem (by omega)).symm.trans hu)
      have h2 : row.drop (i + 1) = a :: row.drop (i + 2) := by
        rw [List.drop_eq_getElem_cons hi1]
        congr 1
        exact Option.some.inj ((List.getElem?_eq_getElem hi1).symm.trans ha)
      rw [← h2, ← h1, List.take_append_drop]
    have hst := hw.step (w1 := (row.drop (i + 2)).reverse) (a := a) (u := u) (w2 := (row.take i).reverse) (by conv => lhs; rw [hsp]
                                                                                                              simp)
    have ham : a < m := hrm a (List.mem_of_getElem? ha)
    have hua : u ∈ o a := hst.2
    have es : (1 : Int) + (i : Int) - 1 = (i : Int) := by omega
    have eu : ∀ R : D → Prop, Pw.getD (row.map fun x => D.int ((x : Nat) : Int)) ((i : Nat) : Int) R = R (.int ((u : Nat) : Int)) := fun R => getD_nat (by rw [List.getElem?_map, hu]; rfl)
    have ea : ∀ R : D → Prop, Pw.getD (row.map fun x => D.int ((x : Nat) : Int)) ((1 : Int) + (i : Int)) R = R (.int ((a : Nat) : Int)) := fun R => by
      rw [show (1 : Int) + (i : Int) = ((i + 1 : Nat) : Int) by omega]
      exact getD_nat (by rw [List.getElem?_map, ha]; rfl)
    clear hsp hst hu ha hi hi1 eback ehead et ew
    walk_at "pz"
    exact hnx _ ⟨_, rfl, fre_val⟩
  · obtain ⟨s7, rfl, f7⟩ := hE
    clear eback ehead et ew
    walk_at "pz"
    refine least_makers_ok P hq fun L hL hLm hLl => ?_
    obtain ⟨w0, x0, hw0, hx0⟩ := bk_nil.mp hb
    have e1 : lea L = [[]] := by
      have h0 : ([] : List Nat) ∈ L := (hLm []).mpr ⟨⟨.nil, by simp⟩, by simp, w0, x0, hw0, .inr hx0⟩
      refine (lea_eq roN (M := [[]]) hL (by simp) (fun r hr => ((hLm r).mp hr).1.1) (by simp) (fun x _ => ⟨[], by simp, fun z hz => by cases hz⟩) fun y hy => ?_).trans rfl
      rw [List.mem_singleton.mp hy]
      exact ⟨[], h0, fun z hz => hz⟩
    rw [e1]
    clear e1 hL hLm hLl
    walk_at "pz"
    refine eq_rows (rows := [[]]) (by simp) ?_
    walk_at "pz"
    refine least_stuck_ok P hq (fun r h1 h2 h3 h4 => ?_) ?_
    · have key : ∀ {w : List Nat} {x : Nat}, Wy nd o q w x → x ∈ r := fun {w x} hw => by
        induction hw with
        | one => exact h3
        | @snoc w x y hw hx hy hn ih =>
          by_cases hyr : y ∈ r
          · exact hyr
          · have h5 := h4 x ih
            have h6 : 0 < ((o x).filter fun x => decide (x ∉ r)).length := List.length_pos_of_mem (List.mem_filter.mpr ⟨hy, decide_eq_true hyr⟩)
            have h7 := P.one x (h2 x ih)
            omega
      have h5 := h4 x0 (key hw0)
      omega
    · walk_at "pz"
      refine eq_nil ?_
      walk_at "pz"
theorem tail_ok {XD : XEnds} {s0 s1 s2 s7 s8 s9 s11 s12 s13 s14 s15 : Sl} {q : Nat} {wf : Nat → List (List Nat)} (P : P1 m nd o) (hq : q < m) (hws : ∀ k, k < m → Ws m nd o k (wf k)) (f7 : fre s7) (f13 : fre s13) (f14 : fre s14) (f15 : fre s15)
    (k : ∀ s7 s13 s14 s15, fre s7 → fre s13 → fre s14 → fre s15 → XD.nx [s0, s1, s2, .val (prD m nd o), .val (.int (m : Nat)), .val (.int (q : Nat)), .val (.lst ((List.range m).map fun k => D.lst ((wf k).map natT))), s7, s8, s9, .val (.lst ((wl (wf q)).map natT)), s11, s12, s13, s14, s15]) :
    xb_tail XD [s0, s1, s2, .val (prD m nd o), .val (.int (m : Nat)), .val (.int (q : Nat)), .val (.lst ((List.range m).map fun k => D.lst ((wf k).map natT))), s7, s8, s9, .val (.lst ((wl (wf q)).map natT)), s11, s12, s13, s14, s15] := by
  have hm := P.m7
  have hW := hws q hq
  have hwr : ∀ r ∈ wl (wf q), r.length ≤ 7 := fun r hr => (hW.mem P hq (wl_in hr)).2.2.1
  have hne := wl_ne P hq hW
  have hlast : ∀ s7 s13 s14, fre s7 → fre s13 → fre s14 → xb_last XD [s0, s1, s2, .val (prD m nd o), .val (.int (m : Nat)), .val (.int (q : Nat)), .val (.lst ((List.range m).map fun k => D.lst ((wf k).map natT))), s7, s8, s9, .val (.lst ((wl (wf q)).map natT)), s11, s12, s13, s14, s15] := fun s7 s13 s14 f7 f13 f14 =>
    last_ok P hq hws f7 f15 fun s7 s15 f7 f15 => k s7 s13 s14 s15 f7 f13 f14 f15
  clear k
  unfold xb_tail
  by_cases hb : Bk nd o q []
  · have hpos : (0 : Int) < (((wl (wf q)).length : Nat) : Int) := by have := hne.mpr hb; omega
    have T := told_ok (XD := { XD with nx := xb_last XD }) (s0 := s0) (s1 := s1) (s2 := s2) (s8 := s8) (s9 := s9) (s11 := s11) (s12 := s12) (s14 := s14) (s15 := s15) P hq hws f7 f13 hb fun s7 s13 f7 f13 => hlast s7 s13 s14 f7 f13 f14
    clear hlast
    walk_at "pz"
  · have hpos : ¬ (0 : Int) < (((wl (wf q)).length : Nat) : Int) := fun z => hb (hne.mp (by omega))
    have T := made_ok (XD := { XD with nx := xb_last XD }) (s0 := s0) (s1 := s1) (s2 := s2) (s7 := s7) (s8 := s8) (s9 := s9) (s11 := s11) (s12 := s12) (s15 := s15) P hq hws f13 f14 hb fun s13 s14 f13 f14 => hlast s7 s13 s14 f7 f13 f14
    clear hlast
    walk_at "pz"
end
end K99
end

section
set_option maxRecDepth 100000
set_option maxHeartbeats 1000000
namespace K99
open PySem L2 Pw GBf
local macro_rules | `(tactic| walk_at "px") => `(tactic| simp (config := { failIfUnchanged := false }) only [Pw.nth_nil, Pw.nth_zero, Pw.nth_succ, Pw.put_zero, Pw.put_succ, Pw.shr_lst, Pw.shr_dK, Pw.shr_dT, Pw.shr_lls, Pw.selS_val, Pw.selS_own, Pw.kS_ap, Pw.kX_ap, Pw.kT_ap, Pw.kRB_ap, Pw.kRD_ap, Pw.kF_ap, Pw.selB_t, Pw.selB_f, Pw.selBl_bl, Pw.selN_un, Pw.selN_val, Pw.selN_own, Pw.noio_sel, Pw.selI_int, Pw.selR_lst, Pw.selR_tup, Pw.selR_ftup, Pw.selR_rng, Pw.selQ_lst, Pw.selQ_tup, Pw.revD_lst, Pw.revD_tup, Pw.selZ_lst, Pw.selZ_tup, Pw.selO_un, Pw.selO_val, Pw.k_now_ap, Pw.nOw_nil, Pw.nOw_cons, Pw.wipeE_nil, Pw.wipeE_cons, Pw.backE_nil, Pw.backE_cons, Pw.toSl_v, Pw.ioS_own, Pw.toSl_rf, Pw.rfs_nil, Pw.rfs_val, Pw.rfs_ref, Pw.argsOf_eq, Pw.argsOf_nil, Pw.argsOf_cons, Pw.selP_own, Pw.isNonD_non, Pw.isNonD_int, Pw.isNonD_str, Pw.isNonD_tup, Pw.isNonD_lst, Pw.isNonD_bl, Pw.selIx_val, Pw.selIx_own, Pw.selLls_own, Pw.selVI_int, Pw.selX_zero, Pw.selX_one, Pw.selX_last, Pw.selL_lst, Pw.selSz_tup, Pw.selSz_lst, Pw.selSz_fro, Pw.selOL_own, Pw.k_xVar1_ap, Pw.k_xVar2_ap, Pw.xVar_ap, Pw.xC_ap, Pw.k_xShr1_ap, Pw.xShr_ap, Pw.k_xOp3_ap, Pw.k_xOp2_ap, Pw.k_xOp1_ap, Pw.xOp_ap, Pw.k_xUn2_ap, Pw.k_xUn1_ap, Pw.xUn_ap, Pw.xNext_ap, Pw.xSeq_ap, Pw.xBreak_ap, Pw.xCont_ap, Pw.k_xDrop1_ap, Pw.xDrop_ap, Pw.xRet_ap, Pw.xRetN_ap, Pw.k_xIfS1_ap, Pw.xIfS_ap, Pw.xNever_ap, Pw.k_xB2_ap, Pw.k_xB1_ap, Pw.xB_ap, Pw.k_xAnd1_ap, Pw.xAnd_ap, Pw.k_xOr1_ap, Pw.xOr_ap, Pw.k_xNot1_ap, Pw.xNot_ap, Pw.k_xIf1_ap, Pw.xIf_ap, Pw.k_xAndV2_ap, Pw.k_xAndV1_ap, Pw.xAndV_ap, Pw.k_xOrV2_ap, Pw.k_xOrV1_ap, Pw.xOrV_ap, Pw.k_xNotV2_ap, Pw.k_xNotV1_ap, Pw.xNotV_ap, Pw.xYes_ap, Pw.xvNil_ap, Pw.k_xvCons2_ap, Pw.k_xvCons1_ap, Pw.xvCons_ap, Pw.k_xTup1_ap, Pw.xTup_ap, Pw.k_xLst1_ap, Pw.xLst_ap, Pw.k_xCB2_ap, Pw.k_xCB1_ap, Pw.xCB_ap, Pw.k_pk_ap, Pw.pk_ap, Pw.k_xOpL3_ap, Pw.k_xOpL2_ap, Pw.k_xOpL1_ap, Pw.xOpL_ap, Pw.k_xOpR3_ap, Pw.k_xOpR2_ap, Pw.k_xOpR1_ap, Pw.xOpR_ap, Pw.k_xCBp2_ap, Pw.k_xCBp1_ap, Pw.xCBp_ap, Pw.xgName_ap, Pw.xgNil_ap, Pw.k_xgCons1_ap, Pw.xgCons_ap, Pw.xgTup_ap, Pw.k_xAsg1_ap, Pw.xAsg_ap, Pw.k_xAsgO1_ap, Pw.xAsgO_ap, Pw.k_xAug2_ap, Pw.xAug_ap, Pw.k_xFor1_ap, Pw.xFor_ap, Pw.xForL_nil, Pw.k_forL_ap, Pw.k_xiAny2_ap, Pw.k_xiAny3_ap, Pw.k_xiAny1_ap, Pw.xiAny_ap, Pw.k_xiRev2_ap, Pw.k_xiRev1_ap, Pw.xiRev_ap, Pw.k_xRevE_lst, Pw.k_xRevE_tup, Pw.xRevE_ap, Pw.k_xiEnum2_ap, Pw.k_xiEnum1_ap, Pw.xiEnum_ap, Pw.k_xiZip3_ap, Pw.k_xiZip2_ap, Pw.k_xiZip1_ap, Pw.xiZip_ap, Pw.k_xiR12_ap, Pw.k_xiR11_ap, Pw.xiR1_ap, Pw.k_xiR24_ap, Pw.k_xiR22_ap, Pw.k_xiR21_ap, Pw.xiR2_ap, Pw.rgD_0, Pw.k_xLc3_ap, Pw.k_xLc2_ap, Pw.k_xLc1_ap, Pw.xLc_ap, Pw.k_xLcF3_ap, Pw.k_xLcF2_ap, Pw.k_xLcF1_ap, Pw.xLcF_ap, Pw.xaNil_ap, Pw.k_xaCons2_ap, Pw.k_xaCons1_ap, Pw.xaCons_ap, Pw.k_xaRef3_ap, Pw.kF1_ap, Pw.k_xaRef2_ap, Pw.k_xaRef1_ap, Pw.xaRef_ap, Pw.putBack_nil, Pw.putBack_val, Pw.k_putBack_ap, Pw.putBack_ref, Pw.k_xCall2_ap, Pw.k_xCall1_ap, Pw.xCall_ap, Pw.k_fnNx_ap, Pw.k_fnRt_ap, Pw.kNo_ap, Pw.fnX_ap, Pw.xI_ap, Pw.xIC_ap, Pw.xNeg_ap, Pw.xIsN_ap, Pw.xNotN_ap, Pw.xAdd_int, Pw.xAdd_str, Pw.xAdd_tup, Pw.xAdd_lst, Pw.xEqC_int, Pw.xEqC_str, Pw.xEqC_bl, Pw.xEqC_non, Pw.xEqC_ni, Pw.xEqC_in, Pw.k_xCh5_ap, Pw.k_xCh4_ap, Pw.k_xCh3_ap, Pw.k_xCh2b_ap, Pw.k_xCh2_ap, Pw.k_xCh1_ap, Pw.xChain_ap, Pw.xIx_lst, Pw.xIx_tup, Pw.k_xIxP2_ap, Pw.k_xIxP1_ap, Pw.xIxP_ap, Pw.k_xIx2V5_ap, Pw.k_xIx2V4_ap, Pw.k_xIx2V3_ap, Pw.k_xIx2V2_ap, Pw.k_xIx2V1_ap, Pw.xIx2V_ap, Pw.k_xSet26_ap, Pw.k_xSet25_ap, Pw.k_xSet24_ap, Pw.k_xSet23_ap, Pw.k_xSet22_ap, Pw.k_xSet21_ap, Pw.xSet2_ap, Pw.k_xSetRow5_ap, Pw.k_xSetRow4_ap, Pw.k_xSetRow3_ap, Pw.k_xSetRow2_ap, Pw.k_xSetRow1_ap, Pw.xSetRow_ap, Pw.xNoPart_ap, Pw.k_xPart2_ap, Pw.k_xPart1_ap, Pw.xPart_ap, Pw.k_xSl4_ap, Pw.k_xSl3_ap, Pw.k_xSl2_ap, Pw.k_xSl1_ap, Pw.xSl_ap, Pw.xLen_lst, Pw.xLen_tup, Pw.xLen_dK, Pw.xLen_str, Pw.xTupleOf_lst, Pw.xTupleOf_tup, Pw.xListOf_lst, Pw.xListOf_tup, Pw.xAbs_ap, Pw.xInt1_int, Pw.xInt1_bl, Pw.xMax2_ap, Pw.xMin2_ap, Pw.xAll_map, Pw.xAny_map, Pw.xSum_map, Pw.xSum_mapT, Pw.k_xAppend3_ap, Pw.k_xAppend2_ap, Pw.k_xAppend1_ap, Pw.xAppend_ap, Pw.k_xExtend4_ap, Pw.k_xExtend3_ap, Pw.k_xExtend2_ap, Pw.k_xExtend1_ap, Pw.xExtend_ap, Pw.k_xRev1_ap, Pw.xRev_ap, Pw.k_xSetIx6_ap, Pw.k_xSetIx5_ap, Pw.k_xSetIx4_ap, Pw.k_xSetIx3_ap, Pw.k_xSetIx2_ap, Pw.k_xSetIx1_ap, Pw.xSetIx_ap, Pw.kTr_ap, Pw.k_isL_ap, Pw.k_xIndexP3_ap, Pw.k_xIndexP2_ap, Pw.k_xIndexP1_ap, Pw.xIndexP_ap, Pw.xRange1_ap, Pw.getD_zero, Pw.getD_one, Pw.getD_two, Pw.getD_last, Pw.k_st_ap, Pw.k_xe_ap, Pw.kU_ap, Pw.k_lcB_ap, Pw.k_lcT_ap, Pw.k_xeF_lst, Pw.k_xf_ap, Pw.enum_rng0, Pw.zip_map, Pw.rev_rng, Pw.fre_un, Pw.fre_val, Pw.map_mp, Pw.all_tt, Pw.cut_mp, Pw.selDk_val, Pw.selDk_own, Pw.selODk_own, Pw.selK_int, Pw.selK_str, Pw.selSm_some, Pw.kTr2_ap, Pw.kTr3_ap, Pw.k_xDIn3_ap, Pw.k_xDIn2_ap, Pw.k_xDIn1_ap, Pw.xDIn_ap, Pw.k_xDGet4_ap, Pw.k_xDGet3_ap, Pw.k_xDGet2_ap, Pw.k_xDGet1_ap, Pw.xDGet_ap, Pw.k_xDGet13_ap, Pw.k_xDGet12_ap, Pw.k_xDGet11_ap, Pw.xDGet1_ap, Pw.k_xDGet24_ap, Pw.k_xDGet23_ap, Pw.k_xDGet22_ap, Pw.k_xDGet21_ap, Pw.xDGet2_ap, Pw.xDNew_ap, Pw.k_xDPut5_ap, Pw.k_xDPut4_ap, Pw.k_xDPut3_ap, Pw.k_xDPut2_ap, Pw.k_xDPut1_ap, Pw.xDPut_ap, Pw.k_xDisp13_ap, Pw.k_xDisp12_ap, Pw.k_xDisp11_ap, Pw.xDisp1_ap, Pw.selD2_ap, Pw.k_xDUpd3_ap, Pw.k_xDUpd2_ap, Pw.k_xDUpd1_ap, Pw.xDUpd_ap, Pw.k_xDc3_ap, Pw.k_xDc2_ap, Pw.k_xDc1_ap, Pw.xDc_ap, Pw.k_dcK2_ap, Pw.k_dcK_ap, Pw.k_dc_ap, Pw.lk_in, Pw.lk_get1, Pw.ptK_nat, Pw.ptV_nat, Pw.xSortSet_ap, Pw.k_xListR2_ap, Pw.k_xListR1_ap, Pw.xListR_ap, Pw.k_xRep3_ap, Pw.k_xRep2_ap, Pw.k_xRep1_ap, Pw.xRep_ap, Pw.xTupleF_lst, Pw.k_isF_ap, Pw.k_xTI2_ap, Pw.k_xTI1_ap, Pw.k_xTI_ap, Pw.xTIndexP_ap, Pw.k_whN_ap, Pw.k_whB_ap, Pw.xInC_lstN, Pw.xInC_tupN, Pw.xInC_nilT, Pw.k_xPopAt6_ap, Pw.k_xPopAt5_ap, Pw.k_xPopAt4_ap, Pw.k_xPopAt3_ap, Pw.k_xPopAt2_ap, Pw.k_xPopAt1_ap, Pw.xPopAt_ap, Pw.k_xTru2_ap, Pw.k_xTru1_ap, Pw.xTru_ap, Pw.k_xPop2_ap, Pw.k_xPop1_ap, Pw.xPop_ap, Pw.k_xDInE4_ap, Pw.k_xDInE3_ap, Pw.k_xDInE2_ap, Pw.k_xDInE1_ap, Pw.xDInE_ap, Pw.k_xRevB2_ap, Pw.k_xRevB1_ap, Pw.xRevB_ap, Pw.xSortA_ap, Pw.k_xLcO2_ap, Pw.k_xLcO1_ap, Pw.xLcO_ap, List.length_cons, List.length_nil, List.length_map, List.length_range, List.length_append, List.length_reverse, List.length_set, List.cons_append, List.nil_append, List.append_nil, List.reduceReplicate, List.take_succ_cons, List.take_zero, List.map_cons, List.map_nil, Nat.reduceSub, Nat.reduceAdd, Nat.reduceLT, Nat.reduceLeDiff, Nat.reduceEqDiff, Int.reduceAdd, Int.reduceSub, Int.reduceMul, Int.reduceNeg, Int.reduceToNat, Int.reduceLT, Int.reduceLE, Int.reduceEq, Int.reducePow, Int.toNat_natCast, List.nodup_cons, List.nodup_nil, List.not_mem_nil, List.set_cons_zero, List.set_cons_succ, List.reverse_cons, List.reverse_nil, Nat.zero_add, Int.sub_zero, Int.zero_add, ne_eq, reduceCtorEq, not_false_eq_true, not_true_eq_false, true_and, and_true, and_self, decide_true, decide_false, Bool.not_true, Bool.not_false, Bool.false_xor, Bool.true_xor, Bool.xor_false, Bool.xor_true, decide_eq_true_eq, eq_self, Nat.le_refl, Nat.zero_le, if_true, if_false, ite_true, ite_false, Bool.false_eq_true, reduceIte, reduceDIte, Int.lt_irrefl, Int.le_refl, ge_iff_le, gt_iff_lt])
local macro_rules | `(tactic| walk_at "pz") => `(tactic| simp (config := { failIfUnchanged := false }) only [Pw.nth_nil, Pw.nth_zero, Pw.nth_succ, Pw.put_zero, Pw.put_succ, Pw.shr_lst, Pw.shr_dK, Pw.shr_dT, Pw.shr_lls, Pw.selS_val, Pw.selS_own, Pw.kS_ap, Pw.kX_ap, Pw.kT_ap, Pw.kRB_ap, Pw.kRD_ap, Pw.kF_ap, Pw.selB_t, Pw.selB_f, Pw.selBl_bl, Pw.selN_un, Pw.selN_val, Pw.selN_own, Pw.noio_sel, Pw.selI_int, Pw.selR_lst, Pw.selR_tup, Pw.selR_ftup, Pw.selR_rng, Pw.selQ_lst, Pw.selQ_tup, Pw.revD_lst, Pw.revD_tup, Pw.selZ_lst, Pw.selZ_tup, Pw.selO_un, Pw.selO_val, Pw.k_now_ap, Pw.nOw_nil, Pw.nOw_cons, Pw.wipeE_nil, Pw.wipeE_cons, Pw.backE_nil, Pw.backE_cons, Pw.toSl_v, Pw.ioS_own, Pw.toSl_rf, Pw.rfs_nil, Pw.rfs_val, Pw.rfs_ref, Pw.argsOf_eq, Pw.argsOf_nil, Pw.argsOf_cons, Pw.selP_own, Pw.isNonD_non, Pw.isNonD_int, Pw.isNonD_str, Pw.isNonD_tup, Pw.isNonD_lst, Pw.isNonD_bl, Pw.selIx_val, Pw.selIx_own, Pw.selLls_own, Pw.selVI_int, Pw.selX_zero, Pw.selX_one, Pw.selX_last, Pw.selL_lst, Pw.selSz_tup, Pw.selSz_lst, Pw.selSz_fro, Pw.selOL_own, Pw.k_xVar1_ap, Pw.k_xVar2_ap, Pw.xVar_ap, Pw.xC_ap, Pw.k_xShr1_ap, Pw.xShr_ap, Pw.k_xOp3_ap, Pw.k_xOp2_ap, Pw.k_xOp1_ap, Pw.xOp_ap, Pw.k_xUn2_ap, Pw.k_xUn1_ap, Pw.xUn_ap, Pw.xNext_ap, Pw.xSeq_ap, Pw.xBreak_ap, Pw.xCont_ap, Pw.k_xDrop1_ap, Pw.xDrop_ap, Pw.xRet_ap, Pw.xRetN_ap, Pw.k_xIfS1_ap, Pw.xIfS_ap, Pw.xNever_ap, Pw.k_xB2_ap, Pw.k_xB1_ap, Pw.xB_ap, Pw.k_xAnd1_ap, Pw.xAnd_ap, Pw.k_xOr1_ap, Pw.xOr_ap, Pw.k_xNot1_ap, Pw.xNot_ap, Pw.k_xIf1_ap, Pw.xIf_ap, Pw.k_xAndV2_ap, Pw.k_xAndV1_ap, Pw.xAndV_ap, Pw.k_xOrV2_ap, Pw.k_xOrV1_ap, Pw.xOrV_ap, Pw.k_xNotV2_ap, Pw.k_xNotV1_ap, Pw.xNotV_ap, Pw.xYes_ap, Pw.xvNil_ap, Pw.k_xvCons2_ap, Pw.k_xvCons1_ap, Pw.xvCons_ap, Pw.k_xTup1_ap, Pw.xTup_ap, Pw.k_xLst1_ap, Pw.xLst_ap, Pw.k_xCB2_ap, Pw.k_xCB1_ap, Pw.xCB_ap, Pw.k_pk_ap, Pw.pk_ap, Pw.k_xOpL3_ap, Pw.k_xOpL2_ap, Pw.k_xOpL1_ap, Pw.xOpL_ap, Pw.k_xOpR3_ap, Pw.k_xOpR2_ap, Pw.k_xOpR1_ap, Pw.xOpR_ap, Pw.k_xCBp2_ap, Pw.k_xCBp1_ap, Pw.xCBp_ap, Pw.xgName_ap, Pw.xgNil_ap, Pw.k_xgCons1_ap, Pw.xgCons_ap, Pw.xgTup_ap, Pw.k_xAsg1_ap, Pw.xAsg_ap, Pw.k_xAsgO1_ap, Pw.xAsgO_ap, Pw.k_xAug2_ap, Pw.xAug_ap, Pw.k_xFor1_ap, Pw.xFor_ap, Pw.xForL_nil, Pw.k_forL_ap, Pw.k_xiAny2_ap, Pw.k_xiAny3_ap, Pw.k_xiAny1_ap, Pw.xiAny_ap, Pw.k_xiRev2_ap, Pw.k_xiRev1_ap, Pw.xiRev_ap, Pw.k_xRevE_lst, Pw.k_xRevE_tup, Pw.xRevE_ap, Pw.k_xiEnum2_ap, Pw.k_xiEnum1_ap, Pw.xiEnum_ap, Pw.k_xiZip3_ap, Pw.k_xiZip2_ap, Pw.k_xiZip1_ap, Pw.xiZip_ap, Pw.k_xiR12_ap, Pw.k_xiR11_ap, Pw.xiR1_ap, Pw.k_xiR24_ap, Pw.k_xiR22_ap, Pw.k_xiR21_ap, Pw.xiR2_ap, Pw.rgD_0, Pw.k_xLc3_ap, Pw.k_xLc2_ap, Pw.k_xLc1_ap, Pw.xLc_ap, Pw.k_xLcF3_ap, Pw.k_xLcF2_ap, Pw.k_xLcF1_ap, Pw.xLcF_ap, Pw.xaNil_ap, Pw.k_xaCons2_ap, Pw.k_xaCons1_ap, Pw.xaCons_ap, Pw.k_xaRef3_ap, Pw.kF1_ap, Pw.k_xaRef2_ap, Pw.k_xaRef1_ap, Pw.xaRef_ap, Pw.putBack_nil, Pw.putBack_val, Pw.k_putBack_ap, Pw.putBack_ref, Pw.k_xCall2_ap, Pw.k_xCall1_ap, Pw.xCall_ap, Pw.k_fnNx_ap, Pw.k_fnRt_ap, Pw.kNo_ap, Pw.fnX_ap, Pw.xI_ap, Pw.xIC_ap, Pw.xNeg_ap, Pw.xIsN_ap, Pw.xNotN_ap, Pw.xAdd_int, Pw.xAdd_str, Pw.xAdd_tup, Pw.xAdd_lst, Pw.xEqC_int, Pw.xEqC_str, Pw.xEqC_bl, Pw.xEqC_non, Pw.xEqC_ni, Pw.xEqC_in, Pw.k_xCh5_ap, Pw.k_xCh4_ap, Pw.k_xCh3_ap, Pw.k_xCh2b_ap, Pw.k_xCh2_ap, Pw.k_xCh1_ap, Pw.xChain_ap, Pw.xIx_lst, Pw.xIx_tup, Pw.k_xIxP2_ap, Pw.k_xIxP1_ap, Pw.xIxP_ap, Pw.k_xIx2V5_ap, Pw.k_xIx2V4_ap, Pw.k_xIx2V3_ap, Pw.k_xIx2V2_ap, Pw.k_xIx2V1_ap, Pw.xIx2V_ap, Pw.k_xSet26_ap, Pw.k_xSet25_ap, Pw.k_xSet24_ap, Pw.k_xSet23_ap, Pw.k_xSet22_ap, Pw.k_xSet21_ap, Pw.xSet2_ap, Pw.k_xSetRow5_ap, Pw.k_xSetRow4_ap, Pw.k_xSetRow3_ap, Pw.k_xSetRow2_ap, Pw.k_xSetRow1_ap, Pw.xSetRow_ap, Pw.xNoPart_ap, Pw.k_xPart2_ap, Pw.k_xPart1_ap, Pw.xPart_ap, Pw.k_xSl4_ap, Pw.k_xSl3_ap, Pw.k_xSl2_ap, Pw.k_xSl1_ap, Pw.xSl_ap, Pw.xLen_lst, Pw.xLen_tup, Pw.xLen_dK, Pw.xLen_str, Pw.xTupleOf_lst, Pw.xTupleOf_tup, Pw.xListOf_lst, Pw.xListOf_tup, Pw.xAbs_ap, Pw.xInt1_int, Pw.xInt1_bl, Pw.xMax2_ap, Pw.xMin2_ap, Pw.xAll_map, Pw.xAny_map, Pw.xSum_map, Pw.xSum_mapT, Pw.k_xAppend3_ap, Pw.k_xAppend2_ap, Pw.k_xAppend1_ap, Pw.xAppend_ap, Pw.k_xExtend4_ap, Pw.k_xExtend3_ap, Pw.k_xExtend2_ap, Pw.k_xExtend1_ap, Pw.xExtend_ap, Pw.k_xRev1_ap, Pw.xRev_ap, Pw.k_xSetIx6_ap, Pw.k_xSetIx5_ap, Pw.k_xSetIx4_ap, Pw.k_xSetIx3_ap, Pw.k_xSetIx2_ap, Pw.k_xSetIx1_ap, Pw.xSetIx_ap, Pw.kTr_ap, Pw.k_isL_ap, Pw.k_xIndexP3_ap, Pw.k_xIndexP2_ap, Pw.k_xIndexP1_ap, Pw.xIndexP_ap, Pw.xRange1_ap, Pw.getD_zero, Pw.getD_one, Pw.getD_two, Pw.getD_last, Pw.k_st_ap, Pw.k_xe_ap, Pw.kU_ap, Pw.k_lcB_ap, Pw.k_lcT_ap, Pw.k_xeF_lst, Pw.k_xf_ap, Pw.enum_rng0, Pw.zip_map, Pw.rev_rng, Pw.fre_un, Pw.fre_val, Pw.map_mp, Pw.all_tt, Pw.cut_mp, Pw.selDk_val, Pw.selDk_own, Pw.selODk_own, Pw.selK_int, Pw.selK_str, Pw.selSm_some, Pw.kTr2_ap, Pw.kTr3_ap, Pw.k_xDIn3_ap, Pw.k_xDIn2_ap, Pw.k_xDIn1_ap, Pw.xDIn_ap, Pw.k_xDGet4_ap, Pw.k_xDGet3_ap, Pw.k_xDGet2_ap, Pw.k_xDGet1_ap, Pw.xDGet_ap, Pw.k_xDGet13_ap, Pw.k_xDGet12_ap, Pw.k_xDGet11_ap, Pw.xDGet1_ap, Pw.k_xDGet24_ap, Pw.k_xDGet23_ap, Pw.k_xDGet22_ap, Pw.k_xDGet21_ap, Pw.xDGet2_ap, Pw.xDNew_ap, Pw.k_xDPut5_ap, Pw.k_xDPut4_ap, Pw.k_xDPut3_ap, Pw.k_xDPut2_ap, Pw.k_xDPut1_ap, Pw.xDPut_ap, Pw.k_xDisp13_ap, Pw.k_xDisp12_ap, Pw.k_xDisp11_ap, Pw.xDisp1_ap, Pw.selD2_ap, Pw.k_xDUpd3_ap, Pw.k_xDUpd2_ap, Pw.k_xDUpd1_ap, Pw.xDUpd_ap, Pw.k_xDc3_ap, Pw.k_xDc2_ap, Pw.k_xDc1_ap, Pw.xDc_ap, Pw.k_dcK2_ap, Pw.k_dcK_ap, Pw.k_dc_ap, Pw.lk_in, Pw.lk_get1, Pw.ptK_nat, Pw.ptV_nat, Pw.xSortSet_ap, Pw.k_xListR2_ap, Pw.k_xListR1_ap, Pw.xListR_ap, Pw.k_xRep3_ap, Pw.k_xRep2_ap, Pw.k_xRep1_ap, Pw.xRep_ap, Pw.xTupleF_lst, Pw.k_isF_ap, Pw.k_xTI2_ap, Pw.k_xTI1_ap, Pw.k_xTI_ap, Pw.xTIndexP_ap, Pw.k_whN_ap, Pw.k_whB_ap, Pw.xInC_lstN, Pw.xInC_tupN, Pw.xInC_nilT, Pw.k_xPopAt6_ap, Pw.k_xPopAt5_ap, Pw.k_xPopAt4_ap, Pw.k_xPopAt3_ap, Pw.k_xPopAt2_ap, Pw.k_xPopAt1_ap, Pw.xPopAt_ap, Pw.k_xTru2_ap, Pw.k_xTru1_ap, Pw.xTru_ap, Pw.k_xPop2_ap, Pw.k_xPop1_ap, Pw.xPop_ap, Pw.k_xDInE4_ap, Pw.k_xDInE3_ap, Pw.k_xDInE2_ap, Pw.k_xDInE1_ap, Pw.xDInE_ap, Pw.k_xRevB2_ap, Pw.k_xRevB1_ap, Pw.xRevB_ap, Pw.xSortA_ap, Pw.k_xLcO2_ap, Pw.k_xLcO1_ap, Pw.xLcO_ap, List.length_cons, List.length_nil, List.length_map, List.length_range, List.length_append, List.length_reverse, List.length_set, List.cons_append, List.nil_append, List.append_nil, List.reduceReplicate, List.take_succ_cons, List.take_zero, List.map_cons, List.map_nil, Nat.reduceSub, Nat.reduceAdd, Nat.reduceLT, Nat.reduceLeDiff, Nat.reduceEqDiff, Int.reduceAdd, Int.reduceSub, Int.reduceMul, Int.reduceNeg, Int.reduceToNat, Int.reduceLT, Int.reduceLE, Int.reduceEq, Int.reducePow, Int.toNat_natCast, List.nodup_cons, List.nodup_nil, List.not_mem_nil, List.set_cons_zero, List.set_cons_succ, List.reverse_cons, List.reverse_nil, Nat.zero_add, Int.sub_zero, Int.zero_add, ne_eq, reduceCtorEq, not_false_eq_true, not_true_eq_false, true_and, and_true, and_self, decide_true, decide_false, Bool.not_true, Bool.not_false, Bool.false_xor, Bool.true_xor, Bool.xor_false, Bool.xor_true, decide_eq_true_eq, eq_self, Nat.le_refl, Nat.zero_le, if_true, if_false, ite_true, ite_false, Bool.false_eq_true, reduceIte, reduceDIte, Int.lt_irrefl, Int.le_refl, ge_iff_le, gt_iff_lt, Pw.rng_snoc, Pw.selN_fre, Pw.selO_fre, Pw.getD_rng, Pw.selX_nat, Pw.rowD_rng, Pw.getD_rng0, Pw.xMin_map, Pw.xMin_mapT, Pw.xMax_map, Pw.xMax_mapT, Pw.sm_nat, Pw.lk_get, Pw.selN_nio, *])
/-- the length of the shortest row, 0 if there is none -/
def IsMin (ws : List (List Nat)) (d : Nat) : Prop := (ws = [] ∧ d = 0) ∨ ∃ r ∈ ws, r.length = d ∧ ∀ r' ∈ ws, d ≤ r'.length
theorem min_head {ws : List (List Nat)} {ys : List Int} (hp : ys.Perm (ws.map fun r => ((r.length : Nat) : Int))) (hs : ys.Pairwise (· ≤ ·)) : ∃ d : Nat, IsMin ws d ∧ ∀ R : D → Prop, Pw.getD (ys.map D.int ++ [D.int 0]) 0 R = R (.int (d : Nat)) := by
  cases ys with
  | nil =>
    have : ws = [] := by simpa using hp.symm.eq_nil
    exact ⟨0, .inl ⟨this, rfl⟩, fun R => getD_zero⟩
  | cons y t =>
    obtain ⟨r, hr, e⟩ := List.mem_map.mp (hp.mem_iff.mp (List.mem_cons_self (a := y) (l := t)))
    refine ⟨r.length, .inr ⟨r, hr, rfl, fun r' hr' => ?_⟩, fun R => ?_⟩
    · have h1 := hp.mem_iff.mpr (List.mem_map.mpr ⟨r', hr', rfl⟩)
      rcases List.mem_cons.mp h1 with z | z
      · rw [← z] at e; omega
      · have := (List.pairwise_cons.mp hs).1 _ z
        omega
    · rw [List.map_cons, List.cons_append, ← e]
      exact getD_zero
section
variable {m : Nat} {nd : Nat → Int} {o : Nat → List Nat}
theorem round_min (P : P1 m nd o) {k : Nat} (hk : k < m) {ws : List (List Nat)} (h : Ws m nd o k ws) {d : Nat} (hd : IsMin ws d) {l : List Nat} {F : Nat → Nat} (hR : RF m nd o [] [] l F) : d = if k ∈ l then F k else 0 := by
  by_cases hl : k ∈ l
  · rw [if_pos hl]
    obtain ⟨w, x, hw, hx, _, _, hlen⟩ := up hR P.one (F k) k (Nat.le_refl _) hl
    have hx0 : nd x = 0 := hx.resolve_left (by simp)
    obtain ⟨r, hr, hp⟩ := h.all hw hx0
    have hlen := hlen rfl
    rcases hd with ⟨z, _⟩ | ⟨r', h1, h2, h3⟩
    · rw [z] at hr; cases hr
    · have h4 := h3 r hr
      have h5 := hp.length_eq
      obtain ⟨_, _, _, _, w2, x2, hw2, hx2, hp2⟩ := h.mem P hk h1
      have h6 := hp2.length_eq
      have hxm := hw2.lt P.p.lt hk x2 hw2.last_mem
      obtain ⟨b1, b2⟩ := rf_base hR hxm (by simp) hx2
      have h7 := (down hR P.p.lt (fun k hk => by rcases P.one k hk with z | z <;> omega) hk hw2 b1 (by simp)).2
      omega
  · rw [if_neg hl]
    rcases hd with ⟨_, z⟩ | ⟨r', h1, _, _⟩
    · exact z
    · obtain ⟨_, _, _, _, w2, x2, hw2, hx2, _⟩ := h.mem P hk h1
      exact absurd ((rf_bk P hk hR).mpr (bk_nil.mpr ⟨w2, x2, hw2, hx2⟩)) hl
theorem kept_eq (P : P1 m nd o) {wf : Nat → List (List Nat)} (hws : ∀ k, k < m → Ws m nd o k (wf k)) {l zs : List Nat} {F : Nat → Nat} (hR : RF m nd o [] [] l F) (hz : zs.Perm l) (hs : zs.Pairwise (· < ·)) :
    zs = (List.range m).filter fun k => decide (0 < (((wf k).length : Nat) : Int)) := by
  refine sorted_eq hs fil_sorted fun k => ?_
  rw [hz.mem_iff, List.mem_filter, List.mem_range, decide_eq_true_iff]
  constructor
  · intro hl
    have hk := hR.lt k hl
    refine ⟨hk, ?_⟩
    obtain ⟨w, x, hw, hx⟩ := bk_nil.mp ((rf_bk P hk hR).mp hl)
    obtain ⟨r, hr, _⟩ := (hws k hk).all hw hx
    have := List.length_pos_of_mem hr
    omega
  · rintro ⟨hk, hl⟩
    obtain ⟨r, hr⟩ := List.exists_mem_of_length_pos (show 0 < (wf k).length by omega)
    obtain ⟨_, _, _, _, w, x, hw, hx, _⟩ := (hws k hk).mem P hk hr
    exact (rf_bk P hk hR).mpr (bk_nil.mpr ⟨w, x, hw, hx⟩)
theorem keepers_eq (P : P1 m nd o) {q : Nat} (hq : q < m) {ws : List (List Nat)} (h : Ws m nd o q ws) {L : List (List Nat)} (hL : L.Pairwise fun a b => leN a b = true) (hm : ∀ r, r ∈ L ↔ (Asc r ∧ ∀ x ∈ r, x < m) ∧ q ∈ r ∧ Kp nd o q r) : lea L = wl ws := by
  refine lea_eq roN hL srt_pw (fun r hr => ((hm r).mp hr).1.1) (fun r hr => (h.mem P hq (srt_mem.mp hr)).1) (fun r hr => ?_) fun r hr => ?_
  · obtain ⟨_, _, w, x, hw, hx, hall⟩ := (hm r).mp hr
    obtain ⟨s, hs, hp⟩ := h.all hw hx
    exact ⟨s, srt_mem.mpr hs, fun z hz => hall z (hp.mem_iff.mp hz)⟩
  · obtain ⟨h1, h2, _, h4, w, x, hw, hx, hp⟩ := h.mem P hq (srt_mem.mp hr)
    exact ⟨r, (hm r).mpr ⟨⟨h1, h2⟩, h4, w, x, hw, hx, fun y hy => hp.mem_iff.mpr hy⟩, fun z hz => hz⟩
theorem breakers_eq (P : P1 m nd o) {q : Nat} (hq : q < m) {ws : List (List Nat)} (h : Ws m nd o q ws) {L M : List (List Nat)} (hL : L.Pairwise fun a b => leN a b = true) (hm : ∀ r, r ∈ L ↔ (Asc r ∧ ∀ x ∈ r, x < m) ∧ q ∉ r ∧ ¬ Bk nd o q r)
    (hM : ∀ r, r ∈ M ↔ (Asc r ∧ Sub r ((List.range m).filter fun k => !decide (((k : Nat) : Int) = (q : Nat)))) ∧ ((wl ws).all fun way => way.any fun k => decide (k ∈ r)) = true) : lea L = lea (M.mergeSort leN) := by
  have same : ∀ r, r ∈ L ↔ r ∈ M := fun r => by
    rw [hm, hM]
    have hsub : ∀ {z : Nat}, z ∈ (List.range m).filter (fun k => !decide (((k : Nat) : Int) = (q : Nat))) ↔ z < m ∧ z ≠ q := fun {z} => by
      rw [List.mem_filter, List.mem_range, Bool.not_eq_true', decide_eq_false_iff_not]
      constructor
      · rintro ⟨h1, h2⟩; exact ⟨h1, fun e => h2 (by rw [e])⟩
      · rintro ⟨h1, h2⟩; exact ⟨h1, fun e => h2 (by omega)⟩
    constructor
    · rintro ⟨⟨h1, h2⟩, h3, h4⟩
      refine ⟨⟨h1, fun z hz => hsub.mpr ⟨h2 z hz, fun e => h3 (e ▸ hz)⟩⟩, List.all_eq_true.mpr fun way hw => ?_⟩
      obtain ⟨_, _, _, _, w, x, hw2, hx, hp⟩ := h.mem P hq (wl_in hw)
      rw [List.any_eq_true]
      by_cases hc : ∃ k ∈ way, k ∈ r
      · obtain ⟨k, h5, h6⟩ := hc
        exact ⟨k, h5, decide_eq_true h6⟩
      · exact absurd ⟨w, x, hw2, hx, fun y hy z => hc ⟨y, hp.mem_iff.mpr hy, z⟩⟩ h4
    · rintro ⟨⟨h1, h2⟩, h3⟩
      refine ⟨⟨h1, fun z hz => (hsub.mp (h2 z hz)).1⟩, fun z => (hsub.mp (h2 q z)).2 rfl, ?_⟩
      rintro ⟨w, x, hw, hx, hall⟩
      obtain ⟨s, hs, hp⟩ := h.all hw hx
      obtain ⟨z, hz, hzs⟩ := wl_below P hq h hs
      obtain ⟨k, h4, h5⟩ := List.any_eq_true.mp (List.all_eq_true.mp h3 z hz)
      exact hall k (hp.mem_iff.mp (hzs k h4)) (of_decide_eq_true h5)
  refine lea_eq roN hL srt_pw (fun r hr => ((hm r).mp hr).1.1) (fun r hr => ((hM r).mp (srt_mem.mp hr)).1.1) (fun r hr => ⟨r, srt_mem.mpr ((same r).mp hr), fun _ h => h⟩) fun r hr => ⟨r, (same r).mpr (srt_mem.mp hr), fun _ h => h⟩
end
theorem law_true {ns : List Int} (h63 : ns.length ≤ 63) : x_law [.val (.fro ns)] fun d _ => d = .bl true := by
  have hs4 : Sm 4 := ⟨by decide, by decide⟩
  unfold x_law xb_law
  walk_at "pz"
  refine lawstream_ok h63 fun L f hL hL2 => ?_
  walk_at "pz"
  refine for_rng (fun i E => ∃ (c : Nat) (s2 s3 s4 s5 s6 s7 s8 s9 s10 s11 s12 s13 s14 s15 : Sl), E = [.val (.fro ns), .own false (stD L f c), s2, s3, s4, s5, s6, s7, s8, s9, s10, s11, s12, s13, s14, s15] ∧ c ≤ 1000 * i ∧
    fre s2 ∧ fre s3 ∧ fre s4 ∧ fre s5 ∧ fre s6 ∧ fre s7 ∧ fre s8 ∧ fre s9 ∧ fre s10 ∧ fre s11 ∧ fre s12 ∧ fre s13 ∧ fre s14 ∧ fre s15)
    ⟨0, _, _, _, _, _, _, _, _, _, _, _, _, _, _, rfl, Nat.le_refl _, fre_un, fre_un, fre_un, fre_un, fre_un, fre_un, fre_un, fre_un, fre_un, fre_un, fre_un, fre_un, fre_un, fre_un⟩ (fun i hi E hE nx hnx => ?_) (fun E hE => ?_)
  · obtain ⟨c, s2, s3, s4, s5, s6, s7, s8, s9, s10, s11, s12, s13, s14, s15, rfl, hc, f2, f3, f4, f5, f6, f7, f8, f9, f10, f11, f12, f13, f14, f15⟩ := hE
    walk_at "pz"
    refine lawones_ok hL hL2 (by omega) fun c1 m nd o hc1 P => ?_
    have hm := P.m7
    have hm1 := P.m1
    have hsm : Sm (m : Int) := sm_nat (by omega)
    walk_at "pz"
    refine lawnext_ok (M := m) hL hL2 (by omega) (by omega) fun q hq => ?_
    walk_at "pz"
    refine lc_inv (fun j acc E => ∃ wf : Nat → List (List Nat), E = [.val (.fro ns), .own false (stD L f (c1 + 1)), .val (.int ((i : Nat) : Int)), .val (prD m nd o), .val (.int ((m : Nat) : Int)), .val (.int ((q : Nat) : Int)), s6, .un, s8, s9, s10, s11, s12, s13, s14, s15] ∧ acc = (List.range j).map (fun k => D.lst ((wf k).map natT)) ∧ ∀ k, k < j → Ws m nd o k (wf k))
      ⟨fun _ => [], rfl, rfl, fun k h => absurd h (Nat.not_lt_zero _)⟩ (by omega) (fun j hj acc E hE kk hk => ?_) (fun acc E hlen hE => ?_)
    · obtain ⟨wf, rfl, rfl, hwf⟩ := hE
      walk_at "pz"
      refine lawways_ok P hj fun ws hd hl => ?_
      have := hk (.lst (ws.map natT)) [.val (.fro ns), .own false (stD L f (c1 + 1)), .val (.int ((i : Nat) : Int)), .val (prD m nd o), .val (.int ((m : Nat) : Int)), .val (.int ((q : Nat) : Int)), s6, .val (.int ((j : Nat) : Int)), s8, s9, s10, s11, s12, s13, s14, s15]
        ⟨fun k => if k = j then ws else wf k, rfl, by
          rw [rng_push]
          refine List.map_congr_left fun k _ => ?_
          by_cases h : k = j
          · simp only [if_pos h]
          · simp only [if_neg h], fun k hk => by
          by_cases h : k = j
          · simp only [if_pos h]; subst h; exact ⟨hd, hl⟩
          · simp only [if_neg h]; exact hwf k (by omega)⟩ (fun _ h => h)
      clear hk
      walk_at "pz"
    · obtain ⟨wf, rfl, rfl, hws⟩ := hE
      walk_at "pz"
      refine kept_ok P.p fun l F hR zs hz hzs => ?_
      have ez := kept_eq P hws hR hz hzs
      have hzm : ∀ x ∈ zs, x < m := fun x hx => hR.lt x (hz.mem_iff.mp hx)
      clear hR hz hzs
      walk_at "pz"
      clear ez hzm
      refine lc_fil (fun k => decide (0 < (((wf k).length : Nat) : Int))) (fun x => D.int ((x : Nat) : Int)) (fun x hx kk kf hk hkf => ?_) (by simp; omega) ?_
      · have hxm := List.mem_range.mp hx
        walk_at "pz"
        by_cases h3 : 0 < (((wf x).length : Nat) : Int)
        · have := hk (decide_eq_true h3)
          clear hk hkf
          walk_at "pz"
          exact this _ ⟨rfl, fun _ h => h⟩
        · have := hkf (decide_eq_false h3)
          clear hk hkf
          walk_at "pz"
          exact this _ ⟨rfl, fun _ h => h⟩
      rw [List.nil_append]
      walk_at "pz"
      refine eq_natt (fun x hx => by have := List.mem_range.mp (List.mem_filter.mp hx).1; omega) ?_
      walk_at "pz"
      refine lc_inv (fun j acc E => ∃ dF : Nat → Nat, E = [.val (.fro ns), .own false (stD L f (c1 + 1)), .val (.int ((i : Nat) : Int)), .val (prD m nd o), .val (.int ((m : Nat) : Int)), .val (.int ((q : Nat) : Int)), .val (.lst ((List.range m).map fun k => D.lst ((wf k).map natT))), s7, s8, s9, .un, s11, s12, s13, s14, s15] ∧ acc = (List.range j).map (fun k => D.int ((dF k : Nat) : Int)) ∧ ∀ k, k < j → IsMin (wf k) (dF k))
        ⟨fun _ => 0, rfl, rfl, fun k h => absurd h (Nat.not_lt_zero _)⟩ (by omega) (fun j hj acc E hE kk hk => ?_) (fun acc E hlen hE => ?_)
      · obtain ⟨dF, rfl, rfl, hdF⟩ := hE
        have hwj := hws j hj
        have hwr : ∀ r ∈ wf j, r.length ≤ 7 := fun r hr => (hwj.mem P hj hr).2.2.1
        have hwl := hwj.l
        walk_at "pz"
        refine lc_map (e := natT) (fun r => .int ((r.length : Nat) : Int)) (fun r hr kk2 hk2 => ?_) (by simp; omega) ?_
        · clear hwr
          walk_at "pz"
          exact hk2 _ ⟨rfl, fun _ h => h⟩
        rw [List.nil_append]
        walk_at "pz"
        refine xSortI_map (f := fun r : List Nat => ((r.length : Nat) : Int)) fun ys hp hs => ?_
        obtain ⟨d, hd, hget⟩ := min_head hp hs
        have hyl : ys.length ≤ 200000 := by rw [hp.length_eq, List.length_map]; exact hwl
        clear hp hs
        have hk := hk (.int ((d : Nat) : Int)) [.val (.fro ns), .own false (stD L f (c1 + 1)), .val (.int ((i : Nat) : Int)), .val (prD m nd o), .val (.int ((m : Nat) : Int)), .val (.int ((q : Nat) : Int)), .val (.lst ((List.range m).map fun k => D.lst ((wf k).map natT))), s7, s8, s9, .val (.lst ((wf j).map natT)), s11, s12, s13, s14, s15]
          ⟨fun k => if k = j then d else dF k, rfl, by
            rw [rng_push]
            refine List.map_congr_left fun k _ => ?_
            by_cases h : k = j
            · simp only [if_pos h]
            · simp only [if_neg h], fun k hk => by
            by_cases h : k = j
            · simp only [if_pos h]; subst h; exact hd
            · simp only [if_neg h]; exact hdF k (by omega)⟩ (fun _ h => h)
        walk_at "pz"
        omega
      obtain ⟨dF, rfl, rfl, hdF⟩ := hE
      walk_at "pz"
      refine rounds_ok P.p fun l F hR => ?_
      have er : ((List.range m).map fun k => D.int ((if k ∈ l then F k else 0 : Nat) : Int)) = (List.range m).map fun k => D.int ((dF k : Nat) : Int) := List.map_congr_left fun k hk => by
        have hk := List.mem_range.mp hk
        rw [round_min P hk (hws k hk) (hdF k hk) hR]
      have hdm : ∀ k, k < m → dF k ≤ m + 2 := fun k hk => by
        rw [round_min P hk (hws k hk) (hdF k hk) hR]
        split
        · rename_i h; exact hR.bd k h
        · omega
      rw [er]
      clear er hR hdF
      walk_at "pz"
      refine eq_intt (fun k hk => by have := hdm k hk; omega) ?_
      have hW := hws q hq
      have hwl := hW.l
      have hwr : ∀ r ∈ wf q, r.length ≤ 7 := fun r hr => (hW.mem P hq hr).2.2.1
      have hwb : ∀ r ∈ wl (wf q), r.length ≤ 100 ∧ ∀ x ∈ r, x < 10 ^ 12 := fun r hr => by
        obtain ⟨_, h2, h3, _⟩ := hW.mem P hq (wl_in hr)
        exact ⟨by omega, fun z hz => by have := h2 z hz; omega⟩
      have hwll : (wl (wf q)).length ≤ 200000 := by
        have := lea_len (rows := (wf q).mergeSort leN) (acc := [])
        rw [List.length_mergeSort, List.length_nil, Nat.zero_add] at this
        exact Nat.le_trans this hwl
      walk_at "pz"
      refine lawleast_ok (by omega) (fun r hr => by have := hwr r hr; omega) ?_
      rw [show lea ((wf q).mergeSort leN) = wl (wf q) from rfl]
      walk_at "pz"
      refine least_keepers_ok P hq fun L1 hL1 hm1 hl1 => ?_
      rw [keepers_eq P hq hW hL1 hm1]
      clear hL1 hm1 hl1
      walk_at "pz"
      refine eq_rows hwb ?_
      walk_at "pz"
      refine lc_fil (fun k => !decide (((k : Nat) : Int) = (q : Nat))) (fun x => D.int ((x : Nat) : Int)) (fun x hx kk kf hk hkf => ?_) (by simp; omega) ?_
      · by_cases hya : ((x : Nat) : Int) = (q : Nat)
        · have := hkf (by simp [hya])
          clear hk hkf
          walk_at "pz"
          exact this _ ⟨rfl, fun _ h => h⟩
        · have := hk (by simp [hya])
          clear hk hkf
          walk_at "pz"
          exact this _ ⟨rfl, fun _ h => h⟩
      rw [List.nil_append]
      have hOa : Asc ((List.range m).filter fun k => !decide (((k : Nat) : Int) = (q : Nat))) := fil_sorted
      have hOm : ∀ x ∈ ((List.range m).filter fun k => !decide (((k : Nat) : Int) = (q : Nat))), x < m := fun x hx => List.mem_range.mp (List.mem_filter.mp hx).1
      have hOl := asc_len hOa hOm
      have hbr := fun (L2 M : List (List Nat)) (h1 : L2.Pairwise fun a b => leN a b = true) h2 => breakers_eq P hq hW (M := M) h1 h2
      generalize ((List.range m).filter fun k => !decide (((k : Nat) : Int) = (q : Nat))) = OL at *
      walk_at "pz"
      refine lawsubsets_ok (by omega) hOa ?_
      have hsb : ∀ r, r ∈ (subL OL).mergeSort leN ↔ Asc r ∧ Sub r OL := fun r => srt_mem.trans (subL_mem hOa r)
      have hsl : ((subL OL).mergeSort leN).length ≤ 256 := by
        have h1 := subL_len OL.reverse
        rw [List.reverse_reverse, List.length_reverse] at h1
        rw [List.length_mergeSort, h1]
        have := Nat.pow_le_pow_right (n := 2) (by decide) (show OL.length ≤ 8 by omega)
        simpa using this
      generalize (subL OL).mergeSort leN = SB at *
      walk_at "pz"
      refine lc_fil (e := natT) (fun r => (wl (wf q)).all fun way => way.any fun k => decide (k ∈ r)) natT (fun r hr kk kf hk hkf => ?_) (by simp; omega) ?_
      · clear hbr
        walk_at "pz"
        refine lc_map (e := natT) (fun way => .bl (way.any fun k => decide (k ∈ r))) (fun way hway kk2 hk2 => ?_) (by simp; omega) ?_
        · have hwy := (hwb way hway).1
          walk_at "pz"
          refine lc_map (fun k => .bl (decide (k ∈ r))) (fun k hkm kk3 hk3 => ?_) (by simp; omega) ?_
          · walk_at "pz"
            exact hk3 _ ⟨rfl, fun _ h => h⟩
          · rw [List.nil_append]
            walk_at "pz"
            exact hk2 _ ⟨rfl, fun _ h => h⟩
        · rw [List.nil_append]
          walk_at "pz"
          cases hc : (wl (wf q)).all fun way => way.any fun k => decide (k ∈ r) with
          | true =>
            have := hk hc
            clear hk hkf
            walk_at "pz"
            exact this _ ⟨rfl, fun _ h => h⟩
          | false =>
            have := hkf hc
            clear hk hkf
            walk_at "pz"
            exact this _ ⟨rfl, fun _ h => h⟩
      rw [List.nil_append]
      have hM : ∀ r, r ∈ SB.filter (fun r => (wl (wf q)).all fun way => way.any fun k => decide (k ∈ r)) ↔ (Asc r ∧ Sub r OL) ∧ ((wl (wf q)).all fun way => way.any fun k => decide (k ∈ r)) = true := fun r => by rw [List.mem_filter, hsb]
      have hMl := List.length_filter_le (fun r : List Nat => (wl (wf q)).all fun way => way.any fun k => decide (k ∈ r)) SB
      generalize SB.filter (fun r => (wl (wf q)).all fun way => way.any fun k => decide (k ∈ r)) = M at *
      have hbr2 := fun L2 h1 h2 => hbr L2 M h1 h2 hM
      have hMr : ∀ r ∈ M, r.length ≤ 100 ∧ ∀ x ∈ r, x < 10 ^ 12 := fun r hr => by
        obtain ⟨⟨h1, h2⟩, _⟩ := (hM r).mp hr
        have h3 : ∀ x ∈ r, x < m := fun x hx => hOm x (h2 x hx)
        have := asc_len h1 h3
        exact ⟨by omega, fun x hx => by have := h3 x hx; omega⟩
      clear hbr hM hsb
      walk_at "pz"
      refine least_breakers_ok P hq fun L2 hL2 hm2 hl2 => ?_
      rw [hbr2 L2 hL2 hm2]
      clear hL2 hm2 hl2 hbr2
      walk_at "pz"
      refine lawleast_ok (by omega) (fun r hr => (hMr r hr).1) ?_
      walk_at "pz"
      refine eq_rows (fun r hr => hMr r (srt_mem.mp (lea_in hr))) ?_
      walk_at "pz"
      have T := tail_ok (XD := { nx := nx, rt := k_fnRt 1 fun d x => d = D.bl true, bk := xRet (xC (D.bl true)) { nx := k_fnNx 1 fun d x => d = D.bl true, rt := k_fnRt 1 fun d x => d = D.bl true, bk := kNo, ct := kNo }, ct := nx })
        (s0 := .val (.fro ns)) (s1 := .own false (stD L f (c1 + 1))) (s2 := .val (.int ((i : Nat) : Int))) (s7 := s7) (s8 := .val (.tup ((List.range m).map fun k => D.int ((dF k : Nat) : Int)))) (s9 := s9) (s11 := .val (.lst (OL.map fun x => D.int ((x : Nat) : Int)))) (s12 := .val (.lst (M.map natT))) (s13 := s13) (s14 := s14) (s15 := s15)
        P hq hws f7 f13 f14 f15 fun u7 u13 u14 u15 h7 h13 h14 h15 => hnx _ ⟨c1 + 1, _, _, _, _, _, _, _, _, _, _, _, _, _, _, rfl, by omega, fre_val, fre_val, fre_val, fre_val, fre_val, h7, fre_val, f9, fre_val, fre_val, fre_val, h13, h14, h15⟩
      unfold xb_tail xb_told xb_made xb_last at T
      clear hnx
      revert T
      walk_at "pz"
      exact id
  · obtain ⟨c, s2, s3, s4, s5, s6, s7, s8, s9, s10, s11, s12, s13, s14, s15, rfl, hc, f2, f3, f4, f5, f6, f7, f8, f9, f10, f11, f12, f13, f14, f15⟩ := hE
    walk_at "pz"
end K99
end

set_option maxRecDepth 100000
set_option maxHeartbeats 4000000
namespace K99
open PySem L2 Pw
theorem all_mk {l : PySem.W.OpenLaw} {w : World} {K : PySem.W.Frag} {h : Heap} {mg : Str → Option Value} {fa : Addr} (X : K.In h) (G : h.Ns mainGlobals mg) (hfa : mg "law" = some (.ref fa))
    {f0 f1 f2 f3 f4 f5 f6 f7 f8 f9 f10 f11 f12 f13 f14 f15 f16 f17 f18 f19 f20 f21 f22 f23 f24 : Addr} {od0 an0 od1 an1 od2 an2 od3 an3 od4 an4 od5 an5 od6 an6 od7 an7 od8 an8 od9 an9 od10 an10 od11 an11 od12 an12 od13 an13 od14 an14 od15 an15 od16 an16 od17 an17 od18 an18 od19 an19 od20 an20 od21 an21 od22 an22 od23 an23 od24 an24 : Option Addr} {sl0 sl1 sl2 sl3 sl4 sl5 sl6 sl7 sl8 sl9 sl10 sl11 sl12 sl13 sl14 sl15 sl16 sl17 sl18 sl19 sl20 sl21 sl22 sl23 sl24 : Array (Option Value)} {oc0 kV0 dc0 pm0 cd0 ct0 oc1 kV1 dc1 pm1 cd1 ct1 oc2 kV2 dc2 pm2 cd2 ct2 oc3 kV3 dc3 pm3 cd3 ct3 oc4 kV4 dc4 pm4 cd4 ct4 oc5 kV5 dc5 pm5 cd5 ct5 oc6 kV6 dc6 pm6 cd6 ct6 oc7 kV7 dc7 pm7 cd7 ct7 oc8 kV8 dc8 pm8 cd8 ct8 oc9 kV9 dc9 pm9 cd9 ct9 oc10 kV10 dc10 pm10 cd10 ct10 oc11 kV11 dc11 pm11 cd11 ct11 oc12 kV12 dc12 pm12 ct12 oc13 kV13 dc13 pm13 cd13 ct13 oc14 kV14 dc14 pm14 cd14 ct14 oc15 kV15 dc15 pm15 cd15 ct15 oc16 kV16 dc16 pm16 cd16 ct16 oc17 kV17 dc17 pm17 cd17 ct17 oc18 kV18 dc18 pm18 ct18 oc19 kV19 dc19 pm19 cd19 ct19 oc20 kV20 dc20 pm20 cd20 ct20 oc21 kV21 dc21 pm21 cd21 ct21 oc22 kV22 dc22 pm22 cd22 ct22 oc23 kV23 dc23 pm23 cd23 ct23 oc24 kV24 dc24 pm24 cd24 ct24 : Value} {t_MAX_HUNG t_MAX_PROMISES : Tok} {q12 p12 : Addr} {ow12 : Value} {ov12 : Option Addr} {vs12 : Array Value} {sw12 : Array (Option Value)} {q18 p18 : Addr} {ow18 : Value} {ov18 : Option Addr} {vs18 : Array Value} {sw18 : Array (Option Value)}
    (a0 : PySem.W.nsIn K mainGlobals "_law_stream" = some (some (.ref f0))) (l0 : K.lookup f0 = some ⟨oc0, od0, .func (PySem.W.fnOf "_law_stream" "_law_stream" (defArgs s__law_stream) (defBody s__law_stream) (defScope s__law_stream) .none kV0 dc0 pm0 an0 cd0 ct0), sl0⟩) (c0 : PySem.W.codeIn K cd0 "_law_stream" = true) (k0 : PySem.W.keepIn K (.ref f0) = true)
    (a1 : PySem.W.nsIn K mainGlobals "_law_next" = some (some (.ref f1))) (l1 : K.lookup f1 = some ⟨oc1, od1, .func (PySem.W.fnOf "_law_next" "_law_next" (defArgs s__law_next) (defBody s__law_next) (defScope s__law_next) .none kV1 dc1 pm1 an1 cd1 ct1), sl1⟩) (c1 : PySem.W.codeIn K cd1 "_law_next" = true) (k1 : PySem.W.keepIn K (.ref f1) = true)
    (a2 : PySem.W.nsIn K mainGlobals "_law_ones" = some (some (.ref f2))) (l2 : K.lookup f2 = some ⟨oc2, od2, .func (PySem.W.fnOf "_law_ones" "_law_ones" (defArgs s__law_ones) (defBody s__law_ones) (defScope s__law_ones) .none kV2 dc2 pm2 an2 cd2 ct2), sl2⟩) (c2 : PySem.W.codeIn K cd2 "_law_ones" = true) (k2 : PySem.W.keepIn K (.ref f2) = true)
    (a3 : PySem.W.nsIn K mainGlobals "_law_ways" = some (some (.ref f3))) (l3 : K.lookup f3 = some ⟨oc3, od3, .func (PySem.W.fnOf "_law_ways" "_law_ways" (defArgs s__law_ways) (defBody s__law_ways) (defScope s__law_ways) .none kV3 dc3 pm3 an3 cd3 ct3), sl3⟩) (c3 : PySem.W.codeIn K cd3 "_law_ways" = true) (k3 : PySem.W.keepIn K (.ref f3) = true)
    (a4 : PySem.W.nsIn K mainGlobals "check_promise" = some (some (.ref f4))) (l4 : K.lookup f4 = some ⟨oc4, od4, .func (PySem.W.fnOf "check_promise" "check_promise" (defArgs s_check_promise) (defBody s_check_promise) (defScope s_check_promise) .none kV4 dc4 pm4 an4 cd4 ct4), sl4⟩) (c4 : PySem.W.codeIn K cd4 "check_promise" = true) (k4 : PySem.W.keepIn K (.ref f4) = true)
    (a5 : PySem.W.nsIn K mainGlobals "check_promises" = some (some (.ref f5))) (l5 : K.lookup f5 = some ⟨oc5, od5, .func (PySem.W.fnOf "check_promises" "check_promises" (defArgs s_check_promises) (defBody s_check_promises) (defScope s_check_promises) .none kV5 dc5 pm5 an5 cd5 ct5), sl5⟩) (c5 : PySem.W.codeIn K cd5 "check_promises" = true) (k5 : PySem.W.keepIn K (.ref f5) = true)
    (a6 : PySem.W.nsIn K mainGlobals "rounds_of" = some (some (.ref f6))) (l6 : K.lookup f6 = some ⟨oc6, od6, .func (PySem.W.fnOf "rounds_of" "rounds_of" (defArgs s_rounds_of) (defBody s_rounds_of) (defScope s_rounds_of) .none kV6 dc6 pm6 an6 cd6 ct6), sl6⟩) (c6 : PySem.W.codeIn K cd6 "rounds_of" = true) (k6 : PySem.W.keepIn K (.ref f6) = true)
    (a7 : PySem.W.nsIn K mainGlobals "kept" = some (some (.ref f7))) (l7 : K.lookup f7 = some ⟨oc7, od7, .func (PySem.W.fnOf "kept" "kept" (defArgs s_kept) (defBody s_kept) (defScope s_kept) .none kV7 dc7 pm7 an7 cd7 ct7), sl7⟩) (c7 : PySem.W.codeIn K cd7 "kept" = true) (k7 : PySem.W.keepIn K (.ref f7) = true)
    (a8 : PySem.W.nsIn K mainGlobals "rounds" = some (some (.ref f8))) (l8 : K.lookup f8 = some ⟨oc8, od8, .func (PySem.W.fnOf "rounds" "rounds" (defArgs s_rounds) (defBody s_rounds) (defScope s_rounds) .none kV8 dc8 pm8 an8 cd8 ct8), sl8⟩) (c8 : PySem.W.codeIn K cd8 "rounds" = true) (k8 : PySem.W.keepIn K (.ref f8) = true)
    (a9 : PySem.W.nsIn K mainGlobals "_law_least" = some (some (.ref f9))) (l9 : K.lookup f9 = some ⟨oc9, od9, .func (PySem.W.fnOf "_law_least" "_law_least" (defArgs s__law_least) (defBody s__law_least) (defScope s__law_least) .none kV9 dc9 pm9 an9 cd9 ct9), sl9⟩) (c9 : PySem.W.codeIn K cd9 "_law_least" = true) (k9 : PySem.W.keepIn K (.ref f9) = true)
    (a10 : PySem.W.nsIn K mainGlobals "check_number" = some (some (.ref f10))) (l10 : K.lookup f10 = some ⟨oc10, od10, .func (PySem.W.fnOf "check_number" "check_number" (defArgs s_check_number) (defBody s_check_number) (defScope s_check_number) .none kV10 dc10 pm10 an10 cd10 ct10), sl10⟩) (c10 : PySem.W.codeIn K cd10 "check_number" = true) (k10 : PySem.W.keepIn K (.ref f10) = true)
    (a11 : PySem.W.nsIn K mainGlobals "check_few" = some (some (.ref f11))) (l11 : K.lookup f11 = some ⟨oc11, od11, .func (PySem.W.fnOf "check_few" "check_few" (defArgs s_check_few) (defBody s_check_few) (defScope s_check_few) .none kV11 dc11 pm11 an11 cd11 ct11), sl11⟩) (c11 : PySem.W.codeIn K cd11 "check_few" = true) (k11 : PySem.W.keepIn K (.ref f11) = true)
    (a12 : PySem.W.nsIn K mainGlobals "subsets" = some (some (.ref f12))) (l12 : K.lookup f12 = some ⟨oc12, od12, .func (PySem.W.fnOf "subsets" "subsets" (defArgs s_subsets) (defBody s_subsets) (defScope s_subsets) .none kV12 dc12 pm12 an12 (.ref q12) ct12), sl12⟩) (c12 : PySem.W.codeIn K (.ref q12) "subsets" = true) (k12 : PySem.W.keepIn K (.ref f12) = true)
    (a13 : PySem.W.nsIn K mainGlobals "least_of" = some (some (.ref f13))) (l13 : K.lookup f13 = some ⟨oc13, od13, .func (PySem.W.fnOf "least_of" "least_of" (defArgs s_least_of) (defBody s_least_of) (defScope s_least_of) .none kV13 dc13 pm13 an13 cd13 ct13), sl13⟩) (c13 : PySem.W.codeIn K cd13 "least_of" = true) (k13 : PySem.W.keepIn K (.ref f13) = true)
    (a14 : PySem.W.nsIn K mainGlobals "least_keepers" = some (some (.ref f14))) (l14 : K.lookup f14 = some ⟨oc14, od14, .func (PySem.W.fnOf "least_keepers" "least_keepers" (defArgs s_least_keepers) (defBody s_least_keepers) (defScope s_least_keepers) .none kV14 dc14 pm14 an14 cd14 ct14), sl14⟩) (c14 : PySem.W.codeIn K cd14 "least_keepers" = true) (k14 : PySem.W.keepIn K (.ref f14) = true)
    (a15 : PySem.W.nsIn K mainGlobals "_law_subsets" = some (some (.ref f15))) (l15 : K.lookup f15 = some ⟨oc15, od15, .func (PySem.W.fnOf "_law_subsets" "_law_subsets" (defArgs s__law_subsets) (defBody s__law_subsets) (defScope s__law_subsets) .none kV15 dc15 pm15 an15 cd15 ct15), sl15⟩) (c15 : PySem.W.codeIn K cd15 "_law_subsets" = true) (k15 : PySem.W.keepIn K (.ref f15) = true)
    (a16 : PySem.W.nsIn K mainGlobals "least_breakers" = some (some (.ref f16))) (l16 : K.lookup f16 = some ⟨oc16, od16, .func (PySem.W.fnOf "least_breakers" "least_breakers" (defArgs s_least_breakers) (defBody s_least_breakers) (defScope s_least_breakers) .none kV16 dc16 pm16 an16 cd16 ct16), sl16⟩) (c16 : PySem.W.codeIn K cd16 "least_breakers" = true) (k16 : PySem.W.keepIn K (.ref f16) = true)
    (a17 : PySem.W.nsIn K mainGlobals "is_order" = some (some (.ref f17))) (l17 : K.lookup f17 = some ⟨oc17, od17, .func (PySem.W.fnOf "is_order" "is_order" (defArgs s_is_order) (defBody s_is_order) (defScope s_is_order) .none kV17 dc17 pm17 an17 cd17 ct17), sl17⟩) (c17 : PySem.W.codeIn K cd17 "is_order" = true) (k17 : PySem.W.keepIn K (.ref f17) = true)
    (a18 : PySem.W.nsIn K mainGlobals "order_to" = some (some (.ref f18))) (l18 : K.lookup f18 = some ⟨oc18, od18, .func (PySem.W.fnOf "order_to" "order_to" (defArgs s_order_to) (defBody s_order_to) (defScope s_order_to) .none kV18 dc18 pm18 an18 (.ref q18) ct18), sl18⟩) (c18 : PySem.W.codeIn K (.ref q18) "order_to" = true) (k18 : PySem.W.keepIn K (.ref f18) = true)
    (a19 : PySem.W.nsIn K mainGlobals "least_makers" = some (some (.ref f19))) (l19 : K.lookup f19 = some ⟨oc19, od19, .func (PySem.W.fnOf "least_makers" "least_makers" (defArgs s_least_makers) (defBody s_least_makers) (defScope s_least_makers) .none kV19 dc19 pm19 an19 cd19 ct19), sl19⟩) (c19 : PySem.W.codeIn K cd19 "least_makers" = true) (k19 : PySem.W.keepIn K (.ref f19) = true)
    (a20 : PySem.W.nsIn K mainGlobals "is_stuck" = some (some (.ref f20))) (l20 : K.lookup f20 = some ⟨oc20, od20, .func (PySem.W.fnOf "is_stuck" "is_stuck" (defArgs s_is_stuck) (defBody s_is_stuck) (defScope s_is_stuck) .none kV20 dc20 pm20 an20 cd20 ct20), sl20⟩) (c20 : PySem.W.codeIn K cd20 "is_stuck" = true) (k20 : PySem.W.keepIn K (.ref f20) = true)
    (a21 : PySem.W.nsIn K mainGlobals "least_stuck" = some (some (.ref f21))) (l21 : K.lookup f21 = some ⟨oc21, od21, .func (PySem.W.fnOf "least_stuck" "least_stuck" (defArgs s_least_stuck) (defBody s_least_stuck) (defScope s_least_stuck) .none kV21 dc21 pm21 an21 cd21 ct21), sl21⟩) (c21 : PySem.W.codeIn K cd21 "least_stuck" = true) (k21 : PySem.W.keepIn K (.ref f21) = true)
    (a22 : PySem.W.nsIn K mainGlobals "stuck" = some (some (.ref f22))) (l22 : K.lookup f22 = some ⟨oc22, od22, .func (PySem.W.fnOf "stuck" "stuck" (defArgs s_stuck) (defBody s_stuck) (defScope s_stuck) .none kV22 dc22 pm22 an22 cd22 ct22), sl22⟩) (c22 : PySem.W.codeIn K cd22 "stuck" = true) (k22 : PySem.W.keepIn K (.ref f22) = true)
    (a23 : PySem.W.nsIn K mainGlobals "bears_itself" = some (some (.ref f23))) (l23 : K.lookup f23 = some ⟨oc23, od23, .func (PySem.W.fnOf "bears_itself" "bears_itself" (defArgs s_bears_itself) (defBody s_bears_itself) (defScope s_bears_itself) .none kV23 dc23 pm23 an23 cd23 ct23), sl23⟩) (c23 : PySem.W.codeIn K cd23 "bears_itself" = true) (k23 : PySem.W.keepIn K (.ref f23) = true)
    (a24 : PySem.W.nsIn K mainGlobals "law" = some (some (.ref f24))) (l24 : K.lookup f24 = some ⟨oc24, od24, .func (PySem.W.fnOf "law" "law" (defArgs s_law) (defBody s_law) (defScope s_law) .none kV24 dc24 pm24 an24 cd24 ct24), sl24⟩) (c24 : PySem.W.codeIn K cd24 "law" = true) (k24 : PySem.W.keepIn K (.ref f24) = true)
    (y12 : K.lookup q12 = some ⟨ow12, ov12, .fields vs12, sw12⟩) (w12 : (vs12[11]? : Option Value) = some (.ref p12)) (n12 : K.lookup p12 = none)
    (y18 : K.lookup q18 = some ⟨ow18, ov18, .fields vs18, sw18⟩) (w18 : (vs18[11]? : Option Value) = some (.ref p18)) (n18 : K.lookup p18 = none)
    (d18_12 : p18 ≠ p12)
    (z_story : PySem.W.nsIn K mainGlobals "story" = some none)
    (z_abs : PySem.W.nsIn K mainGlobals "abs" = some none)
    (z_all : PySem.W.nsIn K mainGlobals "all" = some none)
    (z_any : PySem.W.nsIn K mainGlobals "any" = some none)
    (z_enumerate : PySem.W.nsIn K mainGlobals "enumerate" = some none)
    (z_int : PySem.W.nsIn K mainGlobals "int" = some none)
    (z_len : PySem.W.nsIn K mainGlobals "len" = some none)
    (z_list : PySem.W.nsIn K mainGlobals "list" = some none)
    (z_range : PySem.W.nsIn K mainGlobals "range" = some none)
    (z_set : PySem.W.nsIn K mainGlobals "set" = some none)
    (z_sorted : PySem.W.nsIn K mainGlobals "sorted" = some none)
    (z_tuple : PySem.W.nsIn K mainGlobals "tuple" = some none)
    (v_MAX_HUNG : PySem.W.nsIn K mainGlobals "MAX_HUNG" = some (some (.int 9 t_MAX_HUNG)))
    (v_MAX_PROMISES : PySem.W.nsIn K mainGlobals "MAX_PROMISES" = some (some (.int 24 t_MAX_PROMISES)))
    : (∀ x ∈ lamNames, ∀ c P, PySem.W.tabIn K x = some (c, P) → K.lookup P = none) ∧ ∃ fd : FuncData, (∀ (s : Shared) (v : Value), BindsTo s fd ⟨[v], []⟩ [("script", v)]) ∧ ∀ base : Heap, K.In base → base.Ns mainGlobals mg → (∀ x ∈ lamNames, ∀ c P, PySem.W.tabIn K x = some (c, P) → LamX.TabB base mg c P) → FnOk l.prog w K mg base CX0 5 fa fd ["script"] (Pw.spLaw K) := by
  have e := hfa.symm.trans (PySem.W.mg_of X G a24)
  cases e
  have T : Txt K mg := ⟨PySem.W.mg_none_of X G z_abs, PySem.W.mg_none_of X G z_all, PySem.W.mg_none_of X G z_any, PySem.W.mg_none_of X G z_enumerate, PySem.W.mg_none_of X G z_int, PySem.W.mg_none_of X G z_len, PySem.W.mg_none_of X G z_list, PySem.W.mg_none_of X G z_range, PySem.W.mg_none_of X G z_set, PySem.W.mg_none_of X G z_sorted, PySem.W.mg_none_of X G z_tuple, ⟨_, PySem.W.mg_of X G v_MAX_HUNG⟩, ⟨_, PySem.W.mg_of X G v_MAX_PROMISES⟩⟩
  have F0 := fun_mk (st := s__law_stream) l0 c0 k0
  have A0 : At K mg "_law_stream" s__law_stream ["script"] _ _ := ⟨PySem.W.mg_of X G a0, F0, F0.binds (ps := ["script"]) fun _ _ _ _ _ _ us hl => match us, hl with | [_], _ => rfl⟩
  have F1 := fun_mk (st := s__law_next) l1 c1 k1
  have A1 : At K mg "_law_next" s__law_next ["state", "many"] _ _ := ⟨PySem.W.mg_of X G a1, F1, F1.binds (ps := ["state", "many"]) fun _ _ _ _ _ _ us hl => match us, hl with | [_, _], _ => rfl⟩
  have F2 := fun_mk (st := s__law_ones) l2 c2 k2
  have A2 : At K mg "_law_ones" s__law_ones ["state"] _ _ := ⟨PySem.W.mg_of X G a2, F2, F2.binds (ps := ["state"]) fun _ _ _ _ _ _ us hl => match us, hl with | [_], _ => rfl⟩
  have F3 := fun_mk (st := s__law_ways) l3 c3 k3
  have A3 : At K mg "_law_ways" s__law_ways ["promises", "number"] _ _ := ⟨PySem.W.mg_of X G a3, F3, F3.binds (ps := ["promises", "number"]) fun _ _ _ _ _ _ us hl => match us, hl with | [_, _], _ => rfl⟩
  have F4 := fun_mk (st := s_check_promise) l4 c4 k4
  have A4 : At K mg "check_promise" s_check_promise ["promises", "promise"] _ _ := ⟨PySem.W.mg_of X G a4, F4, F4.binds (ps := ["promises", "promise"]) fun _ _ _ _ _ _ us hl => match us, hl with | [_, _], _ => rfl⟩
  have F5 := fun_mk (st := s_check_promises) l5 c5 k5
  have A5 : At K mg "check_promises" s_check_promises ["promises"] _ _ := ⟨PySem.W.mg_of X G a5, F5, F5.binds (ps := ["promises"]) fun _ _ _ _ _ _ us hl => match us, hl with | [_], _ => rfl⟩
  have F6 := fun_mk (st := s_rounds_of) l6 c6 k6
  have A6 : At K mg "rounds_of" s_rounds_of ["promises", "broken", "made"] _ _ := ⟨PySem.W.mg_of X G a6, F6, F6.binds (ps := ["promises", "broken", "made"]) fun _ _ _ _ _ _ us hl => match us, hl with | [_, _, _], _ => rfl⟩
  have F7 := fun_mk (st := s_kept) l7 c7 k7
  have A7 : At K mg "kept" s_kept ["promises"] _ _ := ⟨PySem.W.mg_of X G a7, F7, F7.binds (ps := ["promises"]) fun _ _ _ _ _ _ us hl => match us, hl with | [_], _ => rfl⟩
  have F8 := fun_mk (st := s_rounds) l8 c8 k8
  have A8 : At K mg "rounds" s_rounds ["promises"] _ _ := ⟨PySem.W.mg_of X G a8, F8, F8.binds (ps := ["promises"]) fun _ _ _ _ _ _ us hl => match us, hl with | [_], _ => rfl⟩
  have F9 := fun_mk (st := s__law_least) l9 c9 k9
  have A9 : At K mg "_law_least" s__law_least ["rows"] _ _ := ⟨PySem.W.mg_of X G a9, F9, F9.binds (ps := ["rows"]) fun _ _ _ _ _ _ us hl => match us, hl with | [_], _ => rfl⟩
  have F10 := fun_mk (st := s_check_number) l10 c10 k10
  have A10 : At K mg "check_number" s_check_number ["promises", "number"] _ _ := ⟨PySem.W.mg_of X G a10, F10, F10.binds (ps := ["promises", "number"]) fun _ _ _ _ _ _ us hl => match us, hl with | [_, _], _ => rfl⟩
  have F11 := fun_mk (st := s_check_few) l11 c11 k11
  have A11 : At K mg "check_few" s_check_few ["promises", "number"] _ _ := ⟨PySem.W.mg_of X G a11, F11, F11.binds (ps := ["promises", "number"]) fun _ _ _ _ _ _ us hl => match us, hl with | [_, _], _ => rfl⟩
  have F12 := fun_mk (st := s_subsets) l12 c12 k12
  have A12 : At K mg "subsets" s_subsets ["count"] _ _ := ⟨PySem.W.mg_of X G a12, F12, F12.binds (ps := ["count"]) fun _ _ _ _ _ _ us hl => match us, hl with | [_], _ => rfl⟩
  have F13 := fun_mk (st := s_least_of) l13 c13 k13
  have A13 : At K mg "least_of" s_least_of ["rows"] _ _ := ⟨PySem.W.mg_of X G a13, F13, F13.binds (ps := ["rows"]) fun _ _ _ _ _ _ us hl => match us, hl with | [_], _ => rfl⟩
  have F14 := fun_mk (st := s_least_keepers) l14 c14 k14
  have A14 : At K mg "least_keepers" s_least_keepers ["promises", "number"] _ _ := ⟨PySem.W.mg_of X G a14, F14, F14.binds (ps := ["promises", "number"]) fun _ _ _ _ _ _ us hl => match us, hl with | [_, _], _ => rfl⟩
  have F15 := fun_mk (st := s__law_subsets) l15 c15 k15
  have A15 : At K mg "_law_subsets" s__law_subsets ["row"] _ _ := ⟨PySem.W.mg_of X G a15, F15, F15.binds (ps := ["row"]) fun _ _ _ _ _ _ us hl => match us, hl with | [_], _ => rfl⟩
  have F16 := fun_mk (st := s_least_breakers) l16 c16 k16
  have A16 : At K mg "least_breakers" s_least_breakers ["promises", "number"] _ _ := ⟨PySem.W.mg_of X G a16, F16, F16.binds (ps := ["promises", "number"]) fun _ _ _ _ _ _ us hl => match us, hl with | [_, _], _ => rfl⟩
  have F17 := fun_mk (st := s_is_order) l17 c17 k17
  have A17 : At K mg "is_order" s_is_order ["promises", "row"] _ _ := ⟨PySem.W.mg_of X G a17, F17, F17.binds (ps := ["promises", "row"]) fun _ _ _ _ _ _ us hl => match us, hl with | [_, _], _ => rfl⟩
  have F18 := fun_mk (st := s_order_to) l18 c18 k18
  have A18 : At K mg "order_to" s_order_to ["promises", "number"] _ _ := ⟨PySem.W.mg_of X G a18, F18, F18.binds (ps := ["promises", "number"]) fun _ _ _ _ _ _ us hl => match us, hl with | [_, _], _ => rfl⟩
  have F19 := fun_mk (st := s_least_makers) l19 c19 k19
  have A19 : At K mg "least_makers" s_least_makers ["promises", "number"] _ _ := ⟨PySem.W.mg_of X G a19, F19, F19.binds (ps := ["promises", "number"]) fun _ _ _ _ _ _ us hl => match us, hl with | [_, _], _ => rfl⟩
  have F20 := fun_mk (st := s_is_stuck) l20 c20 k20
  have A20 : At K mg "is_stuck" s_is_stuck ["promises", "some"] _ _ := ⟨PySem.W.mg_of X G a20, F20, F20.binds (ps := ["promises", "some"]) fun _ _ _ _ _ _ us hl => match us, hl with | [_, _], _ => rfl⟩
  have F21 := fun_mk (st := s_least_stuck) l21 c21 k21
  have A21 : At K mg "least_stuck" s_least_stuck ["promises", "number"] _ _ := ⟨PySem.W.mg_of X G a21, F21, F21.binds (ps := ["promises", "number"]) fun _ _ _ _ _ _ us hl => match us, hl with | [_, _], _ => rfl⟩
  have F22 := fun_mk (st := s_stuck) l22 c22 k22
  have A22 : At K mg "stuck" s_stuck ["promises"] _ _ := ⟨PySem.W.mg_of X G a22, F22, F22.binds (ps := ["promises"]) fun _ _ _ _ _ _ us hl => match us, hl with | [_], _ => rfl⟩
  have F23 := fun_mk (st := s_bears_itself) l23 c23 k23
  have A23 : At K mg "bears_itself" s_bears_itself ["promises", "some"] _ _ := ⟨PySem.W.mg_of X G a23, F23, F23.binds (ps := ["promises", "some"]) fun _ _ _ _ _ _ us hl => match us, hl with | [_, _], _ => rfl⟩
  have F24 := fun_mk (st := s_law) l24 c24 k24
  have A24 : At K mg "law" s_law ["script"] _ _ := ⟨PySem.W.mg_of X G a24, F24, F24.binds (ps := ["script"]) fun _ _ _ _ _ _ us hl => match us, hl with | [_], _ => rfl⟩
  have t12 : PySem.W.tabIn K "subsets" = some (q12, p12) := tabIn_of a12 l12 (by rfl) y12 w12
  have t18 : PySem.W.tabIn K "order_to" = some (q18, p18) := tabIn_of a18 l18 (by rfl) y18 w18
  have t_story : PySem.W.tabIn K "story" = none := tabIn_no z_story
  have nm : ∀ x ∈ lamNames, x = "subsets" ∨ x = "order_to" ∨ x = "story" := fun x hx => by simpa using hx
  refine ⟨fun x hx c P h => ?_, ?_⟩
  · rcases nm x hx with e | e | e <;> subst e
    · rw [t12] at h; cases h; exact n12
    · rw [t18] at h; cases h; exact n18
    · rw [t_story] at h; cases h
  have one12 : ∀ p ∈ Tb K, p.1 = p12 → p.2 = lamOf "subsets" := fun p hp e => by
    obtain ⟨x, hx, c, h1, h2⟩ := tb_mem.mp hp
    rcases nm x hx with e2 | e2 | e2 <;> subst e2
    · exact h2
    · rw [t18] at h1; cases h1; exact absurd e d18_12
    · rw [t_story] at h1; cases h1
  have one18 : ∀ p ∈ Tb K, p.1 = p18 → p.2 = lamOf "order_to" := fun p hp e => by
    obtain ⟨x, hx, c, h1, h2⟩ := tb_mem.mp hp
    rcases nm x hx with e2 | e2 | e2 <;> subst e2
    · rw [t12] at h1; cases h1; exact absurd e.symm d18_12
    · exact h2
    · rw [t_story] at h1; cases h1
  refine ⟨PySem.W.fnOf "law" "law" (defArgs s_law) (defBody s_law) (defScope s_law) .none kV24 dc24 pm24 an24 cd24 ct24, fun s v => .of_eq rfl, fun base _ _ tbs => ?_⟩
  have g__law_stream : Gd l.prog w K mg base 1 "_law_stream" ["script"] x__law_stream := gd__law_stream T A0
  have g__law_next : Gd l.prog w K mg base 1 "_law_next" ["state", "many"] x__law_next := gd__law_next T A1
  have g__law_ones : Gd l.prog w K mg base 2 "_law_ones" ["state"] x__law_ones := gd__law_ones T A2 g__law_next
  have g__law_ways : Gd l.prog w K mg base 1 "_law_ways" ["promises", "number"] x__law_ways := gd__law_ways T A3
  have g_check_promise : Gd l.prog w K mg base 1 "check_promise" ["promises", "promise"] x_check_promise := gd_check_promise T A4
  have g_check_promises : Gd l.prog w K mg base 2 "check_promises" ["promises"] x_check_promises := gd_check_promises T A5 g_check_promise
  have g_rounds_of : Gd l.prog w K mg base 1 "rounds_of" ["promises", "broken", "made"] x_rounds_of := gd_rounds_of T A6
  have g_kept : Gd l.prog w K mg base 3 "kept" ["promises"] x_kept := gd_kept T A7 g_check_promises g_rounds_of
  have g_rounds : Gd l.prog w K mg base 3 "rounds" ["promises"] x_rounds := gd_rounds T A8 g_check_promises g_rounds_of
  have g__law_least : Gd l.prog w K mg base 1 "_law_least" ["rows"] x__law_least := gd__law_least T A9
  have g_check_number : Gd l.prog w K mg base 1 "check_number" ["promises", "number"] x_check_number := gd_check_number T A10
  have g_check_few : Gd l.prog w K mg base 3 "check_few" ["promises", "number"] x_check_few := gd_check_few T A11 g_check_promises g_check_number
  have g_subsets : Gd l.prog w K mg base 1 "subsets" ["count"] x_subsets := gd_subsets T A12 ⟨q12, p12, rfl, tbs "subsets" (by simp) _ _ t12, tb_mem.mpr ⟨"subsets", by simp, q12, t12, rfl⟩, one12⟩
  have g_least_of : Gd l.prog w K mg base 1 "least_of" ["rows"] x_least_of := gd_least_of T A13
  have g_least_keepers : Gd l.prog w K mg base 4 "least_keepers" ["promises", "number"] x_least_keepers := gd_least_keepers T A14 g_check_few g_subsets g_rounds_of g_least_of
  have g__law_subsets : Gd l.prog w K mg base 1 "_law_subsets" ["row"] x__law_subsets := gd__law_subsets T A15
  have g_least_breakers : Gd l.prog w K mg base 4 "least_breakers" ["promises", "number"] x_least_breakers := gd_least_breakers T A16 g_check_few g_subsets g_least_of g_rounds_of
  have g_is_order : Gd l.prog w K mg base 3 "is_order" ["promises", "row"] x_is_order := gd_is_order T A17 g_check_promises
  have g_order_to : Gd l.prog w K mg base 4 "order_to" ["promises", "number"] x_order_to := gd_order_to T A18 ⟨q18, p18, rfl, tbs "order_to" (by simp) _ _ t18, tb_mem.mpr ⟨"order_to", by simp, q18, t18, rfl⟩, one18⟩ g_check_promises g_check_number g_rounds_of g_is_order
  have g_least_makers : Gd l.prog w K mg base 4 "least_makers" ["promises", "number"] x_least_makers := gd_least_makers T A19 g_check_few g_subsets g_least_of g_rounds_of
  have g_is_stuck : Gd l.prog w K mg base 3 "is_stuck" ["promises", "some"] x_is_stuck := gd_is_stuck T A20 g_check_promises
  have g_least_stuck : Gd l.prog w K mg base 4 "least_stuck" ["promises", "number"] x_least_stuck := gd_least_stuck T A21 g_check_few g_least_of g_subsets g_is_stuck
  have g_stuck : Gd l.prog w K mg base 3 "stuck" ["promises"] x_stuck := gd_stuck T A22 g_check_promises g_rounds_of
  have g_bears_itself : Gd l.prog w K mg base 3 "bears_itself" ["promises", "some"] x_bears_itself := gd_bears_itself T A23 g_check_promises
  exact Pw.law_word (gd_law (P := l.prog) (w := w) (base := base) T A24 g__law_stream g__law_ones g__law_next g__law_ways g_kept g_rounds g__law_least g_least_keepers g__law_subsets g_least_breakers g_order_to g_least_makers g_least_stuck g_stuck g_bears_itself) fun ns h => law_true h
end K99
open PySem PySem.W PyProof.Rows
set_option maxRecDepth 100000 in
set_option maxHeartbeats 0 in
theorem PySem.Challenge.cw_portgrants_k99_promises_that_need_one_holds : PySem.Challenge.rw_portgrants_k99_promises_that_need_one.Holds := by
  w_on; o_law; k_head; (case hw => w_witness2)
  k_fill
  refine Pw.walk_ofTab (l := PySem.Challenge.rw_portgrants_k99_promises_that_need_one) (k := 5) rfl rfl ⟨rfl, by decide, by decide⟩ ?rec (fun w h Y => PySem.W.km_in_of Y) ?F
  case F =>
    intro w mg fa h KX G hmg
    refine' K99.all_mk KX G hmg ?a0 ?l0 ?c0 ?k0 ?a1 ?l1 ?c1 ?k1 ?a2 ?l2 ?c2 ?k2 ?a3 ?l3 ?c3 ?k3 ?a4 ?l4 ?c4 ?k4 ?a5 ?l5 ?c5 ?k5 ?a6 ?l6 ?c6 ?k6 ?a7 ?l7 ?c7 ?k7 ?a8 ?l8 ?c8 ?k8 ?a9 ?l9 ?c9 ?k9 ?a10 ?l10 ?c10 ?k10 ?a11 ?l11 ?c11 ?k11 ?a12 ?l12 ?c12 ?k12 ?a13 ?l13 ?c13 ?k13 ?a14 ?l14 ?c14 ?k14 ?a15 ?l15 ?c15 ?k15 ?a16 ?l16 ?c16 ?k16 ?a17 ?l17 ?c17 ?k17 ?a18 ?l18 ?c18 ?k18 ?a19 ?l19 ?c19 ?k19 ?a20 ?l20 ?c20 ?k20 ?a21 ?l21 ?c21 ?k21 ?a22 ?l22 ?c22 ?k22 ?a23 ?l23 ?c23 ?k23 ?a24 ?l24 ?c24 ?k24 ?y12 ?w12 ?n12 ?y18 ?w18 ?n18 ?d18_12 ?z_story ?z_abs ?z_all ?z_any ?z_enumerate ?z_int ?z_len ?z_list ?z_range ?z_set ?z_sorted ?z_tuple ?v_MAX_HUNG ?v_MAX_PROMISES
    (case a0 => k_is)
    (case l0 => k_is)
    (case c0 => k_is)
    (case k0 => k_is)
    (case a1 => k_is)
    (case l1 => k_is)
    (case c1 => k_is)
    (case k1 => k_is)
    (case a2 => k_is)
    (case l2 => k_is)
    (case c2 => k_is)
    (case k2 => k_is)
    (case a3 => k_is)
    (case l3 => k_is)
    (case c3 => k_is)
    (case k3 => k_is)
    (case a4 => k_is)
    (case l4 => k_is)
    (case c4 => k_is)
    (case k4 => k_is)
    (case a5 => k_is)
    (case l5 => k_is)
    (case c5 => k_is)
    (case k5 => k_is)
    (case a6 => k_is)
    (case l6 => k_is)
    (case c6 => k_is)
    (case k6 => k_is)
    (case a7 => k_is)
    (case l7 => k_is)
    (case c7 => k_is)
    (case k7 => k_is)
    (case a8 => k_is)
    (case l8 => k_is)
    (case c8 => k_is)
    (case k8 => k_is)
    (case a9 => k_is)
    (case l9 => k_is)
    (case c9 => k_is)
    (case k9 => k_is)
    (case a10 => k_is)
    (case l10 => k_is)
    (case c10 => k_is)
    (case k10 => k_is)
    (case a11 => k_is)
    (case l11 => k_is)
    (case c11 => k_is)
    (case k11 => k_is)
    (case a12 => k_is)
    (case l12 => k_is)
    (case c12 => k_is)
    (case k12 => k_is)
    (case a13 => k_is)
    (case l13 => k_is)
    (case c13 => k_is)
    (case k13 => k_is)
    (case a14 => k_is)
    (case l14 => k_is)
    (case c14 => k_is)
    (case k14 => k_is)
    (case a15 => k_is)
    (case l15 => k_is)
    (case c15 => k_is)
    (case k15 => k_is)
    (case a16 => k_is)
    (case l16 => k_is)
    (case c16 => k_is)
    (case k16 => k_is)
    (case a17 => k_is)
    (case l17 => k_is)
    (case c17 => k_is)
    (case k17 => k_is)
    (case a18 => k_is)
    (case l18 => k_is)
    (case c18 => k_is)
    (case k18 => k_is)
    (case a19 => k_is)
    (case l19 => k_is)
    (case c19 => k_is)
    (case k19 => k_is)
    (case a20 => k_is)
    (case l20 => k_is)
    (case c20 => k_is)
    (case k20 => k_is)
    (case a21 => k_is)
    (case l21 => k_is)
    (case c21 => k_is)
    (case k21 => k_is)
    (case a22 => k_is)
    (case l22 => k_is)
    (case c22 => k_is)
    (case k22 => k_is)
    (case a23 => k_is)
    (case l23 => k_is)
    (case c23 => k_is)
    (case k23 => k_is)
    (case a24 => k_is)
    (case l24 => k_is)
    (case c24 => k_is)
    (case k24 => k_is)
    (case y12 => k_is)
    (case w12 => rfl)
    (case n12 => kernel_rfl)
    (case y18 => k_is)
    (case w18 => rfl)
    (case n18 => kernel_rfl)
    (case d18_12 => decide)
    (case z_story => k_is)
    (case z_abs => k_is)
    (case z_all => k_is)
    (case z_any => k_is)
    (case z_enumerate => k_is)
    (case z_int => k_is)
    (case z_len => k_is)
    (case z_list => k_is)
    (case z_range => k_is)
    (case z_set => k_is)
    (case z_sorted => k_is)
    (case z_tuple => k_is)
    (case v_MAX_HUNG => k_is)
    (case v_MAX_PROMISES => k_is)
  case rec =>
    intro x hx
    have nm : x = "subsets" ∨ x = "order_to" ∨ x = "story" := by simpa using hx
    rcases nm with e | e | e <;> subst e
    · exact .inl (by decide +kernel)
    · exact .inl (by decide +kernel)
    · exact .inr fun w => Pw.tabIn_no (by k_is)
