import PyProof.Rows.All
import Wide.All
import OpenK.AllK
import Wide.FinOn
import HandS.ForMost
import HandS.ForExc
import HandS.ExcInit
import HandS.Wide
import HandS.Zip
import HandS.IsInst
import KE.KeyNested
import KE.DataEq
import HandS.Style
import HandS.Flow
import HandS.TupAny
import HandS.Iter
import HandS.EndBits
import HandS.HeadEnd
import HandS.More
import HandS.StrMore
import HandS.Rev
import PyProof.StrBlock2
import KE.KIntText
import HandS.ExcValue
import HandS.ExcIs
import KE.SortData
import HandS.SortInts
import KE.SortKeyHeap
import HandS.SortKw
import PyProof.ListNew
import PyProof.DictRoadsH
import PyProof.MeetsDict
import HandS.Conv
import HandS.Small
import KE.KDictSum
import HandS.DictTup
import PySem.Challenge.RW_flipwright_k43_prices_by_rows
set_option Elab.async false
set_option linter.all false
set_option maxRecDepth 100000
set_option maxHeartbeats 2000000
/-! FLA: plain data D, owned data M, how they lie in the abstract heap. -/
namespace FL
open PySem L2 Classical

/-- frozen data -/
inductive D where
  | non | bl (b : Bool) | int (i : Int) | str (x : Str) | fn (n : String)
  | tup (xs : List D) | lst (xs : List D) | scr (xs : List D)
  | dic (ks : List D) (xs : List D) | ins (C : String) (ns : List Str) (xs : List D)
  | exc (C : String)
instance : Inhabited D := ⟨.non⟩
/-- owned data: nodes at addresses that nothing else points to; d: frozen -/
inductive M where
  | d (x : D) | lst (xs : List M) | tup (xs : List M)
  | dic (ks : List D) (xs : List M) | ins (C : String) (ns : List Str) (xs : List M)
instance : Inhabited M := ⟨.d .non⟩

/-- the written part and where its defs and classes stand -/
structure Gx where
  K : PySem.W.Frag
  ad : String → Addr
  w : World

mutual
/-- a dict's key -/
def nkD : D → Option NestedKey
  | .non => some .none
  | .int i => some (.num i)
  | .str x => some (.text x)
  | .tup xs => match nkDs xs with
    | some ks => some (.tup ks)
    | none => none
  | _ => none
def nkDs : List D → Option (List NestedKey)
  | [] => some []
  | x :: xs => match nkD x, nkDs xs with
    | some a, some b => some (a :: b)
    | _, _ => none
end
/-- a dict's entries -/
def EntR (w : World) : List NestedKey → List (V × V) → List DictEntry → Prop
  | [], [], [] => True
  | k :: ks, p :: kv, e :: es => e.hash = k.hash w ∧ RelV p.1 e.key ∧ RelV p.2 e.val ∧ EntR w ks kv es
  | _, _, _ => False
/-- a dict in the abstract heap -/
def DO (w : World) (a : Addr) (ks : List NestedKey) (kv : List (V × V)) : HO := .ext fun h => (a == sysModules) = false ∧ kv.length ≤ sizeLine ∧ ∃ o es ep, h.get? a = some o ∧ o.ExactDict ∧ o.data = .dict es ep ∧ EntR w ks kv es.toList
structure KsOk (ks : List D) (nk : List NestedKey) : Prop where
  eq : nkDs ks = some nk
  nd : nk.Nodup
  dp : ∀ x ∈ nk, x.depth ≤ 8

abbrev Rg := Addr → Prop
/-- an exception object that was caught -/
def EK (cls : Value) (a : Addr) : HO := .ext fun h => ∃ (oe : Obj) (vs : Array Value), h.get? a = some oe ∧ oe.cls = cls ∧ oe.dict = none ∧ oe.data = .fields vs

mutual
def RepD (G : Gx) (Z : Hp) : D → V → Prop
  | .non, v => v = .non
  | .bl b, v => v = .bl b
  | .int i, v => v = .int i
  | .str x, v => v = .str x
  | .fn n, v => v = .ref (G.ad n)
  | .exc n, v => ∃ a, v = .ref a ∧ Z a = some (EK (.ref (G.ad n)) a)
  | .tup xs, v => ∃ a vs, v = .ref a ∧ SqT G.K Z a vs ∧ RepDs G Z xs vs
  | .lst xs, v => ∃ a vs, v = .ref a ∧ Z a = some (.lst vs) ∧ RepDs G Z xs vs
  | .scr xs, v => ∃ a vs, v = .ref a ∧ SqL G.K Z a vs ∧ RepDs G Z xs vs
  | .dic ks xs, v => ∃ a nk kv, v = .ref a ∧ Z a = some (DO G.w a nk kv) ∧ KsOk ks nk ∧ RepDs G Z ks (kv.map (fun p => p.1)) ∧ RepDs G Z xs (kv.map (fun p => p.2))
  | .ins C ns xs, v => ∃ a dx fs, v = .ref a ∧ Z a = some (.ins (G.ad C) dx fs) ∧ fs.map (fun p => p.1) = ns ∧ RepDs G Z xs (fs.map (fun p => p.2))
def RepDs (G : Gx) (Z : Hp) : List D → List V → Prop
  | [], vs => vs = []
  | x :: xs, vs => ∃ v r, vs = v :: r ∧ RepD G Z x v ∧ RepDs G Z xs r
end

mutual
def RepM (G : Gx) (Z H : Hp) : M → Rg → V → Prop
  | .d x, _, v => RepD G Z x v
  | .lst ms, S, v => ∃ a vs T, v = .ref a ∧ S a ∧ ¬ T a ∧ (∀ b, T b → S b) ∧ H a = some (.lst vs) ∧ RepMs G Z H ms T vs
  | .tup ms, S, v => ∃ a vs T, v = .ref a ∧ S a ∧ ¬ T a ∧ (∀ b, T b → S b) ∧ H a = some (.tup vs) ∧ RepMs G Z H ms T vs
  | .dic ks ms, S, v => ∃ a nk kv T, v = .ref a ∧ S a ∧ ¬ T a ∧ (∀ b, T b → S b) ∧ H a = some (DO G.w a nk kv) ∧ KsOk ks nk ∧ RepDs G Z ks (kv.map (fun p => p.1)) ∧ RepMs G Z H ms T (kv.map (fun p => p.2))
  | .ins C ns ms, S, v => ∃ a dx fs T, v = .ref a ∧ S a ∧ ¬ T a ∧ (∀ b, T b → S b) ∧ H a = some (.ins (G.ad C) dx fs) ∧ fs.map (fun p => p.1) = ns ∧ RepMs G Z H ms T (fs.map (fun p => p.2))
def RepMs (G : Gx) (Z H : Hp) : List M → Rg → List V → Prop
  | [], _, vs => vs = []
  | m :: ms, S, vs => ∃ v r T1 T2, vs = v :: r ∧ (∀ b, T1 b → S b) ∧ (∀ b, T2 b → S b) ∧ (∀ b, T1 b → ¬ T2 b) ∧ RepM G Z H m T1 v ∧ RepMs G Z H ms T2 r
end

mutual
/-- frozen -/
def fz : M → D
  | .d x => x
  | .lst xs => .lst (fzs xs)
  | .tup xs => .tup (fzs xs)
  | .dic ks xs => .dic ks (fzs xs)
  | .ins C ns xs => .ins C ns (fzs xs)
def fzs : List M → List D
  | [] => []
  | m :: ms => fz m :: fzs ms
end
theorem fzs_map : ∀ ms : List M, fzs ms = ms.map fz
  | [] => by simp [fzs]
  | m :: ms => by simp [fzs, fzs_map ms]

theorem Same.seqT {K : PySem.W.Frag} {H H' : Hp} {a : Addr} {xs : List V} (e : Same H H') (h : SqT K H a xs) : SqT K H' a xs := by
  rcases h with (h | ⟨o, h⟩) | h
  · exact .inl (.inl (e _ _ h))
  · exact .inl (.inr ⟨o, e _ _ h⟩)
  · exact .inr h

section
variable {G : Gx} {Z Z' H H' : Hp}
mutual
theorem RepD.mono (h : Same Z Z') : ∀ (x : D) (v : V), RepD G Z x v → RepD G Z' x v
  | .non, _, r => r
  | .bl _, _, r => r
  | .int _, _, r => r
  | .str _, _, r => r
  | .fn _, _, r => r
  | .exc _, _, r => by
    simp only [RepD] at r ⊢
    obtain ⟨a, e, q⟩ := r
    exact ⟨a, e, h _ _ q⟩
  | .tup xs, _, r => by
    simp only [RepD] at r ⊢
    obtain ⟨a, vs, e, q, r⟩ := r
    exact ⟨a, vs, e, Same.seqT h q, RepDs.mono h xs vs r⟩
  | .lst xs, _, r => by
    simp only [RepD] at r ⊢
    obtain ⟨a, vs, e, q, r⟩ := r
    exact ⟨a, vs, e, h _ _ q, RepDs.mono h xs vs r⟩
  | .scr xs, _, r => by
    simp only [RepD] at r ⊢
    obtain ⟨a, vs, e, q, r⟩ := r
    exact ⟨a, vs, e, h.seq q, RepDs.mono h xs vs r⟩
  | .dic ks xs, _, r => by
    simp only [RepD] at r ⊢
    obtain ⟨a, nk, kv, e, q, k, r1, r⟩ := r
    exact ⟨a, nk, kv, e, h _ _ q, k, RepDs.mono h ks _ r1, RepDs.mono h xs _ r⟩
  | .ins C ns xs, _, r => by
    simp only [RepD] at r ⊢
    obtain ⟨a, dx, kv, e, q, k, r⟩ := r
    exact ⟨a, dx, kv, e, h _ _ q, k, RepDs.mono h xs _ r⟩
theorem RepDs.mono (h : Same Z Z') : ∀ (xs : List D) (vs : List V), RepDs G Z xs vs → RepDs G Z' xs vs
  | [], _, r => r
  | x :: xs, _, r => by
    simp only [RepDs] at r ⊢
    obtain ⟨v, r', e, q, r⟩ := r
    exact ⟨v, r', e, RepD.mono h x v q, RepDs.mono h xs r' r⟩
end

mutual
/-- the frozen part grows, the region's objects stay, the region grows -/
theorem RepM.mono (h : Same Z Z') : ∀ (m : M) (S S' : Rg) (v : V), (∀ a, S a → S' a) → (∀ a o, S a → H a = some o → H' a = some o) → RepM G Z H m S v → RepM G Z' H' m S' v
  | .d x, _, _, v, _, _, r => by
    simp only [RepM] at r ⊢
    exact RepD.mono h x v r
  | .lst ms, S, S', v, hs, hk, r => by
    simp only [RepM] at r ⊢
    obtain ⟨a, vs, T, e, sa, ta, ts, ho, r⟩ := r
    exact ⟨a, vs, T, e, hs a sa, ta, fun b q => hs b (ts b q), hk _ _ sa ho, RepMs.mono h ms T T vs (fun _ q => q) (fun b o q => hk b o (ts b q)) r⟩
  | .tup ms, S, S', v, hs, hk, r => by
    simp only [RepM] at r ⊢
    obtain ⟨a, vs, T, e, sa, ta, ts, ho, r⟩ := r
    exact ⟨a, vs, T, e, hs a sa, ta, fun b q => hs b (ts b q), hk _ _ sa ho, RepMs.mono h ms T T vs (fun _ q => q) (fun b o q => hk b o (ts b q)) r⟩
  | .dic ks ms, S, S', v, hs, hk, r => by
    simp only [RepM] at r ⊢
    obtain ⟨a, nk, kv, T, e, sa, ta, ts, ho, k, r1, r⟩ := r
    exact ⟨a, nk, kv, T, e, hs a sa, ta, fun b q => hs b (ts b q), hk _ _ sa ho, k, RepDs.mono h ks _ r1, RepMs.mono h ms T T _ (fun _ q => q) (fun b o q => hk b o (ts b q)) r⟩
  | .ins C ns ms, S, S', v, hs, hk, r => by
    simp only [RepM] at r ⊢
    obtain ⟨a, dx, kv, T, e, sa, ta, ts, ho, k, r⟩ := r
    exact ⟨a, dx, kv, T, e, hs a sa, ta, fun b q => hs b (ts b q), hk _ _ sa ho, k, RepMs.mono h ms T T _ (fun _ q => q) (fun b o q => hk b o (ts b q)) r⟩
theorem RepMs.mono (h : Same Z Z') : ∀ (ms : List M) (S S' : Rg) (vs : List V), (∀ a, S a → S' a) → (∀ a o, S a → H a = some o → H' a = some o) → RepMs G Z H ms S vs → RepMs G Z' H' ms S' vs
  | [], _, _, _, _, _, r => r
  | m :: ms, S, S', vs, hs, hk, r => by
    simp only [RepMs] at r ⊢
    obtain ⟨v, r', T1, T2, e, s1, s2, dj, q, r⟩ := r
    exact ⟨v, r', T1, T2, e, fun b z => hs b (s1 b z), fun b z => hs b (s2 b z), dj, RepM.mono h m T1 T1 v (fun _ q => q) (fun b o z => hk b o (s1 b z)) q, RepMs.mono h ms T2 T2 r' (fun _ q => q) (fun b o z => hk b o (s2 b z)) r⟩
end

mutual
theorem RepM.frz (h : Same Z Z') : ∀ (m : M) (S : Rg) (v : V), (∀ a o, S a → H a = some o → Z' a = some o) → RepM G Z H m S v → RepD G Z' (fz m) v
  | .d x, _, v, _, r => by
    simp only [RepM] at r
    simp only [fz]
    exact RepD.mono h x v r
  | .lst ms, S, v, hk, r => by
    simp only [RepM] at r
    simp only [fz, RepD]
    obtain ⟨a, vs, T, e, sa, ta, ts, ho, r⟩ := r
    exact ⟨a, vs, e, hk _ _ sa ho, RepMs.frz h ms T vs (fun b o q => hk b o (ts b q)) r⟩
  | .tup ms, S, v, hk, r => by
    simp only [RepM] at r
    simp only [fz, RepD]
    obtain ⟨a, vs, T, e, sa, ta, ts, ho, r⟩ := r
    exact ⟨a, vs, e, SqT.of (hk _ _ sa ho), RepMs.frz h ms T vs (fun b o q => hk b o (ts b q)) r⟩
  | .dic ks ms, S, v, hk, r => by
    simp only [RepM] at r
    simp only [fz, RepD]
    obtain ⟨a, nk, kv, T, e, sa, ta, ts, ho, k, r1, r⟩ := r
    exact ⟨a, nk, kv, e, hk _ _ sa ho, k, RepDs.mono h ks _ r1, RepMs.frz h ms T _ (fun b o q => hk b o (ts b q)) r⟩
  | .ins C ns ms, S, v, hk, r => by
    simp only [RepM] at r
    simp only [fz, RepD]
    obtain ⟨a, dx, kv, T, e, sa, ta, ts, ho, k, r⟩ := r
    exact ⟨a, dx, kv, e, hk _ _ sa ho, k, RepMs.frz h ms T _ (fun b o q => hk b o (ts b q)) r⟩
theorem RepMs.frz (h : Same Z Z') : ∀ (ms : List M) (S : Rg) (vs : List V), (∀ a o, S a → H a = some o → Z' a = some o) → RepMs G Z H ms S vs → RepDs G Z' (fzs ms) vs
  | [], _, _, _, r => by
    simp only [RepMs] at r
    simp only [fzs, RepDs]
    exact r
  | m :: ms, S, vs, hk, r => by
    simp only [RepMs] at r
    simp only [fzs, RepDs]
    obtain ⟨v, r', T1, T2, e, s1, s2, dj, q, r⟩ := r
    exact ⟨v, r', e, RepM.frz h m T1 v (fun b o z => hk b o (s1 b z)) q, RepMs.frz h ms T2 r' (fun b o z => hk b o (s2 b z)) r⟩
end
theorem RepD.toM {x : D} {S : Rg} {v : V} (r : RepD G Z x v) : RepM G Z H (.d x) S v := by
  simp only [RepM]; exact r
theorem RepDs.len : ∀ {xs : List D} {vs : List V}, RepDs G Z xs vs → xs.length = vs.length
  | [], _, r => by simp only [RepDs] at r; subst r; rfl
  | x :: xs, _, r => by
    simp only [RepDs] at r
    obtain ⟨v, r', rfl, q, r⟩ := r
    simp [RepDs.len r]
theorem RepMs.len : ∀ {xs : List M} {S : Rg} {vs : List V}, RepMs G Z H xs S vs → xs.length = vs.length
  | [], _, _, r => by simp only [RepMs] at r; subst r; rfl
  | x :: xs, _, _, r => by
    simp only [RepMs] at r
    obtain ⟨v, r', T1, T2, rfl, _, _, _, q, r⟩ := r
    simp [RepMs.len r]
theorem RepDs.toM : ∀ {xs : List D} {S : Rg} {vs : List V}, RepDs G Z xs vs → RepMs G Z H (xs.map .d) S vs
  | [], _, _, r => by simp only [RepDs] at r; simp only [List.map_nil, RepMs]; exact r
  | x :: xs, S, _, r => by
    simp only [RepDs] at r
    obtain ⟨v, r', rfl, q, r⟩ := r
    simp only [List.map_cons, RepMs]
    exact ⟨v, r', fun _ => False, S, rfl, fun _ z => z.elim, fun _ z => z, fun _ z => z.elim, q.toM, RepDs.toM r⟩
theorem RepDs.get : ∀ {xs : List D} {vs : List V} {i : Nat} {x : D}, RepDs G Z xs vs → xs[i]? = some x → ∃ v, vs[i]? = some v ∧ RepD G Z x v
  | [], _, _, _, _, e => by simp at e
  | y :: xs, _, 0, x, r, e => by
    simp only [RepDs] at r
    obtain ⟨v, r', rfl, q, r⟩ := r
    simp at e; subst e
    exact ⟨v, rfl, q⟩
  | y :: xs, _, i + 1, x, r, e => by
    simp only [RepDs] at r
    obtain ⟨v, r', rfl, q, r⟩ := r
    have := RepDs.get (i := i) r (by simpa using e)
    simpa using this
theorem RepMs.get : ∀ {xs : List M} {S : Rg} {vs : List V} {i : Nat} {x : M}, RepMs G Z H xs S vs → xs[i]? = some x → ∃ v, vs[i]? = some v ∧ RepM G Z H x S v
  | [], _, _, _, _, _, e => by simp at e
  | y :: xs, _, _, 0, x, r, e => by
    simp only [RepMs] at r
    obtain ⟨v, r', T1, T2, rfl, s1, s2, dj, q, r⟩ := r
    simp at e; subst e
    exact ⟨v, rfl, RepM.mono (Same.refl _) _ _ _ _ s1 (fun _ _ _ z => z) q⟩
  | y :: xs, _, _, i + 1, x, r, e => by
    simp only [RepMs] at r
    obtain ⟨v, r', T1, T2, rfl, s1, s2, dj, q, r⟩ := r
    obtain ⟨w, h1, h2⟩ := RepMs.get (i := i) r (by simpa using e)
    exact ⟨w, by simpa using h1, RepM.mono (Same.refl _) _ _ _ _ s2 (fun _ _ _ z => z) h2⟩
theorem RepDs.app : ∀ {xs ys : List D} {vs ws : List V}, RepDs G Z xs vs → RepDs G Z ys ws → RepDs G Z (xs ++ ys) (vs ++ ws)
  | [], _, _, _, r, s => by simp only [RepDs] at r; subst r; exact s
  | x :: xs, _, _, _, r, s => by
    simp only [RepDs] at r
    obtain ⟨v, r', rfl, q, r⟩ := r
    simp only [List.cons_append, RepDs]
    exact ⟨v, _, rfl, q, RepDs.app r s⟩
/-- two rows of owned data in parted regions -/
theorem RepMs.app : ∀ {xs ys : List M} {S1 S2 S : Rg} {vs ws : List V}, RepMs G Z H xs S1 vs → RepMs G Z H ys S2 ws → (∀ b, S1 b → S b) → (∀ b, S2 b → S b) → (∀ b, S1 b → ¬ S2 b) → RepMs G Z H (xs ++ ys) S (vs ++ ws)
  | [], _, _, _, _, _, _, r, s, h1, h2, _ => by
    simp only [RepMs] at r; subst r
    exact RepMs.mono (Same.refl _) _ _ _ _ h2 (fun _ _ _ z => z) s
  | x :: xs, _, S1, S2, S, _, _, r, s, h1, h2, dj => by
    simp only [RepMs] at r
    obtain ⟨v, r', T1, T2, rfl, s1, s2, dj', q, r⟩ := r
    simp only [List.cons_append, RepMs]
    refine ⟨v, _, T1, fun b => T2 b ∨ S2 b, rfl, fun b z => h1 b (s1 b z), fun b z => z.elim (fun z => h1 b (s2 b z)) (h2 b), fun b z w => w.elim (dj' b z) (dj b (s1 b z)), q, ?_⟩
    exact RepMs.app r s (fun b z => .inl z) (fun b z => .inr z) (fun b z => dj b (s2 b z))
end

/-! ### the frozen part after a region is frozen -/
noncomputable def Fzp (Z H : Hp) (S : Rg) : Hp := fun a => if S a then H a else Z a
section
variable {G : Gx} {Z Z' H H' : Hp} {S : Rg}
theorem frz_old (zh : Same Z H) : Same Z (Fzp Z H S) := fun a o e => by
  unfold Fzp
  by_cases h : S a
  · rw [if_pos h]; exact zh a o e
  · rw [if_neg h]; exact e
theorem frz_sub (zh : Same Z H) : Same (Fzp Z H S) H := fun a o e => by
  unfold Fzp at e
  by_cases h : S a
  · rw [if_pos h] at e; exact e
  · rw [if_neg h] at e; exact zh a o e
theorem frz_in {a : Addr} (h : S a) : Fzp Z H S a = H a := by unfold Fzp; rw [if_pos h]
theorem frz_out {a : Addr} (h : ¬ S a) : Fzp Z H S a = Z a := by unfold Fzp; rw [if_neg h]
theorem RepM.frozen (zh : Same Z H) {m : M} {v : V} (r : RepM G Z H m S v) : RepD G (Fzp Z H S) (fz m) v :=
  RepM.frz (frz_old zh) m S v (fun a o sa e => by rw [frz_in sa]; exact e) r
end
end FL

set_option maxHeartbeats 2000000
/-! FLB: what a piece of a def computes, as a function of plain data; and that its reading follows. -/
namespace FL
open PySem L2 Classical

structure Exn where
  C : String
  row : Option Int := none
  deriving DecidableEq

abbrev Env := List (Option M)
inductive Res (α : Type) where
  | ok (a : α) | exc (e : Exn) (env : Env) | bad
def Res.bind {α β : Type} : Res α → (α → Res β) → Res β
  | .ok a, f => f a
  | .exc e v, _ => .exc e v
  | .bad, _ => .bad
instance : Monad Res where
  pure := .ok
  bind := Res.bind
@[simp] theorem Res.ok_bind {α β : Type} (a : α) (f : α → Res β) : ((Res.ok a) >>= f) = f a := rfl
@[simp] theorem Res.exc_bind {α β : Type} (e : Exn) (v : Env) (f : α → Res β) : ((Res.exc e v : Res α) >>= f) = .exc e v := rfl
@[simp] theorem Res.bad_bind {α β : Type} (f : α → Res β) : ((Res.bad : Res α) >>= f) = .bad := rfl
@[simp] theorem Res.pure_ok {α : Type} (a : α) : (pure a : Res α) = .ok a := rfl

/-- an exception's class and own dict -/
def ExcAt (G : Gx) (H : Hp) (e : Exn) (cls : Value) (d : Option Addr) : Prop :=
  cls = .ref (G.ad e.C) ∧ match e.row with
    | none => d = none
    | some i => ∃ dd, d = some dd ∧ H dd = some (.xd [("row", .int i)])

abbrev Rs := Nat → Rg
def U (S : Rs) : Rg := fun a => ∃ i, S i a
/-- from (Z, H) with the region R to (Z', H') with the region R' -/
structure Stp (Z H : Hp) (R : Rg) (Z' H' : Hp) (R' : Rg) : Prop where
  z : Same Z Z'
  zh : Same Z' H'
  kp : ∀ b o, H b = some o → ¬ R b → H' b = some o
  rg : ∀ a, R' a → R a ∨ H a = none
  zn : ∀ a, Z' a ≠ none → Z a ≠ none ∨ R a ∨ H a = none
section
variable {Z Z1 Z2 Z' H H1 H2 H' : Hp} {R R1 R2 R' : Rg}
theorem Stp.refl (zh : Same Z H) : Stp Z H R Z H R := ⟨Same.refl _, zh, fun _ _ e _ => e, fun _ h => .inl h, fun _ h => .inl h⟩
theorem Stp.trans (a : Stp Z H R Z1 H1 R1) (b : Stp Z1 H1 R1 Z2 H2 R2) : Stp Z H R Z2 H2 R2 := by
  have back : ∀ x, H1 x = none → R x ∨ H x = none := fun x h => by
    by_cases hr : R x
    · exact .inl hr
    · cases e : H x with
      | none => exact .inr rfl
      | some o => rw [a.kp x o e hr] at h; cases h
  refine ⟨a.z.trans b.z, b.zh, fun x o e hr => ?_, fun x h => ?_, fun x h => ?_⟩
  · refine b.kp x o (a.kp x o e hr) fun h1 => ?_
    rcases a.rg x h1 with h | h
    · exact hr h
    · rw [e] at h; cases h
  · rcases b.rg x h with h | h
    · exact a.rg x h
    · exact back x h
  · rcases b.zn x h with h | h | h
    · exact a.zn x h
    · exact .inr (a.rg x h)
    · exact .inr (back x h)
theorem Stp.weak (a : Stp Z H R Z' H' R1) (h : ∀ x, R2 x → R1 x) : Stp Z H R Z' H' R2 := ⟨a.z, a.zh, a.kp, fun x q => a.rg x (h x q), a.zn⟩
theorem Stp.frame (a : Stp Z H R Z' H' R') (T : Rg) : Stp Z H (fun x => R x ∨ T x) Z' H' (fun x => R' x ∨ T x) :=
  ⟨a.z, a.zh, fun b o e h => a.kp b o e fun q => h (.inl q), fun x h => h.elim (fun h => (a.rg x h).elim (fun h => .inl (.inl h)) .inr) fun h => .inl (.inr h),
    fun x h => (a.zn x h).elim .inl fun h => h.elim (fun h => .inr (.inl (.inl h))) fun h => .inr (.inr h)⟩
theorem Stp.from (a : Stp Z H R Z' H' R') (h : ∀ x, R x → R1 x) : Stp Z H R1 Z' H' R' :=
  ⟨a.z, a.zh, fun b o e q => a.kp b o e fun r => q (h b r), fun x q => (a.rg x q).elim (fun r => .inl (h x r)) .inr, fun x q => (a.zn x q).elim .inl fun r => r.elim (fun r => .inr (.inl (h x r))) fun r => .inr (.inr r)⟩
end

/-- a value in the hand: its region lies apart from R -/
structure Hld (G : Gx) (Z H : Hp) (R : Rg) (m : M) (S : Rg) (v : V) : Prop where
  rep : RepM G Z H m S v
  al : ∀ a, S a → H a ≠ none
  zf : ∀ a, S a → Z a = none
  dj : ∀ a, S a → ¬ R a
section
variable {G : Gx} {Z Z' H H' : Hp} {R R' : Rg} {m : M} {S : Rg} {v : V}
theorem Hld.step (h : Hld G Z H R m S v) (s : Stp Z H R Z' H' R') : Hld G Z' H' R' m S v := by
  have keep : ∀ a o, S a → H a = some o → H' a = some o := fun a o sa e => s.kp a o e (h.dj a sa)
  refine ⟨RepM.mono s.z m S S v (fun _ z => z) keep h.rep, fun a sa q => ?_, fun a sa => ?_, fun a sa q => ?_⟩
  · cases e : H a with
    | none => exact h.al a sa e
    | some o => rw [keep a o sa e] at q; cases q
  · cases q : Z' a with
    | none => rfl
    | some o =>
      rcases s.zn a (by rw [q]; exact fun z => nomatch z) with r | r | r
      · exact absurd (h.zf a sa) r
      · exact absurd r (h.dj a sa)
      · exact absurd r (h.al a sa)
  · rcases s.rg a q with r | r
    · exact h.dj a sa r
    · exact h.al a sa r
theorem Hld.data {x : D} (r : RepD G Z x v) : Hld G Z H R (.d x) (fun _ => False) v := ⟨r.toM, fun _ z => z.elim, fun _ z => z.elim, fun _ z => z.elim⟩
/-- frozen data needs no region -/
theorem Hld.free {x : D} (h : Hld G Z H R (.d x) S v) : RepD G Z x v := by
  have := h.rep
  simp only [RepM] at this
  exact this
/-- frozen in the hand -/
theorem Hld.frozen (zh : Same Z H) (h : Hld G Z H R m S v) : RepD G (Fzp Z H S) (fz m) v ∧ Stp Z H (fun a => R a ∨ S a) (Fzp Z H S) H R :=
  ⟨h.rep.frozen zh, frz_old zh, frz_sub zh, fun _ _ e _ => e, fun _ q => .inl (.inl q), fun a q => by
    by_cases sa : S a
    · exact .inr (.inl (.inr sa))
    · rw [frz_out sa] at q; exact .inl q⟩
end

/-- the slots hold what env says, each in a region of its own -/
structure Good (G : Gx) (Z H : Hp) (σ : St) (env : Env) (S : Rs) : Prop where
  zh : Same Z H
  rep : ∀ i m, env[i]? = some (some m) → ∃ v, σ[i]? = some (some v) ∧ RepM G Z H m (S i) v
  dj : ∀ i j a, S i a → S j a → i = j
  al : ∀ i a, S i a → H a ≠ none
  zf : ∀ i a, S i a → Z a = none
  len : env.length = σ.length
def Rs.set (S : Rs) (i : Nat) (T : Rg) : Rs := fun j => if j = i then T else S j
theorem Rs.set_same {S : Rs} {i : Nat} {T : Rg} : S.set i T i = T := by unfold Rs.set; rw [if_pos rfl]
theorem Rs.set_ne {S : Rs} {i j : Nat} {T : Rg} (h : j ≠ i) : S.set i T j = S j := by unfold Rs.set; rw [if_neg h]
theorem Rs.set_sub {S : Rs} {i : Nat} {T : Rg} {a : Addr} (h : U (S.set i T) a) : U S a ∨ T a := by
  obtain ⟨j, h⟩ := h
  by_cases e : j = i
  · subst e; rw [Rs.set_same] at h; exact .inr h
  · rw [Rs.set_ne e] at h; exact .inl ⟨j, h⟩
theorem Rs.wipe_sub {S : Rs} {i : Nat} {a : Addr} (h : U (S.set i fun _ => False) a) : U S a ∧ ¬ S i a ∨ ∃ j, j ≠ i ∧ S j a := by
  obtain ⟨j, h⟩ := h
  by_cases e : j = i
  · subst e; rw [Rs.set_same] at h; exact h.elim
  · rw [Rs.set_ne e] at h; exact .inr ⟨j, e, h⟩
section
variable {G : Gx} {Z Z' H H' : Hp} {σ : St} {env : Env} {S : Rs} {i : Nat} {m : M} {v : V} {T : Rg}
theorem Good.lt (g : Good G Z H σ env S) (h : i < env.length) : i < σ.length := by rw [← g.len]; exact h
/-- a slot is emptied, its datum in the hand -/
theorem Good.take (g : Good G Z H σ env S) (e : env[i]? = some (some m)) : ∃ v, σ[i]? = some (some v) ∧ Good G Z H σ (env.set i none) (S.set i fun _ => False) ∧ Hld G Z H (U (S.set i fun _ => False)) m (S i) v := by
  obtain ⟨v, hv, r⟩ := g.rep i m e
  refine ⟨v, hv, ⟨g.zh, fun j m' e' => ?_, fun j k a h1 h2 => ?_, fun j a h => ?_, fun j a h => ?_, by rw [List.length_set]; exact g.len⟩, r, g.al i, g.zf i, fun a h q => ?_⟩
  · by_cases hj : j = i
    · subst hj
      rw [List.getElem?_set_self (List.getElem?_eq_some_iff.mp e).1] at e'
      cases e'
    · rw [List.getElem?_set_ne (Ne.symm hj)] at e'
      obtain ⟨w, hw, r'⟩ := g.rep j m' e'
      exact ⟨w, hw, by rw [Rs.set_ne hj]; exact r'⟩
  · by_cases hj : j = i
    · subst hj; rw [Rs.set_same] at h1; exact h1.elim
    · by_cases hk : k = i
      · subst hk; rw [Rs.set_same] at h2; exact h2.elim
      · rw [Rs.set_ne hj] at h1; rw [Rs.set_ne hk] at h2; exact g.dj j k a h1 h2
  · by_cases hj : j = i
    · subst hj; rw [Rs.set_same] at h; exact h.elim
    · rw [Rs.set_ne hj] at h; exact g.al j a h
  · by_cases hj : j = i
    · subst hj; rw [Rs.set_same] at h; exact h.elim
    · rw [Rs.set_ne hj] at h; exact g.zf j a h
  · obtain ⟨j, q⟩ := q
    by_cases hj : j = i
    · subst hj; rw [Rs.set_same] at q; exact q.elim
    · rw [Rs.set_ne hj] at q; exact hj (g.dj j i a q h)
theorem Rs.wipe_le {S : Rs} {i : Nat} {a : Addr} (h : U (S.set i fun _ => False) a) : U S a := (Rs.set_sub h).elim id fun z => z.elim
/-- a slot is emptied -/
theorem Good.kill (g : Good G Z H σ env S) (i : Nat) : Good G Z H σ (env.set i none) (S.set i fun _ => False) := by
  refine ⟨g.zh, fun j m' e' => ?_, fun j k a h1 h2 => ?_, fun j a h => ?_, fun j a h => ?_, by rw [List.length_set]; exact g.len⟩
  · by_cases hj : j = i
    · subst hj
      by_cases hl : j < env.length
      · rw [List.getElem?_set_self hl] at e'; cases e'
      · rw [List.getElem?_eq_none (by rw [List.length_set]; omega)] at e'; cases e'
    · rw [List.getElem?_set_ne (Ne.symm hj)] at e'
      obtain ⟨w, hw, r'⟩ := g.rep j m' e'
      exact ⟨w, hw, by rw [Rs.set_ne hj]; exact r'⟩
  · by_cases hj : j = i
    · subst hj; rw [Rs.set_same] at h1; exact h1.elim
    · by_cases hk : k = i
      · subst hk; rw [Rs.set_same] at h2; exact h2.elim
      · rw [Rs.set_ne hj] at h1; rw [Rs.set_ne hk] at h2; exact g.dj j k a h1 h2
  · by_cases hj : j = i
    · subst hj; rw [Rs.set_same] at h; exact h.elim
    · rw [Rs.set_ne hj] at h; exact g.al j a h
  · by_cases hj : j = i
    · subst hj; rw [Rs.set_same] at h; exact h.elim
    · rw [Rs.set_ne hj] at h; exact g.zf j a h
/-- what is in the hand is put into a slot; σ' agrees with σ elsewhere -/
theorem Good.put' (g : Good G Z H σ env S) (h : Hld G Z H (U S) m T v) {σ' : St} (hi : i < env.length) (hs : σ'[i]? = some (some v)) (ho : ∀ j, j ≠ i → σ'[j]? = σ[j]?) (hl : σ'.length = σ.length) :
    Good G Z H σ' (env.set i (some m)) (S.set i T) := by
  refine ⟨g.zh, fun j m' e' => ?_, fun j k a h1 h2 => ?_, fun j a q => ?_, fun j a q => ?_, by rw [List.length_set, hl]; exact g.len⟩
  · by_cases hj : j = i
    · subst hj
      rw [List.getElem?_set_self hi] at e'
      cases e'
      exact ⟨v, hs, by rw [Rs.set_same]; exact h.rep⟩
    · rw [List.getElem?_set_ne (Ne.symm hj)] at e'
      obtain ⟨w, hw, r'⟩ := g.rep j m' e'
      exact ⟨w, by rw [ho j hj]; exact hw, by rw [Rs.set_ne hj]; exact r'⟩
  · by_cases hj : j = i
    · by_cases hk : k = i
      · rw [hj, hk]
      · subst hj; rw [Rs.set_same] at h1; rw [Rs.set_ne hk] at h2; exact absurd ⟨k, h2⟩ (h.dj a h1)
    · by_cases hk : k = i
      · subst hk; rw [Rs.set_same] at h2; rw [Rs.set_ne hj] at h1; exact absurd ⟨j, h1⟩ (h.dj a h2)
      · rw [Rs.set_ne hj] at h1; rw [Rs.set_ne hk] at h2; exact g.dj j k a h1 h2
  · by_cases hj : j = i
    · subst hj; rw [Rs.set_same] at q; exact h.al a q
    · rw [Rs.set_ne hj] at q; exact g.al j a q
  · by_cases hj : j = i
    · subst hj; rw [Rs.set_same] at q; exact h.zf a q
    · rw [Rs.set_ne hj] at q; exact g.zf j a q
theorem Good.put (g : Good G Z H σ env S) (h : Hld G Z H (U S) m T v) (hi : i < env.length) : Good G Z H (σ.set i (some v)) (env.set i (some m)) (S.set i T) :=
  g.put' h hi (List.getElem?_set_self (g.lt hi)) (fun j hj => List.getElem?_set_ne (Ne.symm hj)) (by rw [List.length_set])
/-- the datum goes back to the slot whose value it is -/
theorem Good.back (g : Good G Z H σ env S) (h : Hld G Z H (U S) m T v) (hs : σ[i]? = some (some v)) : Good G Z H σ (env.set i (some m)) (S.set i T) :=
  g.put' h (by rw [g.len]; exact (List.getElem?_eq_some_iff.mp hs).1) hs (fun _ _ => rfl) rfl
/-- all that Good says stays while the frozen part grows away from the slots' regions, and the heap keeps these -/
theorem Good.move {R R' : Rg} (g : Good G Z H σ env S) (s : Stp Z H R Z' H' R') (hd : ∀ a, U S a → ¬ R a) : Good G Z' H' σ env S ∧ ∀ a, U S a → ¬ R' a := by
  have keep : ∀ i a o, S i a → H a = some o → H' a = some o := fun i a o sa e => s.kp a o e (hd a ⟨i, sa⟩)
  refine ⟨⟨s.zh, fun i m e => ?_, g.dj, fun i a sa q => ?_, fun i a sa => ?_, g.len⟩, fun a ⟨i, sa⟩ q => ?_⟩
  · obtain ⟨v, hv, r⟩ := g.rep i m e
    exact ⟨v, hv, RepM.mono s.z m _ _ v (fun _ z => z) (keep i) r⟩
  · cases e : H a with
    | none => exact g.al i a sa e
    | some o => rw [keep i a o sa e] at q; cases q
  · cases q : Z' a with
    | none => rfl
    | some o =>
      rcases s.zn a (by rw [q]; exact fun z => nomatch z) with r | r | r
      · exact absurd (g.zf i a sa) r
      · exact absurd r (hd a ⟨i, sa⟩)
      · exact absurd r (g.al i a sa)
  · rcases s.rg a q with r | r
    · exact hd a ⟨i, sa⟩ r
    · exact g.al i a sa r
end

/-! ### what is computed, and that a reading follows -/
abbrev SE := Env → Res (M × Env)
abbrev VE := Env → Res M
abbrev SB := Env → Res (Bool × Env)
abbrev SA := Env → Res (List M × Env)
abbrev WX' := Value → Option Addr → St → Hp → Prop

def SEok (G : Gx) (W : WX') (t : TE) (f : SE) : Prop := ∀ (Z H : Hp) (σ : St) (env : Env) (S : Rs) (Q : VK), Good G Z H σ env S →
  match f env with
  | .ok (m, env') => (∀ v Z' H' S' T, Stp Z H (U S) Z' H' (fun a => U S' a ∨ T a) → Good G Z' H' σ env' S' → Hld G Z' H' (U S') m T v → Q v H') → t σ H Q
  | .exc e env' => (∀ cls d Z' H' S', ExcAt G H' e cls d → Stp Z H (U S) Z' H' (U S') → Good G Z' H' σ env' S' → W cls d σ H') → t σ H Q
  | .bad => True
/-- nothing is made, nothing changed: the value may lie within the slots' regions -/
def VEok (G : Gx) (t : TE) (f : VE) : Prop := ∀ (Z H : Hp) (σ : St) (env : Env) (S : Rs) (Q : VK), Good G Z H σ env S →
  match f env with
  | .ok m => (∀ v T, (∀ a, T a → U S a) → RepM G Z H m T v → Q v H) → t σ H Q
  | _ => True
def SBok (G : Gx) (W : WX') (t : TT) (f : SB) : Prop := ∀ (Z H : Hp) (σ : St) (env : Env) (S : Rs) (Q : Bool → Hp → Prop), Good G Z H σ env S →
  match f env with
  | .ok (b, env') => (∀ Z' H' S', Stp Z H (U S) Z' H' (U S') → Good G Z' H' σ env' S' → Q b H') → t σ H Q
  | .exc e env' => (∀ cls d Z' H' S', ExcAt G H' e cls d → Stp Z H (U S) Z' H' (U S') → Good G Z' H' σ env' S' → W cls d σ H') → t σ H Q
  | .bad => True
/-- the arguments in the hand: their data are the slots' of a row of their own -/
def SAok (G : Gx) (W : WX') (t : TA) (f : SA) : Prop := ∀ (Z H : Hp) (σ : St) (env : Env) (S : Rs) (Q : List V → Hp → Prop), Good G Z H σ env S →
  match f env with
  | .ok (ms, env') => (∀ vs Z' H' S' T, Stp Z H (U S) Z' H' (fun a => U S' a ∨ U T a) → Good G Z' H' σ env' S' → Good G Z' H' (vs.map some) (ms.map some) T → (∀ a, U T a → ¬ U S' a) → Q vs H') → t σ H Q
  | .exc e env' => (∀ cls d Z' H' S', ExcAt G H' e cls d → Stp Z H (U S) Z' H' (U S') → Good G Z' H' σ env' S' → W cls d σ H') → t σ H Q
  | .bad => True

structure PEs (G : Gx) (X : Cx) (W : WX') (e : Expr) (f : SE) : Prop where
  ex : ∃ t, PE X e t ∧ SEok G W t f
structure PVs (G : Gx) (X : Cx) (e : Expr) (f : VE) : Prop where
  ex : ∃ t, PE X e t ∧ VEok G t f
structure PBs (G : Gx) (X : Cx) (W : WX') (e : Expr) (f : SB) : Prop where
  ex : ∃ t, PT X e t ∧ SBok G W t f
structure PAs (G : Gx) (X : Cx) (W : WX') (es : List Expr) (f : SA) : Prop where
  ex : ∃ t, PA X es t ∧ SAok G W t f

section
variable {G : Gx} {X : Cx} {W : WX'} {e a b c : Expr} {f fa fb : SE} {g ga gb : VE} {pos : Pos}

/-! ### views -/
def vC (x : D) : VE := fun _ => .ok (.d x)
theorem VEok.const {t : TE} {x : D} (h : ∀ Z H σ Q, Same Z H → (∀ v, RepD G Z x v → Q v H) → t σ H Q) : VEok G t (vC x) := fun Z H σ env S Q g q =>
  h Z H σ Q g.zh fun v r => q v (fun _ => False) (fun _ z => z.elim) r.toM
theorem xv_int {i j pos} : PVs G X (.Constant (.int i) j pos) (vC (.int i)) := ⟨_, pe_int, VEok.const fun _ _ _ _ _ q => q _ (by simp [RepD])⟩
theorem xv_bl {b j pos} : PVs G X (.Constant (.bool b) j pos) (vC (.bl b)) := ⟨_, pe_bl, VEok.const fun _ _ _ _ _ q => q _ (by simp [RepD])⟩
theorem xv_non {j pos} : PVs G X (.Constant .none j pos) (vC .non) := ⟨_, pe_non, VEok.const fun _ _ _ _ _ q => q _ (by simp [RepD])⟩
theorem xv_str {x j pos} : PVs G X (.Constant (.str x) j pos) (vC (.str x)) := ⟨_, pe_str, VEok.const fun _ _ _ _ _ q => q _ (by simp [RepD])⟩
def getE (env : Env) (i : Nat) : Res M := match env[i]? with
  | some (some m) => .ok m
  | _ => .bad
def vN (i : Nat) : VE := fun env => getE env i
theorem xv_name (i : Nat) {x : Str} (hN : X.N[i]? = some x := by rfl) (hv : Vis X.env.scope x := by first | exact Or.inl rfl | exact Or.inr (Or.inl rfl) | exact Or.inr (Or.inr rfl)) (hd : (x == ("__debug__" : Str)) = false := by decide)
    (hcd : (x == ("__classdict__" : Str)) = false := by decide) : PVs G X (.Name x pos) (vN i) := by
  refine ⟨_, pe_var hN hv hd hcd, fun Z H σ env S Q gd => ?_⟩
  unfold vN getE
  split
  · rename_i e
    intro q
    split at e
    · rename_i m e'
      cases e
      obtain ⟨v, hv, r⟩ := gd.rep _ _ e'
      exact ⟨v, hv, q v _ (fun a h => ⟨i, h⟩) r⟩
    · cases e
  · trivial
/-- a value that a view gives and that is frozen -/
def sV (g : VE) : SE := fun env => match g env with
  | .ok (.d x) => .ok (.d x, env)
  | _ => .bad
theorem SEok.of_v {t : TE} (h : VEok G t g) : SEok G W t (sV g) := fun Z H σ env S Q gd => by
  have hh := h Z H σ env S Q gd
  unfold sV
  split
  · rename_i e
    split at e
    · rename_i x ex
      cases e
      rw [ex] at hh
      intro q
      refine hh fun v T _ r => ?_
      simp only [RepM] at r
      exact q v Z H S (fun _ => False) ((Stp.refl gd.zh).weak fun _ z => z.elim id fun z => z.elim) gd (Hld.data r)
    · cases e
  · rename_i e; split at e <;> cases e
  · trivial
theorem xe_v (h : PVs G X e g) : PEs G X W e (sV g) := by
  obtain ⟨t, p, h⟩ := h.ex
  exact ⟨t, p, SEok.of_v h⟩
/-- a name's value; what is owned is frozen -/
def sN (i : Nat) : SE := fun env => match getE env i with
  | .ok m => .ok (.d (fz m), match m with | .d _ => env | _ => env.set i (some (.d (fz m))))
  | _ => .bad
/-- a name's value is taken out of its slot -/
def sT (i : Nat) : SE := fun env => match getE env i with
  | .ok m => .ok (m, env.set i none)
  | _ => .bad
theorem getE_ok {env : Env} {i : Nat} {m : M} (h : getE env i = .ok m) : env[i]? = some (some m) := by
  unfold getE at h
  split at h
  · rename_i e; cases h; exact e
  · cases h
theorem getE_cases (env : Env) (i : Nat) : (∃ m, getE env i = .ok m) ∨ getE env i = .bad := by
  unfold getE
  split
  · exact .inl ⟨_, rfl⟩
  · exact .inr rfl
theorem Good.frozen {Z H : Hp} {σ : St} {env : Env} {S : Rs} {i : Nat} {m : M} (gd : Good G Z H σ env S) (em : env[i]? = some (some m)) :
    ∃ v, σ[i]? = some (some v) ∧ RepD G (Fzp Z H (S i)) (fz m) v ∧ Good G (Fzp Z H (S i)) H σ (env.set i (some (.d (fz m)))) (S.set i fun _ => False) ∧ Stp Z H (U S) (Fzp Z H (S i)) H (U (S.set i fun _ => False)) := by
  obtain ⟨v, hv, g1, h1⟩ := gd.take em
  have h2 := h1.frozen gd.zh
  have st : Stp Z H (U S) (Fzp Z H (S i)) H (U (S.set i fun _ => False)) := h2.2.from fun a q => q.elim Rs.wipe_le fun q => ⟨i, q⟩
  have s3 : Stp Z H (S i) (Fzp Z H (S i)) H (S i) := ⟨frz_old gd.zh, frz_sub gd.zh, fun _ _ e _ => e, fun _ q => .inl q, fun a q => by
    by_cases sa : S i a
    · exact .inr (.inl sa)
    · rw [frz_out sa] at q; exact .inl q⟩
  have g2 := (g1.move s3 (fun a q r => h1.dj a r q)).1
  have g3 := g2.back (Hld.data (R := U (S.set i fun _ => False)) h2.1) hv
  have e1 : (env.set i none).set i (some (M.d (fz m))) = env.set i (some (M.d (fz m))) := List.set_set ..
  have e2 : (S.set i fun _ => False).set i (fun _ => False) = (S.set i fun _ => False) := by
    funext j; unfold Rs.set; split <;> rfl
  rw [e1, e2] at g3
  exact ⟨v, hv, h2.1, g3, st⟩
theorem xe_name (i : Nat) {x : Str} (hN : X.N[i]? = some x := by rfl) (hv : Vis X.env.scope x := by first | exact Or.inl rfl | exact Or.inr (Or.inl rfl) | exact Or.inr (Or.inr rfl)) (hd : (x == ("__debug__" : Str)) = false := by decide)
    (hcd : (x == ("__classdict__" : Str)) = false := by decide) : PEs G X W (.Name x pos) (sN i) := by
  refine ⟨_, pe_var hN hv hd hcd, fun Z H σ env S Q gd => ?_⟩
  unfold sN
  rcases getE_cases env i with ⟨m, e⟩ | e
  · rw [e]
    have em := getE_ok e
    cases hm : m with
    | d x =>
      subst hm
      simp only [fz]
      intro q
      obtain ⟨v, hv, r⟩ := gd.rep i _ em
      simp only [RepM] at r
      exact ⟨v, hv, q v Z H S (fun _ => False) ((Stp.refl gd.zh).weak fun _ z => z.elim id fun z => z.elim) gd (Hld.data r)⟩
    | _ =>
      rw [← hm]
      intro q
      obtain ⟨v, hv, r, g', st⟩ := gd.frozen em
      refine ⟨v, hv, q v _ H _ (fun _ => False) (st.weak fun _ z => z.elim id fun z => z.elim) ?_ (Hld.data r)⟩
      subst hm
      exact g'
  · rw [e]; trivial
theorem xe_take (i : Nat) {x : Str} (hN : X.N[i]? = some x := by rfl) (hv : Vis X.env.scope x := by first | exact Or.inl rfl | exact Or.inr (Or.inl rfl) | exact Or.inr (Or.inr rfl)) (hd : (x == ("__debug__" : Str)) = false := by decide)
    (hcd : (x == ("__classdict__" : Str)) = false := by decide) : PEs G X W (.Name x pos) (sT i) := by
  refine ⟨_, pe_var hN hv hd hcd, fun Z H σ env S Q gd => ?_⟩
  unfold sT
  rcases getE_cases env i with ⟨m, e⟩ | e
  · rw [e]
    intro q
    obtain ⟨v, hv, g1, h1⟩ := gd.take (getE_ok e)
    exact ⟨v, hv, q v Z H _ (S i) ((Stp.refl gd.zh).weak fun a z => z.elim Rs.wipe_le fun z => ⟨i, z⟩) g1 h1⟩
  · rw [e]; trivial
end
end FL

set_option maxHeartbeats 2000000
/-! FLC: operators, comparisons, subscripts, len, isinstance. -/
namespace FL
open PySem L2 Classical

/-! ### reading data off the heap -/
mutual
def toPy : D → PyData
  | .non => .none
  | .bl b => .bool b
  | .int i => .int i
  | .str x => .str x
  | .tup xs => .tuple (toPys xs)
  | .lst xs => .list (toPys xs)
  | .scr xs => .list (toPys xs)
  | .fn _ => .dict []
  | .exc _ => .dict []
  | .dic _ _ => .dict []
  | .ins _ _ _ => .dict []
def toPys : List D → List PyData
  | [] => []
  | x :: xs => toPy x :: toPys xs
end
section
variable {G : Gx} {Z H : Hp}
mutual
theorem RepD.dp (zh : Same Z H) : ∀ (x : D) (v : V), (toPy x).plain = true → RepD G Z x v → Dp G.K H v (toPy x)
  | .non, _, _, r => by simp only [RepD] at r; subst r; exact .non
  | .bl b, _, _, r => by simp only [RepD] at r; subst r; exact .bl b
  | .int b, _, _, r => by simp only [RepD] at r; subst r; exact .int b
  | .str b, _, _, r => by simp only [RepD] at r; subst r; exact .str b
  | .tup xs, _, p, r => by
    simp only [RepD] at r
    obtain ⟨a, vs, rfl, q, r⟩ := r
    simp only [toPy, PyData.plain] at p
    exact .tup (Same.seqT zh q) (RepDs.dp zh xs vs p r)
  | .lst xs, _, p, r => by
    simp only [RepD] at r
    obtain ⟨a, vs, rfl, q, r⟩ := r
    simp only [toPy, PyData.plain] at p
    exact .lst (SqL.of (zh _ _ q)) (RepDs.dp zh xs vs p r)
  | .scr xs, _, p, r => by
    simp only [RepD] at r
    obtain ⟨a, vs, rfl, q, r⟩ := r
    simp only [toPy, PyData.plain] at p
    exact .lst (zh.seq q) (RepDs.dp zh xs vs p r)
  | .fn _, _, p, _ => by simp only [toPy, PyData.plain] at p; cases p
  | .exc _, _, p, _ => by simp only [toPy, PyData.plain] at p; cases p
  | .dic _ _, _, p, _ => by simp only [toPy, PyData.plain] at p; cases p
  | .ins _ _ _, _, p, _ => by simp only [toPy, PyData.plain] at p; cases p
theorem RepDs.dp (zh : Same Z H) : ∀ (xs : List D) (vs : List V), PyData.plainAll (toPys xs) = true → RepDs G Z xs vs → DpAll G.K H vs (toPys xs)
  | [], _, _, r => by simp only [RepDs] at r; subst r; exact .nil
  | x :: xs, _, p, r => by
    simp only [RepDs] at r
    obtain ⟨v, r', rfl, q, r⟩ := r
    simp only [toPys, PyData.plainAll, Bool.and_eq_true] at p
    exact .cons (RepD.dp zh x v p.1 q) (RepDs.dp zh xs r' p.2 r)
end
theorem RepM.dp (zh : Same Z H) {m : M} {T : Rg} {v : V} (r : RepM G Z H m T v) (p : (toPy (fz m)).plain = true) : Dp G.K H v (toPy (fz m)) :=
  RepD.dp (Same.refl H) (fz m) v p (RepM.frz zh m T v (fun _ _ _ e => e) r)

def M.seq : M → Option (Bool × List M)
  | .d (.lst xs) => some (false, xs.map .d)
  | .d (.scr xs) => some (false, xs.map .d)
  | .d (.tup xs) => some (true, xs.map .d)
  | .lst ms => some (false, ms)
  | .tup ms => some (true, ms)
  | _ => none
theorem RepM.seq (zh : Same Z H) {m : M} {T : Rg} {v : V} {b : Bool} {ms : List M} (r : RepM G Z H m T v) (e : m.seq = some (b, ms)) :
    ∃ a vs, v = .ref a ∧ (b = true → SqT G.K H a vs) ∧ (b = false → SqL G.K H a vs) ∧ RepMs G Z H ms T vs := by
  cases m with
  | d x =>
    simp only [RepM] at r
    cases x with
    | lst xs =>
      simp only [M.seq, Option.some.injEq, Prod.mk.injEq] at e
      obtain ⟨rfl, rfl⟩ := e
      simp only [RepD] at r
      obtain ⟨a, vs, rfl, q, r⟩ := r
      exact ⟨a, vs, rfl, (fun h => nomatch h), fun _ => SqL.of (zh _ _ q), r.toM⟩
    | scr xs =>
      simp only [M.seq, Option.some.injEq, Prod.mk.injEq] at e
      obtain ⟨rfl, rfl⟩ := e
      simp only [RepD] at r
      obtain ⟨a, vs, rfl, q, r⟩ := r
      exact ⟨a, vs, rfl, (fun h => nomatch h), fun _ => zh.seq q, r.toM⟩
    | tup xs =>
      simp only [M.seq, Option.some.injEq, Prod.mk.injEq] at e
      obtain ⟨rfl, rfl⟩ := e
      simp only [RepD] at r
      obtain ⟨a, vs, rfl, q, r⟩ := r
      exact ⟨a, vs, rfl, fun _ => Same.seqT zh q, (fun h => nomatch h), r.toM⟩
    | _ => simp [M.seq] at e
  | lst xs =>
    simp only [M.seq, Option.some.injEq, Prod.mk.injEq] at e
    obtain ⟨rfl, rfl⟩ := e
    simp only [RepM] at r
    obtain ⟨a, vs, T', rfl, sa, ta, ts, ho, r⟩ := r
    exact ⟨a, vs, rfl, (fun h => nomatch h), fun _ => SqL.of ho, RepMs.mono (Same.refl _) _ _ _ _ ts (fun _ _ _ z => z) r⟩
  | tup xs =>
    simp only [M.seq, Option.some.injEq, Prod.mk.injEq] at e
    obtain ⟨rfl, rfl⟩ := e
    simp only [RepM] at r
    obtain ⟨a, vs, T', rfl, sa, ta, ts, ho, r⟩ := r
    exact ⟨a, vs, rfl, fun _ => SqT.of ho, (fun h => nomatch h), RepMs.mono (Same.refl _) _ _ _ _ ts (fun _ _ _ z => z) r⟩
  | _ => simp [M.seq] at e
end

/-! ### two-place operations whose answer is plain -/
abbrev DOp := M → M → Res D
def VOP (G : Gx) (r : R2) (op : DOp) : Prop := ∀ (Z H : Hp) (m1 : M) (T1 : Rg) (v1 : V) (m2 : M) (T2 : Rg) (v2 : V) (Q : VK), Same Z H → RepM G Z H m1 T1 v1 → RepM G Z H m2 T2 v2 →
  match op m1 m2 with
  | .ok x => (∀ u, RepD G Z x u → Q u H) → r v1 v2 H Q
  | _ => True
def v2 (op : DOp) (ga gb : VE) : VE := fun env => match ga env, gb env with
  | .ok m1, .ok m2 => match op m1 m2 with
    | .ok x => .ok (.d x)
    | _ => .bad
  | _, _ => .bad
def s2 (op : DOp) (fa fb : SE) : SE := fun env => match fa env with
  | .ok (m1, e1) => match fb e1 with
    | .ok (m2, e2) => match op m1 m2 with
      | .ok x => .ok (.d x, e2)
      | _ => .bad
    | .exc e v => .exc e v
    | .bad => .bad
  | .exc e v => .exc e v
  | .bad => .bad
/-- the left a name's slot as it is -/
def s2n (op : DOp) (i : Nat) (fb : SE) : SE := fun env => match getE env i with
  | .ok _ => match fb env with
    | .ok (m2, e2) => match getE e2 i with
      | .ok m1 => match op m1 m2 with
        | .ok x => .ok (.d x, e2)
        | _ => .bad
      | _ => .bad
    | .exc e v => .exc e v
    | .bad => .bad
  | _ => .bad
/-- the right a view -/
def s2v (op : DOp) (fa : SE) (gb : VE) : SE := fun env => match fa env with
  | .ok (m1, e1) => match gb e1 with
    | .ok m2 => match op m1 m2 with
      | .ok x => .ok (.d x, e1)
      | _ => .bad
    | _ => .bad
  | .exc e v => .exc e v
  | .bad => .bad
section
variable {G : Gx} {X : Cx} {W : WX'} {r : R2} {op : DOp} {ta tb : TE} {fa fb : SE} {ga gb : VE} {a b : Expr} {pos : Pos}
theorem VEok.bin (h : VOP G r op) (ha : VEok G ta ga) (hb : VEok G tb gb) : VEok G (tOp r ta tb) (v2 op ga gb) := fun Z H σ env S Q gd => by
  have h1 := ha Z H σ env S (fun x H1 => tb σ H1 fun y H2 => r x y H2 Q) gd
  unfold v2
  split
  · rename_i e
    intro q
    split at e
    · rename_i m1 m2 e1 e2
      split at e
      · rename_i x ex
        cases e
        rw [e1] at h1
        refine h1 fun v T1 _ r1 => ?_
        have h2 := hb Z H σ env S (fun y H2 => r v y H2 Q) gd
        rw [e2] at h2
        refine h2 fun w T2 _ r2 => ?_
        have h3 := h Z H m1 T1 v m2 T2 w Q gd.zh r1 r2
        rw [ex] at h3
        exact h3 fun u ru => q u (fun _ => False) (fun _ z => z.elim) ru.toM
      · cases e
    · cases e
  · trivial
theorem SEok.bin (h : VOP G r op) (ha : SEok G W ta fa) (hb : SEok G W tb fb) : SEok G W (tOp r ta tb) (s2 op fa fb) := fun Z H σ env S Q gd => by
  have h1 := ha Z H σ env S (fun x H1 => tb σ H1 fun y H2 => r x y H2 Q) gd
  unfold s2
  cases e1 : fa env with
  | bad => trivial
  | exc e v => rw [e1] at h1; exact h1
  | ok p =>
    obtain ⟨m1, env1⟩ := p
    rw [e1] at h1
    simp only
    cases e2 : fb env1 with
    | bad => trivial
    | exc e v =>
      intro q
      refine h1 fun v1 Z1 H1 S1 T1 s1 g1 l1 => ?_
      have h2 := hb Z1 H1 σ env1 S1 (fun y H2 => r v1 y H2 Q) g1
      rw [e2] at h2
      refine h2 fun cls d Z2 H2 S2 x2 s2 g2 => ?_
      have s2' := (s2.frame T1).weak (R2 := U S2) fun _ z => .inl z
      exact q cls d Z2 H2 S2 x2 (s1.trans s2') g2
    | ok p2 =>
      obtain ⟨m2, env2⟩ := p2
      simp only
      cases e3 : op m1 m2 with
      | ok x =>
        intro q
        refine h1 fun v1 Z1 H1 S1 T1 s1 g1 l1 => ?_
        have h2 := hb Z1 H1 σ env1 S1 (fun y H2 => r v1 y H2 Q) g1
        rw [e2] at h2
        refine h2 fun w2 Z2 H2 S2 T2 s2 g2 l2 => ?_
        have l1' := l1.step s2
        have h3 := h Z2 H2 m1 T1 v1 m2 T2 w2 Q g2.zh l1'.rep l2.rep
        rw [e3] at h3
        refine h3 fun u ru => ?_
        have s2' := (s2.frame T1).weak (R2 := fun a => U S2 a ∨ False) fun _ z => .inl (.inl (z.elim id fun z => z.elim))
        exact q u Z2 H2 S2 (fun _ => False) (s1.trans s2') g2 (Hld.data ru)
      | _ => trivial
theorem SEok.binN {i : Nat} (h : VOP G r op) (hb : SEok G W tb fb) : SEok G W (tOp r (tVar i) tb) (s2n op i fb) := fun Z H σ env S Q gd => by
  unfold s2n
  rcases getE_cases env i with ⟨m0, e0⟩ | e0
  · rw [e0]
    obtain ⟨v, hv, _⟩ := gd.rep i m0 (getE_ok e0)
    have h2 := hb Z H σ env S (fun y H2 => r v y H2 Q) gd
    simp only
    cases e2 : fb env with
    | bad => trivial
    | exc e w => rw [e2] at h2; intro q; exact ⟨v, hv, h2 q⟩
    | ok p2 =>
      obtain ⟨m2, env2⟩ := p2
      rw [e2] at h2
      simp only
      rcases getE_cases env2 i with ⟨m1, e1⟩ | e1
      · rw [e1]
        simp only
        cases e3 : op m1 m2 with
        | ok x =>
          intro q
          refine ⟨v, hv, h2 fun w2 Z2 H2 S2 T2 s2 g2 l2 => ?_⟩
          obtain ⟨v', hv', r1⟩ := g2.rep i m1 (getE_ok e1)
          rw [hv] at hv'; cases hv'
          have h3 := h Z2 H2 m1 _ v m2 T2 w2 Q g2.zh r1 l2.rep
          rw [e3] at h3
          exact h3 fun u ru => q u Z2 H2 S2 (fun _ => False) (s2.weak fun _ z => .inl (z.elim id fun z => z.elim)) g2 (Hld.data ru)
        | _ => trivial
      · rw [e1]; trivial
  · rw [e0]; trivial
theorem SEok.binV (h : VOP G r op) (ha : SEok G W ta fa) (hb : VEok G tb gb) : SEok G W (tOp r ta tb) (s2v op fa gb) := fun Z H σ env S Q gd => by
  have h1 := ha Z H σ env S (fun x H1 => tb σ H1 fun y H2 => r x y H2 Q) gd
  unfold s2v
  cases e1 : fa env with
  | bad => trivial
  | exc e v => rw [e1] at h1; exact h1
  | ok p =>
    obtain ⟨m1, env1⟩ := p
    rw [e1] at h1
    simp only
    cases e2 : gb env1 with
    | ok m2 =>
      simp only
      cases e3 : op m1 m2 with
      | ok x =>
        intro q
        refine h1 fun v1 Z1 H1 S1 T1 s1 g1 l1 => ?_
        have h2 := hb Z1 H1 σ env1 S1 (fun y H2 => r v1 y H2 Q) g1
        rw [e2] at h2
        refine h2 fun w2 T2 _ r2 => ?_
        have h3 := h Z1 H1 m1 T1 v1 m2 T2 w2 Q g1.zh l1.rep r2
        rw [e3] at h3
        exact h3 fun u ru => q u Z1 H1 S1 (fun _ => False) (s1.weak fun _ z => .inl (z.elim id fun z => z.elim)) g1 (Hld.data ru)
      | _ => trivial
    | _ => trivial

/-! the three kinds -/
theorem xv_op {o : Operator} (ho : OpR X (binaryOp o) r) (h : VOP G r op) (ha : PVs G X a ga) (hb : PVs G X b gb) : PVs G X (.BinOp a o b pos) (v2 op ga gb) := by
  obtain ⟨ta, pa, ha⟩ := ha.ex
  obtain ⟨tb, pb, hb⟩ := hb.ex
  exact ⟨_, pe_op ho pa pb, VEok.bin h ha hb⟩
theorem xe_op {o : Operator} (ho : OpR X (binaryOp o) r) (h : VOP G r op) (ha : PEs G X W a fa) (hb : PEs G X W b fb) : PEs G X W (.BinOp a o b pos) (s2 op fa fb) := by
  obtain ⟨ta, pa, ha⟩ := ha.ex
  obtain ⟨tb, pb, hb⟩ := hb.ex
  exact ⟨_, pe_op ho pa pb, SEok.bin h ha hb⟩
theorem xv_cmp {o : CmpOp} (ho : OpR X (compareOp o) r) (h : VOP G r op) (ha : PVs G X a ga) (hb : PVs G X b gb) (hm : behindInMarks o b = false) : PVs G X (.Compare a [o] [b] pos) (v2 op ga gb) := by
  obtain ⟨ta, pa, ha⟩ := ha.ex
  obtain ⟨tb, pb, hb⟩ := hb.ex
  exact ⟨_, pe_cmpR ho pa pb hm, VEok.bin h ha hb⟩
theorem xe_cmp {o : CmpOp} (ho : OpR X (compareOp o) r) (h : VOP G r op) (ha : PEs G X W a fa) (hb : PEs G X W b fb) (hm : behindInMarks o b = false) : PEs G X W (.Compare a [o] [b] pos) (s2 op fa fb) := by
  obtain ⟨ta, pa, ha⟩ := ha.ex
  obtain ⟨tb, pb, hb⟩ := hb.ex
  exact ⟨_, pe_cmpR ho pa pb hm, SEok.bin h ha hb⟩
theorem xe_cmpN {o : CmpOp} (i : Nat) {x : Str} {p1 : Pos} (ho : OpR X (compareOp o) r) (h : VOP G r op) (hb : PEs G X W b fb) (hm : behindInMarks o b = false) (hN : X.N[i]? = some x := by rfl) (hv : Vis X.env.scope x := by first | exact Or.inl rfl | exact Or.inr (Or.inl rfl) | exact Or.inr (Or.inr rfl))
    (hd : (x == ("__debug__" : Str)) = false := by decide) (hcd : (x == ("__classdict__" : Str)) = false := by decide) : PEs G X W (.Compare (.Name x p1) [o] [b] pos) (s2n op i fb) := by
  obtain ⟨tb, pb, hb⟩ := hb.ex
  exact ⟨_, pe_cmpR ho (pe_var hN hv hd hcd) pb hm, SEok.binN h hb⟩
theorem xe_cmpV {o : CmpOp} (ho : OpR X (compareOp o) r) (h : VOP G r op) (ha : PEs G X W a fa) (hb : PVs G X b gb) (hm : behindInMarks o b = false) : PEs G X W (.Compare a [o] [b] pos) (s2v op fa gb) := by
  obtain ⟨ta, pa, ha⟩ := ha.ex
  obtain ⟨tb, pb, hb⟩ := hb.ex
  exact ⟨_, pe_cmpR ho pa pb hm, SEok.binV h ha hb⟩
theorem xe_ixS (ho : IxR X r) (h : VOP G r op) (ha : PEs G X W a fa) (hb : PVs G X b gb) (hs : PlainIx b := by exact fun _ _ => rfl) : PEs G X W (.Subscript a b pos) (s2v op fa gb) := by
  obtain ⟨ta, pa, ha⟩ := ha.ex
  obtain ⟨tb, pb, hb⟩ := hb.ex
  exact ⟨_, pe_ix ho pa pb hs, SEok.binV h ha hb⟩
end

/-! ### numbers and texts -/
theorem rep_int {G : Gx} {Z H : Hp} {i : Int} {T : Rg} {v : V} (r : RepM G Z H (.d (.int i)) T v) : v = .int i := by simpa [RepM, RepD] using r
theorem rep_str {G : Gx} {Z H : Hp} {i : Str} {T : Rg} {v : V} (r : RepM G Z H (.d (.str i)) T v) : v = .str i := by simpa [RepM, RepD] using r
theorem rep_bl {G : Gx} {Z H : Hp} {i : Bool} {T : Rg} {v : V} (r : RepM G Z H (.d (.bl i)) T v) : v = .bl i := by simpa [RepM, RepD] using r
theorem rep_non {G : Gx} {Z H : Hp} {T : Rg} {v : V} (r : RepM G Z H (.d .non) T v) : v = .non := by simpa [RepM, RepD] using r
/-- two ints in -/
def dI (C : Int → Int → Prop) [∀ i j, Decidable (C i j)] (g : Int → Int → D) : DOp
  | .d (.int i), .d (.int j) => if C i j then .ok (g i j) else .bad
  | _, _ => .bad
/-- two texts in -/
def dS (C : Str → Str → Prop) [∀ i j, Decidable (C i j)] (g : Str → Str → D) : DOp
  | .d (.str i), .d (.str j) => if C i j then .ok (g i j) else .bad
  | _, _ => .bad
def dOr (f g : DOp) : DOp := fun a b => match f a b with
  | .ok x => .ok x
  | _ => g a b
def rOr (r r' : R2) : R2 := fun x y H Q => r x y H Q ∨ r' x y H Q
theorem OpR.orR {X : Cx} {f : Value → Value → Sem Value} {r r' : R2} (h : OpR X f r) (h' : OpR X f r') : OpR X f (rOr r r') :=
  fun pins s σ H x y v u Q I rx ry q => q.elim (h pins s σ H x y v u Q I rx ry) (h' pins s σ H x y v u Q I rx ry)
theorem VOP.or {G : Gx} {r r' : R2} {f g : DOp} (h : VOP G r f) (h' : VOP G r' g) : VOP G (rOr r r') (dOr f g) := fun Z H m1 T1 v1 m2 T2 v2 Q zh r1 r2 => by
  have a := h Z H m1 T1 v1 m2 T2 v2 Q zh r1 r2
  have b := h' Z H m1 T1 v1 m2 T2 v2 Q zh r1 r2
  unfold dOr
  cases e : f m1 m2 with
  | ok x => rw [e] at a; exact fun q => .inl (a q)
  | _ =>
    simp only
    cases e' : g m1 m2 with
    | ok x => rw [e'] at b; exact fun q => .inr (b q)
    | _ => trivial
theorem vop_I {G : Gx} {C : Int → Int → Prop} [∀ i j, Decidable (C i j)] {g : Int → Int → D} {g' : Int → Int → V} (h : ∀ i j, C i j → ∀ Z, RepD G Z (g i j) (g' i j)) : VOP G (rI C g') (dI C g) := fun Z H m1 T1 v1 m2 T2 v2 Q zh r1 r2 => by
  unfold dI
  split
  · rename_i e
    intro q
    split at e
    · rename_i i j
      split at e
      · rename_i hc
        cases e
        exact ⟨i, j, rep_int r1, rep_int r2, hc, q _ (h i j hc Z)⟩
      · cases e
    · cases e
  · trivial
theorem vop_I0 {G : Gx} {g : Int → Int → D} {g' : Int → Int → V} (h : ∀ i j Z, RepD G Z (g i j) (g' i j)) : VOP G (rI0 g') (dI (fun _ _ => True) g) := fun Z H m1 T1 v1 m2 T2 v2 Q zh r1 r2 => by
  unfold dI
  split
  · rename_i e
    intro q
    split at e
    · rename_i i j
      simp only [if_true] at e
      cases e
      exact ⟨i, j, rep_int r1, rep_int r2, q _ (h i j Z)⟩
    · cases e
  · trivial
theorem vop_S {G : Gx} {C : Str → Str → Prop} [∀ i j, Decidable (C i j)] {g : Str → Str → D} {g' : Str → Str → V} (h : ∀ i j, C i j → ∀ Z, RepD G Z (g i j) (g' i j)) : VOP G (fun x y H Q => ∃ i j, x = .str i ∧ y = .str j ∧ C i j ∧ Q (g' i j) H) (dS C g) :=
  fun Z H m1 T1 v1 m2 T2 v2 Q zh r1 r2 => by
  unfold dS
  split
  · rename_i e
    intro q
    split at e
    · rename_i i j
      split at e
      · rename_i hc
        cases e
        exact ⟨i, j, rep_str r1, rep_str r2, hc, q _ (h i j hc Z)⟩
      · cases e
    · cases e
  · trivial
theorem vop_S0 {G : Gx} {g : Str → Str → D} {g' : Str → Str → V} (h : ∀ i j, ∀ Z, RepD G Z (g i j) (g' i j)) : VOP G (fun x y H Q => ∃ i j, x = .str i ∧ y = .str j ∧ Q (g' i j) H) (dS (fun _ _ => True) g) :=
  fun Z H m1 T1 v1 m2 T2 v2 Q zh r1 r2 => by
  unfold dS
  split
  · rename_i e
    intro q
    split at e
    · rename_i i j
      simp only [if_true] at e
      cases e
      exact ⟨i, j, rep_str r1, rep_str r2, q _ (h i j Z)⟩
    · cases e
  · trivial

theorem intD {G : Gx} {Z : Hp} {i : Int} : RepD G Z (.int i) (.int i) := by simp [RepD]
theorem blD {G : Gx} {Z : Hp} {i : Bool} : RepD G Z (.bl i) (.bl i) := by simp [RepD]
theorem strD {G : Gx} {Z : Hp} {i : Str} : RepD G Z (.str i) (.str i) := by simp [RepD]

/-- floor division by any divisor but 0, below 2 ^ 9000 -/
abbrev CFdiv (i j : Int) : Prop := j ≠ 0 ∧ j.natAbs.log2 < 9000
def fdivI (i j : Int) : Int := if 0 < j then i / j else i.fdiv j
def modI (i j : Int) : Int := if 0 < j then i % j else i.fmod j
theorem fdivI_eq (i j : Int) : i.fdiv j = fdivI i j := by
  unfold fdivI
  split
  · rename_i h; exact Int.fdiv_eq_ediv_of_nonneg i (by omega)
  · rfl
theorem modI_eq (i j : Int) : i.fmod j = modI i j := by
  unfold modI
  split
  · rename_i h; exact Int.fmod_eq_emod_of_nonneg i (by omega)
  · rfl
abbrev CMulD (i j : Int) : Prop := i.natAbs.log2 + j.natAbs.log2 < 130000000
theorem mulOkD {i j : Int} (h : CMulD i j) : PySem.IntMulOk i j := by
  have b : ∀ x : Int, Builtin.Int.intBits x ≤ x.natAbs.log2 + 1 := fun x => by
    unfold Builtin.Int.intBits
    split <;> omega
  have h1 := b i
  have h2 := b j
  have h3 : i.natAbs.log2 + j.natAbs.log2 < 130000000 := h
  have e : bitsLine = 134217728 := by decide
  unfold PySem.IntMulOk
  intro z
  rw [Bool.and_eq_true] at z
  have z2 := z.2
  unfold Builtin.Int.intTooBig at z2
  have z3 := of_decide_eq_true z2
  rw [e] at z3
  omega
abbrev CPowD (i j : Int) : Prop := 0 ≤ j ∧ j ≤ 1000000 ∧ i.natAbs < 2 ^ 64
section
variable {G : Gx} {X : Cx}
theorem op_fdivG : OpR X (binaryOp .FloorDiv) (rI CFdiv fun i j => .int (fdivI i j)) := opI fun i j _ _ _ _ _ hc q => PyProof.Rows.floordiv_int hc.1 (by rw [fdivI_eq]; exact q) (.inl (PyProof.noPylong_of_log2 hc.2))
theorem op_modG : OpR X (binaryOp .Mod) (rI (fun _ j => j ≠ 0) fun i j => .int (modI i j)) := opI fun i j _ _ _ _ _ hc q => PyProof.Rows.mod_int' hc (by rw [modI_eq]; exact q)
end
def oAdd : DOp := dOr (dI (fun _ _ => True) fun i j => .int (i + j)) (dS (fun i j => i.length + j.length ≤ sizeLine) fun i j => .str (i ++ j))
def oSub : DOp := dI (fun _ _ => True) fun i j => .int (i - j)
def oMul : DOp := dI CMulD fun i j => .int (i * j)
def oFdiv : DOp := dI CFdiv fun i j => .int (fdivI i j)
def oMod : DOp := dI (fun _ j => j ≠ 0) fun i j => .int (modI i j)
def oPow : DOp := dI CPowD fun i j => .int (i ^ j.toNat)
def oLt : DOp := dOr (dI (fun _ _ => True) fun i j => .bl (decide (i < j))) (dS (fun _ _ => True) fun i j => .bl (decide (i.cps.toList < j.cps.toList)))
def oLe : DOp := dOr (dI (fun _ _ => True) fun i j => .bl (decide (i ≤ j))) (dS (fun _ _ => True) fun i j => .bl (!decide (j.cps.toList < i.cps.toList)))
def oGt : DOp := dOr (dI (fun _ _ => True) fun i j => .bl (decide (j < i))) (dS (fun _ _ => True) fun i j => .bl (decide (j.cps.toList < i.cps.toList)))
def oGe : DOp := dOr (dI (fun _ _ => True) fun i j => .bl (decide (j ≤ i))) (dS (fun _ _ => True) fun i j => .bl (!decide (i.cps.toList < j.cps.toList)))
/-- data are alike -/
def eqD (x y : D) : Bool := PyData.eqv (toPy x) (toPy y)
abbrev CEq (x y : D) : Prop := (toPy x).plain = true ∧ (toPy y).plain = true ∧ min (toPy x).depth (toPy y).depth ≤ 60
def oEq : DOp := fun m1 m2 => if CEq (fz m1) (fz m2) then .ok (.bl (eqD (fz m1) (fz m2))) else .bad
def oNe : DOp := fun m1 m2 => if CEq (fz m1) (fz m2) then .ok (.bl (!eqD (fz m1) (fz m2))) else .bad
def isNon : M → Bool
  | .d .non => true
  | _ => false
def oIs : DOp := fun m1 m2 => match m1, m2 with
  | m, .d .non => .ok (.bl (isNon m))
  | .d (.bl a), .d (.bl b) => .ok (.bl (a == b))
  | _, _ => .bad
def oIsNot : DOp := fun m1 m2 => match m1, m2 with
  | m, .d .non => .ok (.bl (!isNon m))
  | _, _ => .bad
/-- a flat thing among flat ones, one sign in a text -/
def flatD : D → Bool
  | .non => true | .bl _ => true | .int _ => true | .str _ => true
  | _ => false
def flatM : M → Bool
  | .d x => flatD x
  | _ => false
def D.V : D → V
  | .non => .non | .bl b => .bl b | .int i => .int i | .str x => .str x
  | _ => .non
def M.V : M → V
  | .d x => x.V
  | _ => .non
def inM (m1 m2 : M) : Res Bool := match m2.seq with
  | some (_, ms) => if flatM m1 = true ∧ ms.all flatM = true then .ok (inV m1.V (ms.map M.V)) else .bad
  | none => match m1, m2 with
    | .d (.str w), .d (.str z) => match w.cps.toList with
      | [c] => .ok (decide (c ∈ z.cps.toList))
      | _ => .bad
    | _, _ => .bad
def oIn : DOp := fun m1 m2 => match inM m1 m2 with
  | .ok b => .ok (.bl b)
  | _ => .bad
def oNotIn : DOp := fun m1 m2 => match inM m1 m2 with
  | .ok b => .ok (.bl (!b))
  | _ => .bad
theorem flat_rep {G : Gx} {Z H : Hp} {m : M} {T : Rg} {v : V} (r : RepM G Z H m T v) (f : flatM m = true) : v = m.V ∧ flatV v = true := by
  cases m with
  | d x =>
    simp only [RepM] at r
    cases x <;> simp_all [RepD, M.V, D.V, flatM, flatD, flatV]
  | _ => simp [flatM] at f
theorem flats_rep {G : Gx} {Z H : Hp} : ∀ {ms : List M} {T : Rg} {vs : List V}, RepMs G Z H ms T vs → ms.all flatM = true → vs = ms.map M.V ∧ vs.all flatV = true
  | [], _, _, r, _ => by simp only [RepMs] at r; subst r; exact ⟨rfl, rfl⟩
  | m :: ms, _, _, r, f => by
    simp only [RepMs] at r
    obtain ⟨v, r', T1, T2, rfl, _, _, _, q, r⟩ := r
    rw [List.all_cons, Bool.and_eq_true] at f
    obtain ⟨h1, h2⟩ := flat_rep q f.1
    obtain ⟨h3, h4⟩ := flats_rep r f.2
    exact ⟨by rw [List.map_cons, ← h1, ← h3], by rw [List.all_cons, h2, h4]; rfl⟩
def rEqP (K : PySem.W.Frag) : R2 := fun x y H Q => ∃ d e : PyData, Dp K H x d ∧ Dp K H y e ∧ d.plain = true ∧ e.plain = true ∧ min d.depth e.depth ≤ 60 ∧ Q (.bl (PyData.eqv d e)) H
def rNeP (K : PySem.W.Frag) : R2 := fun x y H Q => ∃ d e : PyData, Dp K H x d ∧ Dp K H y e ∧ d.plain = true ∧ e.plain = true ∧ min d.depth e.depth ≤ 60 ∧ Q (.bl (!PyData.eqv d e)) H
theorem one_sign {w : Str} {c : Nat} (h : w.cps.toList = [c]) : w = ⟨#[c]⟩ := by
  obtain ⟨a⟩ := w
  obtain ⟨l⟩ := a
  have h' : l = [c] := h
  subst h'
  rfl
section
variable {G : Gx} {X : Cx}
theorem op_eqP (hu : X.A.units + 64 < cLine) : OpR X (compareOp .Eq) (rEqP X.K) := by
  intro pins s σ H x y v u Q I rx ry h
  obtain ⟨d, e, hd, he, pd, pe, md, q⟩ := h
  obtain ⟨as, r1⟩ := Dp.reads I d x v hd rx
  obtain ⟨bs, r2⟩ := Dp.reads I e y u he ry
  exact PySem.SeqAt.eq_plain r1 r2 pd pe (by omega) ⟨.bl _, H, I, rfl, q⟩
theorem op_neP (hu : X.A.units + 64 < cLine) : OpR X (compareOp .NotEq) (rNeP X.K) := by
  intro pins s σ H x y v u Q I rx ry h
  obtain ⟨d, e, hd, he, pd, pe, md, q⟩ := h
  obtain ⟨as, r1⟩ := Dp.reads I d x v hd rx
  obtain ⟨bs, r2⟩ := Dp.reads I e y u he ry
  exact PySem.SeqAt.ne_plain r1 r2 pd pe (by omega) ⟨.bl _, H, I, rfl, q⟩
end
end FL

set_option maxHeartbeats 2000000
/-! FLD: the operators' rules; arguments, displays, calls. -/
namespace FL
open PySem L2 Classical

section
variable {G : Gx} {X : Cx}
theorem vop_add : VOP G (rOr (rI0 fun i j => .int (i + j)) (fun x y H Q => ∃ i j, x = .str i ∧ y = .str j ∧ i.length + j.length ≤ sizeLine ∧ Q (.str (i ++ j)) H)) oAdd := (vop_I0 fun _ _ _ => intD).or (vop_S fun _ _ _ _ => strD)
theorem opr_add : OpR X (binaryOp .Add) (rOr (rI0 fun i j => .int (i + j)) (fun x y H Q => ∃ i j, x = .str i ∧ y = .str j ∧ i.length + j.length ≤ sizeLine ∧ Q (.str (i ++ j)) H)) := OpR.orR op_add op_add_str
theorem vop_sub : VOP G (rI0 fun i j => .int (i - j)) oSub := vop_I0 fun _ _ _ => intD
theorem vop_mul : VOP G (rI CMulD fun i j => .int (i * j)) oMul := vop_I fun _ _ _ _ => intD
theorem opr_mul : OpR X (binaryOp .Mult) (rI CMulD fun i j => .int (i * j)) := opI fun _ _ _ _ _ _ _ hc q => PyProof.Rows.mul_int q (mulOkD hc)
theorem opr_pow : OpR X (binaryOp .Pow) (rI CPowD fun i j => .int (i ^ j.toNat)) := op_pow
theorem vop_fdiv : VOP G (rI CFdiv fun i j => .int (fdivI i j)) oFdiv := vop_I fun _ _ _ _ => intD
theorem vop_mod : VOP G (rI (fun _ j => j ≠ 0) fun i j => .int (modI i j)) oMod := vop_I fun _ _ _ _ => intD
theorem vop_pow : VOP G (rI CPowD fun i j => .int (i ^ j.toNat)) oPow := vop_I fun _ _ _ _ => intD
theorem vop_lt : VOP G (rOr (rI0 fun i j => .bl (decide (i < j))) (fun x y H Q => ∃ i j, x = .str i ∧ y = .str j ∧ Q (.bl (decide (i.cps.toList < j.cps.toList))) H)) oLt := (vop_I0 fun _ _ _ => blD).or (vop_S0 fun _ _ _ => blD)
theorem opr_lt : OpR X (compareOp .Lt) (rOr (rI0 fun i j => .bl (decide (i < j))) (fun x y H Q => ∃ i j, x = .str i ∧ y = .str j ∧ Q (.bl (decide (i.cps.toList < j.cps.toList))) H)) := OpR.orR op_lt op_lt_str
theorem vop_le : VOP G (rOr (rI0 fun i j => .bl (decide (i ≤ j))) (fun x y H Q => ∃ i j, x = .str i ∧ y = .str j ∧ Q (.bl (!decide (j.cps.toList < i.cps.toList))) H)) oLe := (vop_I0 fun _ _ _ => blD).or (vop_S0 fun _ _ _ => blD)
theorem opr_le : OpR X (compareOp .LtE) (rOr (rI0 fun i j => .bl (decide (i ≤ j))) (fun x y H Q => ∃ i j, x = .str i ∧ y = .str j ∧ Q (.bl (!decide (j.cps.toList < i.cps.toList))) H)) := OpR.orR op_le op_le_str
theorem vop_gt : VOP G (rOr (rI0 fun i j => .bl (decide (j < i))) (fun x y H Q => ∃ i j, x = .str i ∧ y = .str j ∧ Q (.bl (decide (j.cps.toList < i.cps.toList))) H)) oGt := (vop_I0 fun _ _ _ => blD).or (vop_S0 fun _ _ _ => blD)
theorem opr_gt : OpR X (compareOp .Gt) (rOr (rI0 fun i j => .bl (decide (j < i))) (fun x y H Q => ∃ i j, x = .str i ∧ y = .str j ∧ Q (.bl (decide (j.cps.toList < i.cps.toList))) H)) := OpR.orR op_gt op_gt_str
theorem vop_ge : VOP G (rOr (rI0 fun i j => .bl (decide (j ≤ i))) (fun x y H Q => ∃ i j, x = .str i ∧ y = .str j ∧ Q (.bl (!decide (i.cps.toList < j.cps.toList))) H)) oGe := (vop_I0 fun _ _ _ => blD).or (vop_S0 fun _ _ _ => blD)
theorem opr_ge : OpR X (compareOp .GtE) (rOr (rI0 fun i j => .bl (decide (j ≤ i))) (fun x y H Q => ∃ i j, x = .str i ∧ y = .str j ∧ Q (.bl (!decide (i.cps.toList < j.cps.toList))) H)) := OpR.orR op_ge op_ge_str
theorem vop_eq : VOP G (rEqP G.K) oEq := fun Z H m1 T1 v1 m2 T2 v2 Q zh r1 r2 => by
  unfold oEq
  by_cases c : CEq (fz m1) (fz m2)
  · rw [if_pos c]
    exact fun q => ⟨_, _, r1.dp zh c.1, r2.dp zh c.2.1, c.1, c.2.1, c.2.2, q _ blD⟩
  · rw [if_neg c]; trivial
theorem vop_ne : VOP G (rNeP G.K) oNe := fun Z H m1 T1 v1 m2 T2 v2 Q zh r1 r2 => by
  unfold oNe
  by_cases c : CEq (fz m1) (fz m2)
  · rw [if_pos c]
    exact fun q => ⟨_, _, r1.dp zh c.1, r2.dp zh c.2.1, c.1, c.2.1, c.2.2, q _ blD⟩
  · rw [if_neg c]; trivial
theorem isNon_rep {Z H : Hp} {m : M} {T : Rg} {v : V} (r : RepM G Z H m T v) : decide (v = .non) = isNon m := by
  cases m with
  | d x => cases x <;> simp_all [RepM, RepD, isNon] <;> (obtain ⟨a, r⟩ := r; simp_all) <;> (try (obtain ⟨_, r⟩ := r; simp_all))
  | _ => simp_all [RepM, isNon] <;> (obtain ⟨a, r⟩ := r; simp_all) <;> (try (obtain ⟨_, r⟩ := r; simp_all))
def rIsO : R2 := rOr (fun x y H Q => y = .non ∧ Q (.bl (decide (x = .non))) H) rIsB
theorem opr_is : OpR X (compareOp .Is) rIsO := OpR.orR op_isN op_isBl
theorem vop_is : VOP G rIsO oIs := fun Z H m1 T1 v1 m2 T2 v2 Q zh r1 r2 => by
  unfold oIs
  split
  · rename_i e
    intro q
    split at e
    · cases e
      exact .inl ⟨rep_non r2, by rw [isNon_rep r1]; exact q _ blD⟩
    · cases e
      refine .inr ⟨_, _, rep_bl r1, rep_bl r2, ?_⟩
      have := q _ blD
      simpa [Bool.beq_eq_decide_eq] using this
    · cases e
  · trivial
theorem vop_isnot : VOP G (fun x y H Q => y = .non ∧ Q (.bl (!decide (x = .non))) H) oIsNot := fun Z H m1 T1 v1 m2 T2 v2 Q zh r1 r2 => by
  unfold oIsNot
  split
  · rename_i e
    intro q
    split at e
    · cases e
      exact ⟨rep_non r2, by rw [isNon_rep r1]; exact q _ blD⟩
    · cases e
  · trivial
def rInO (K : PySem.W.Frag) : R2 := rOr (rIn K false) (fun x y H Q => ∃ (c : Nat) (z : Str), x = .str ⟨#[c]⟩ ∧ y = .str z ∧ Q (.bl (decide (c ∈ z.cps.toList))) H)
def rNotInO (K : PySem.W.Frag) : R2 := rOr (rIn K true) (fun x y H Q => ∃ (c : Nat) (z : Str), x = .str ⟨#[c]⟩ ∧ y = .str z ∧ Q (.bl (!decide (c ∈ z.cps.toList))) H)
theorem opr_in : OpR X (compareOp .In) (rInO X.K) := OpR.orR op_in_seq op_in_sign
theorem opr_notin : OpR X (compareOp .NotIn) (rNotInO X.K) := OpR.orR op_notIn_seq op_notIn_sign
theorem vop_in : VOP G (rInO G.K) oIn := fun Z H m1 T1 v1 m2 T2 v2 Q zh r1 r2 => by
  unfold oIn inM
  cases e : m2.seq with
  | some p =>
    obtain ⟨b, ms⟩ := p
    simp only
    by_cases f : flatM m1 = true ∧ ms.all flatM = true
    · rw [if_pos f]
      intro q
      obtain ⟨a, vs, rfl, h1, h2, h3⟩ := r2.seq zh e
      obtain ⟨e1, f1⟩ := flat_rep r1 f.1
      obtain ⟨e2, f2⟩ := flats_rep h3 f.2
      refine .inl ⟨a, vs, rfl, ?_, f1, f2, ?_⟩
      · cases b with
        | true => exact .inr (h1 rfl)
        | false => exact .inl (h2 rfl)
      · rw [if_neg Bool.false_ne_true, e1, e2]; exact q _ blD
    · rw [if_neg f]; trivial
  | none =>
    simp only
    split
    · rename_i e2
      intro q
      split at e2
      · rename_i b e3
        split at e3
        · split at e3
          · rename_i w z _ c ec
            cases e3; cases e2
            have h1 := rep_str r1
            rw [one_sign ec] at h1
            exact .inr ⟨_, _, h1, rep_str r2, q _ blD⟩
          · cases e3
        · cases e3
      · cases e2
    · trivial
theorem vop_notin : VOP G (rNotInO G.K) oNotIn := fun Z H m1 T1 v1 m2 T2 v2 Q zh r1 r2 => by
  unfold oNotIn inM
  cases e : m2.seq with
  | some p =>
    obtain ⟨b, ms⟩ := p
    simp only
    by_cases f : flatM m1 = true ∧ ms.all flatM = true
    · rw [if_pos f]
      intro q
      obtain ⟨a, vs, rfl, h1, h2, h3⟩ := r2.seq zh e
      obtain ⟨e1, f1⟩ := flat_rep r1 f.1
      obtain ⟨e2, f2⟩ := flats_rep h3 f.2
      refine .inl ⟨a, vs, rfl, ?_, f1, f2, ?_⟩
      · cases b with
        | true => exact .inr (h1 rfl)
        | false => exact .inl (h2 rfl)
      · rw [if_pos rfl, e1, e2]; exact q _ blD
    · rw [if_neg f]; trivial
  | none =>
    simp only
    split
    · rename_i e2
      intro q
      split at e2
      · rename_i b e3
        split at e3
        · split at e3
          · rename_i w z _ c ec
            cases e3; cases e2
            have h1 := rep_str r1
            rw [one_sign ec] at h1
            exact .inr ⟨_, _, h1, rep_str r2, q _ blD⟩
          · cases e3
        · cases e3
      · cases e2
    · trivial

/-! ### subscripts -/
def mIdx (m1 m2 : M) : Res M := match m2 with
  | .d (.int i) => match m1.seq with
    | some (_, ms) => match atI ms i with
      | some x => .ok x
      | none => .bad
    | none => match m1 with
      | .d (.str z) => if z.length ≤ sizeLine then (match atI z.cps.toList i with
        | some c => .ok (.d (.str ⟨#[c]⟩))
        | none => .bad) else .bad
      | _ => .bad
  | _ => .bad
def oIdx : DOp := fun m1 m2 => match mIdx m1 m2 with
  | .ok (.d x) => .ok x
  | _ => .bad
def vIx (ga gb : VE) : VE := fun env => match ga env, gb env with
  | .ok m1, .ok m2 => mIdx m1 m2
  | _, _ => .bad
theorem atI_rep {Z H : Hp} {ms : List M} {T : Rg} {vs : List V} {i : Int} {x : M} (r : RepMs G Z H ms T vs) (e : atI ms i = some x) : ∃ v, atI vs i = some v ∧ RepM G Z H x T v := by
  unfold atI at e ⊢
  rw [← r.len]
  cases q : ixN ms.length i with
  | none => rw [q] at e; cases e
  | some j =>
    rw [q] at e
    exact RepMs.get r e
theorem mIdx_rep {Z H : Hp} {m1 m2 x : M} {T1 T2 : Rg} {v1 v2 : V} {Q : VK} (zh : Same Z H) (r1 : RepM G Z H m1 T1 v1) (r2 : RepM G Z H m2 T2 v2) (e : mIdx m1 m2 = .ok x) (q : ∀ u, RepM G Z H x T1 u → Q u H) : rIx G.K v1 v2 H Q := by
  unfold mIdx at e
  split at e
  · rename_i i
    have e2 := rep_int r2
    subst e2
    cases es : m1.seq with
    | some p =>
      obtain ⟨b, ms⟩ := p
      rw [es] at e
      simp only at e
      obtain ⟨a, vs, rfl, h1, h2, h3⟩ := r1.seq zh es
      cases ea : atI ms i with
      | none => rw [ea] at e; cases e
      | some y =>
        rw [ea] at e
        cases e
        obtain ⟨v, hv, rv⟩ := atI_rep h3 ea
        cases b with
        | true => exact .inr (.inl ⟨a, vs, i, v, rfl, rfl, h1 rfl, hv, q v rv⟩)
        | false => exact .inl ⟨a, vs, i, v, rfl, rfl, h2 rfl, hv, q v rv⟩
    | none =>
      rw [es] at e
      simp only at e
      split at e
      · rename_i z
        have e1 := rep_str r1
        subst e1
        split at e
        · rename_i hz
          cases ec : atI z.cps.toList i with
          | none => rw [ec] at e; cases e
          | some c =>
            rw [ec] at e
            cases e
            exact .inr (.inr ⟨z, i, c, rfl, rfl, hz, ec, q _ (by simp [RepM, RepD])⟩)
        · cases e
      · cases e
  · cases e
theorem vop_ix : VOP G (rIx G.K) oIdx := fun Z H m1 T1 v1 m2 T2 v2 Q zh r1 r2 => by
  unfold oIdx
  cases e : mIdx m1 m2 with
  | ok x =>
    cases x with
    | d y => exact fun q => mIdx_rep zh r1 r2 e fun u ru => q u (by simpa [RepM] using ru)
    | _ => trivial
  | _ => trivial
theorem xv_ix {a b : Expr} {pos : Pos} {ga gb : VE} (hK : G.K = X.K) (ha : PVs G X a ga) (hb : PVs G X b gb) (hs : PlainIx b := by exact fun _ _ => rfl) : PVs G X (.Subscript a b pos) (vIx ga gb) := by
  obtain ⟨ta, pa, ha⟩ := ha.ex
  obtain ⟨tb, pb, hb⟩ := hb.ex
  refine ⟨_, pe_ix ix_seq pa pb hs, fun Z H σ env S Q gd => ?_⟩
  have h1 := ha Z H σ env S (fun x H1 => tb σ H1 fun y H2 => rIx X.K x y H2 Q) gd
  unfold vIx
  cases e1 : ga env with
  | ok m1 =>
    cases e2 : gb env with
    | ok m2 =>
      simp only
      cases e3 : mIdx m1 m2 with
      | ok x =>
        intro q
        rw [e1] at h1
        refine h1 fun v T1 t1 r1 => ?_
        have h2 := hb Z H σ env S (fun y H2 => rIx X.K v y H2 Q) gd
        rw [e2] at h2
        refine h2 fun w T2 _ r2 => ?_
        rw [← hK]
        exact mIdx_rep gd.zh r1 r2 e3 fun u ru => q u T1 t1 ru
      | _ => trivial
    | _ => trivial
  | _ => trivial
end
end FL

set_option maxHeartbeats 2000000
/-! FLE: argument rows, displays, calls. -/
namespace FL
open PySem L2 Classical

def Rs.cons (T : Rg) (S : Rs) : Rs
  | 0 => T
  | j + 1 => S j
theorem Rs.cons_U {T : Rg} {S : Rs} {a : Addr} : U (S.cons T) a ↔ T a ∨ U S a := by
  constructor
  · rintro ⟨i, h⟩
    cases i with
    | zero => exact .inl h
    | succ j => exact .inr ⟨j, h⟩
  · rintro (h | ⟨j, h⟩)
    · exact ⟨0, h⟩
    · exact ⟨j + 1, h⟩
section
variable {G : Gx} {Z Z' H H' : Hp} {σ : St} {env : Env} {S T : Rs} {m : M} {v : V} {T1 : Rg}
theorem Good.nil (zh : Same Z H) : Good G Z H [] [] (fun _ _ => False) := ⟨zh, fun i m e => by simp at e, fun _ _ _ h => h.elim, fun _ _ h => h.elim, fun _ _ h => h.elim, rfl⟩
theorem U_none {a : Addr} (h : U (fun _ _ => False) a) : False := by obtain ⟨_, h⟩ := h; exact h
theorem Good.cons (g : Good G Z H σ env S) (h : Hld G Z H (U S) m T1 v) : Good G Z H (some v :: σ) (some m :: env) (S.cons T1) := by
  refine ⟨g.zh, fun i m' e => ?_, fun i j a h1 h2 => ?_, fun i a h1 => ?_, fun i a h1 => ?_, by simp [g.len]⟩
  · cases i with
    | zero => simp at e; subst e; exact ⟨v, rfl, h.rep⟩
    | succ i =>
      obtain ⟨w, hw, r⟩ := g.rep i m' (by simpa using e)
      exact ⟨w, by simpa using hw, r⟩
  · cases i with
    | zero =>
      cases j with
      | zero => rfl
      | succ j => exact absurd ⟨j, h2⟩ (h.dj a h1)
    | succ i =>
      cases j with
      | zero => exact absurd ⟨i, h1⟩ (h.dj a h2)
      | succ j => rw [g.dj i j a h1 h2]
  · cases i with
    | zero => exact h.al a h1
    | succ i => exact g.al i a h1
  · cases i with
    | zero => exact h.zf a h1
    | succ i => exact g.zf i a h1
/-- the tail of a row -/
theorem Good.tail {o : Option V} {p : Option M} (g : Good G Z H (o :: σ) (p :: env) S) : Good G Z H σ env (fun j => S (j + 1)) :=
  ⟨g.zh, fun i m e => by simpa using g.rep (i + 1) m (by simpa using e), fun i j a h1 h2 => by have := g.dj (i + 1) (j + 1) a h1 h2; omega, fun i => g.al (i + 1), fun i => g.zf (i + 1), by simpa using g.len⟩
theorem Good.head {o : Option V} (g : Good G Z H (o :: σ) (some m :: env) S) : ∃ v, o = some v ∧ Hld G Z H (U fun j => S (j + 1)) m (S 0) v := by
  obtain ⟨v, hv, r⟩ := g.rep 0 m rfl
  refine ⟨v, by simpa using hv, r, g.al 0, g.zf 0, fun a h ⟨j, q⟩ => ?_⟩
  have := g.dj 0 (j + 1) a h q
  omega
theorem Good.row : ∀ {ms : List M} {vs : List V} {T : Rs}, Good G Z H (vs.map some) (ms.map some) T → RepMs G Z H ms (U T) vs
  | [], vs, T, g => by
    have := g.len
    cases vs with
    | nil => simp [RepMs]
    | cons _ _ => simp at this
  | m :: ms, vs, T, g => by
    cases vs with
    | nil => have := g.len; simp at this
    | cons v vs =>
      obtain ⟨w, hw, h⟩ := g.head
      cases hw
      simp only [RepMs]
      refine ⟨v, vs, T 0, _, rfl, fun b z => ⟨0, z⟩, fun b ⟨j, z⟩ => ⟨j + 1, z⟩, fun b z => h.dj b z, h.rep, g.tail.row⟩
end

/-! ### arguments -/
/-- bk: for an argument that is a name's datum, lent: the name's slot -/
abbrev Bk := List (Option Nat)
def SAok' (G : Gx) (W : WX') (bk : Bk) (t : TA) (f : SA) : Prop := ∀ (Z H : Hp) (σ : St) (env : Env) (S : Rs) (Q : List V → Hp → Prop), Good G Z H σ env S →
  match f env with
  | .ok (ms, env') => (∀ vs Z' H' S' T, Stp Z H (U S) Z' H' (fun a => U S' a ∨ U T a) → Good G Z' H' σ env' S' → Good G Z' H' (vs.map some) (ms.map some) T → (∀ a, U T a → ¬ U S' a) →
      (∀ (j i : Nat), bk[j]? = some (some i) → ∀ v, vs[j]? = some v → σ[i]? = some (some v)) → Q vs H') → t σ H Q
  | .exc e env' => (∀ cls d Z' H' S', ExcAt G H' e cls d → Stp Z H (U S) Z' H' (U S') → Good G Z' H' σ env' S' → W cls d σ H') → t σ H Q
  | .bad => True
structure PAs' (G : Gx) (X : Cx) (W : WX') (es : List Expr) (bk : Bk) (f : SA) : Prop where
  ex : ∃ t, PA X es t ∧ SAok' G W bk t f
def saNil : SA := fun env => .ok ([], env)
def saCons (f : SE) (fs : SA) : SA := fun env => match f env with
  | .ok (m, e1) => match fs e1 with
    | .ok (ms, e2) => .ok (m :: ms, e2)
    | .exc e v => .exc e v
    | .bad => .bad
  | .exc e v => .exc e v
  | .bad => .bad
section
variable {G : Gx} {X : Cx} {W : WX'} {e : Expr} {es : List Expr} {f : SE} {fs : SA} {bk : Bk} {te : TE} {t : TA}
theorem SAok.nil : SAok' G W [] tNil saNil := fun Z H σ env S Q gd => by
  intro q
  exact q [] Z H S (fun _ _ => False) ((Stp.refl gd.zh).weak fun _ z => z.elim id fun z => (U_none z).elim) gd (Good.nil gd.zh) (fun _ z => (U_none z).elim) (fun j i h => by simp at h)
theorem SAok.consG {b : Option Nat} (h : SEok G W te f) 
    (hp : ∀ i, b = some i → te = tVar i) (hs : SAok' G W bk t fs) : SAok' G W (b :: bk) (tCons te t) (saCons f fs) := fun Z H σ env S Q gd => by
  unfold saCons
  have h1 := h Z H σ env S
  cases e1 : f env with
  | bad => trivial
  | exc x v => have h1 := h1 (fun x H1 => t σ H1 fun xs H2 => Q (x :: xs) H2) gd; rw [e1] at h1; exact h1
  | ok p =>
    obtain ⟨m, env1⟩ := p
    simp only
    cases e2 : fs env1 with
    | bad => trivial
    | exc x v =>
      intro q
      have h1 := h1 (fun x H1 => t σ H1 fun xs H2 => Q (x :: xs) H2) gd
      rw [e1] at h1
      refine h1 fun v1 Z1 H1 S1 T1 s1 g1 l1 => ?_
      have h2 := hs Z1 H1 σ env1 S1 (fun xs H2 => Q (v1 :: xs) H2) g1
      rw [e2] at h2
      refine h2 fun cls d Z2 H2 S2 x2 s2 g2 => ?_
      exact q cls d Z2 H2 S2 x2 (s1.trans ((s2.frame T1).weak fun _ z => .inl z)) g2
    | ok p2 =>
      obtain ⟨ms, env2⟩ := p2
      intro q
      cases hb' : b with
      | none =>
        have h1 := h1 (fun x H1 => t σ H1 fun xs H2 => Q (x :: xs) H2) gd
        rw [e1] at h1
        refine h1 fun v1 Z1 H1 S1 T1 s1 g1 l1 => ?_
        have h2 := hs Z1 H1 σ env1 S1 (fun xs H2 => Q (v1 :: xs) H2) g1
        rw [e2] at h2
        refine h2 fun vs Z2 H2 S2 T2 s2 g2 r2 d2 k2 => ?_
        have l2 := l1.step s2
        refine q (v1 :: vs) Z2 H2 S2 (T2.cons T1) ((s1.trans (s2.frame T1)).weak ?_) g2 ?_ ?_ ?_
        · intro a z
          rcases z with z | z
          · exact .inl (.inl z)
          · rcases Rs.cons_U.mp z with z | z
            · exact .inr z
            · exact .inl (.inr z)
        · exact r2.cons ⟨l2.rep, l2.al, l2.zf, fun a z w => l2.dj a z (.inr w)⟩
        · intro a z
          rcases Rs.cons_U.mp z with z | z
          · exact fun w => l2.dj a z (.inl w)
          · exact d2 a z
        · intro j i hj v hv
          cases j with
          | zero => simp [hb'] at hj
          | succ j => exact k2 j i (by simpa using hj) v (by simpa using hv)
      | some i =>
        have ht := hp i hb'
        have h1 := h1 (fun x H1 => σ[i]? = some (some x) → t σ H1 fun xs H2 => Q (x :: xs) H2) gd
        rw [e1] at h1
        have h1 := h1 fun v1 Z1 H1 S1 T1 s1 g1 l1 => by
          intro hv1
          have h2 := hs Z1 H1 σ env1 S1 (fun xs H2 => Q (v1 :: xs) H2) g1
          rw [e2] at h2
          refine h2 fun vs Z2 H2 S2 T2 s2 g2 r2 d2 k2 => ?_
          have l2 := l1.step s2
          refine q (v1 :: vs) Z2 H2 S2 (T2.cons T1) ((s1.trans (s2.frame T1)).weak ?_) g2 ?_ ?_ ?_
          · intro a z
            rcases z with z | z
            · exact .inl (.inl z)
            · rcases Rs.cons_U.mp z with z | z
              · exact .inr z
              · exact .inl (.inr z)
          · exact r2.cons ⟨l2.rep, l2.al, l2.zf, fun a z w => l2.dj a z (.inr w)⟩
          · intro a z
            rcases Rs.cons_U.mp z with z | z
            · exact fun w => l2.dj a z (.inl w)
            · exact d2 a z
          · intro j i' hj v hv
            cases j with
            | zero => simp [hb'] at hj hv; subst hj; subst hv; exact hv1
            | succ j => exact k2 j i' (by simpa using hj) v (by simpa using hv)
        rw [ht] at h1 ⊢
        obtain ⟨w, hw, z⟩ := h1
        exact ⟨w, hw, z hw⟩
theorem xa_nil : PAs' G X W [] [] saNil := ⟨_, pa_nil, SAok.nil⟩
theorem xa_cons (h : PEs G X W e f) (hs : PAs' G X W es bk fs) (hst : starEach (e :: es) X.env = (false, eval e X.env) :: starEach es X.env := by rfl) : PAs' G X W (e :: es) (none :: bk) (saCons f fs) := by
  obtain ⟨te, p, h⟩ := h.ex
  obtain ⟨t, p2, h2⟩ := hs.ex
  exact ⟨_, pa_cons p p2 hst, SAok.consG (b := none) h (fun _ z => nomatch z) h2⟩
/-- a name's datum is lent -/
theorem xa_lend (i : Nat) {x : Str} {pos : Pos} (hs : PAs' G X W es bk fs) (hN : X.N[i]? = some x := by rfl) (hv : Vis X.env.scope x := by first | exact Or.inl rfl | exact Or.inr (Or.inl rfl) | exact Or.inr (Or.inr rfl)) (hd : (x == ("__debug__" : Str)) = false := by decide)
    (hcd : (x == ("__classdict__" : Str)) = false := by decide) (hst : starEach (.Name x pos :: es) X.env = (false, eval (.Name x pos) X.env) :: starEach es X.env := by rfl) : PAs' G X W (.Name x pos :: es) (some i :: bk) (saCons (sT i) fs) := by
  obtain ⟨t, p2, h2⟩ := hs.ex
  refine ⟨_, pa_cons (pe_var hN hv hd hcd) p2 hst, SAok.consG (b := some i) (te := tVar i) (fun Z H σ env S Q gd => ?_) (fun j z => by cases z; rfl) h2⟩
  unfold sT
  rcases getE_cases env i with ⟨m, e⟩ | e
  · rw [e]
    intro q
    obtain ⟨v, hv, g1, h1⟩ := gd.take (getE_ok e)
    exact ⟨v, hv, q v Z H _ (S i) ((Stp.refl gd.zh).weak fun a z => z.elim Rs.wipe_le fun z => ⟨i, z⟩) g1 h1⟩
  · rw [e]; trivial
end

/-! ### displays -/
theorem Stp.new {Z H : Hp} {p : Addr} {o : HO} (zh : Same Z H) (hp : H p = none) (R : Rg) : Stp Z H R Z (upd H p o) (fun a => R a ∨ a = p) :=
  ⟨Same.refl _, fun a u e => by rw [upd_ne (ne_of_none (zh a u e) hp)]; exact zh a u e, fun b u e _ => by rw [upd_ne (ne_of_none e hp)]; exact e,
    fun a q => q.elim .inl fun e => .inr (by rw [e]; exact hp), fun a q => .inl q⟩
/-- a new object that is frozen at once -/
theorem Stp.newZ {Z H : Hp} {p : Addr} {o : HO} (zh : Same Z H) (hp : H p = none) (R : Rg) : Stp Z H R (upd Z p o) (upd H p o) R := by
  have zp : Z p = none := by
    cases e : Z p with
    | none => rfl
    | some u => rw [zh p u e] at hp; cases hp
  refine ⟨fun a u e => by rw [upd_ne (ne_of_none e zp)]; exact e, fun a u e => ?_, fun b u e _ => by rw [upd_ne (ne_of_none e hp)]; exact e, fun a q => .inl q, fun a q => ?_⟩
  · by_cases h : a = p
    · subst h; rw [upd_same] at e ⊢; exact e
    · rw [upd_ne h] at e ⊢; exact zh a u e
  · by_cases h : a = p
    · subst h; exact .inr (.inr hp)
    · rw [upd_ne h] at q; exact .inl q
def isD : M → Bool
  | .d _ => true
  | _ => false
def unD : M → D
  | .d x => x
  | _ => .non
theorem allD_rep {G : Gx} {Z H : Hp} : ∀ {ms : List M} {T : Rg} {vs : List V}, RepMs G Z H ms T vs → ms.all isD = true → RepDs G Z (ms.map unD) vs
  | [], _, _, r, _ => by simp only [RepMs] at r; subst r; simp [RepDs]
  | m :: ms, _, _, r, f => by
    simp only [RepMs] at r
    obtain ⟨v, r', T1, T2, rfl, _, _, _, q, r⟩ := r
    rw [List.all_cons, Bool.and_eq_true] at f
    cases m with
    | d x =>
      simp only [RepM] at q
      simp only [List.map_cons, unD, RepDs]
      exact ⟨v, r', rfl, q, allD_rep r f.2⟩
    | _ => cases f.1
/-- a tuple of such items: frozen where they are -/
def mTup (ms : List M) : M := if ms.all isD = true then .d (.tup (ms.map unD)) else .tup ms
def sTup (fs : SA) : SE := fun env => match fs env with
  | .ok (ms, e) => if ms.length ≤ sizeLine then .ok (mTup ms, e) else .bad
  | .exc e v => .exc e v
  | .bad => .bad
def sLst (fs : SA) : SE := fun env => match fs env with
  | .ok (ms, e) => if ms.length ≤ sizeLine then .ok (.lst ms, e) else .bad
  | .exc e v => .exc e v
  | .bad => .bad
section
variable {G : Gx} {X : Cx} {W : WX'} {es : List Expr} {fs : SA} {bk : Bk} {pos : Pos}
/-- a list newly made of a row -/
theorem lst_new {Z H : Hp} {ms : List M} {vs : List V} {T R : Rg} {p : Addr} (zh : Same Z H) (r : RepMs G Z H ms T vs) (al : ∀ a, T a → H a ≠ none) (zf : ∀ a, T a → Z a = none) (dj : ∀ a, T a → ¬ R a) (hp : H p = none) (pR : ¬ R p) :
    Hld G Z (upd H p (.lst vs)) R (.lst ms) (fun a => T a ∨ a = p) (.ref p) := by
  have nT : ¬ T p := fun h => al p h hp
  have zp : Z p = none := by
    cases e : Z p with
    | none => rfl
    | some u => rw [zh p u e] at hp; cases hp
  refine ⟨?_, fun a h => ?_, fun a h => ?_, fun a h => ?_⟩
  · simp only [RepM]
    exact ⟨p, vs, T, rfl, .inr rfl, nT, fun b z => .inl z, upd_same, RepMs.mono (Same.refl _) _ _ _ _ (fun _ z => z) (fun a o sa e => by rw [upd_ne (ne_of_none e hp)]; exact e) r⟩
  · by_cases e : a = p
    · subst e; rw [upd_same]; exact fun z => nomatch z
    · rw [upd_ne e]; exact al a (h.elim id fun z => absurd z e)
  · exact h.elim (zf a) fun e => by rw [e]; exact zp
  · exact h.elim (dj a) fun e => by rw [e]; exact pR
theorem tup_new {Z H : Hp} {ms : List M} {vs : List V} {T R : Rg} {p : Addr} (zh : Same Z H) (r : RepMs G Z H ms T vs) (al : ∀ a, T a → H a ≠ none) (zf : ∀ a, T a → Z a = none) (dj : ∀ a, T a → ¬ R a) (hp : H p = none) (pR : ¬ R p) :
    Hld G Z (upd H p (.tup vs)) R (.tup ms) (fun a => T a ∨ a = p) (.ref p) := by
  have nT : ¬ T p := fun h => al p h hp
  have zp : Z p = none := by
    cases e : Z p with
    | none => rfl
    | some u => rw [zh p u e] at hp; cases hp
  refine ⟨?_, fun a h => ?_, fun a h => ?_, fun a h => ?_⟩
  · simp only [RepM]
    exact ⟨p, vs, T, rfl, .inr rfl, nT, fun b z => .inl z, upd_same, RepMs.mono (Same.refl _) _ _ _ _ (fun _ z => z) (fun a o sa e => by rw [upd_ne (ne_of_none e hp)]; exact e) r⟩
  · by_cases e : a = p
    · subst e; rw [upd_same]; exact fun z => nomatch z
    · rw [upd_ne e]; exact al a (h.elim id fun z => absurd z e)
  · exact h.elim (zf a) fun e => by rw [e]; exact zp
  · exact h.elim (dj a) fun e => by rw [e]; exact pR
/-- a row's regions -/
theorem Good.al' {Z H : Hp} {σ : St} {env : Env} {S : Rs} (g : Good G Z H σ env S) (a : Addr) (h : U S a) : H a ≠ none := by obtain ⟨i, h⟩ := h; exact g.al i a h
theorem Good.zf' {Z H : Hp} {σ : St} {env : Env} {S : Rs} (g : Good G Z H σ env S) (a : Addr) (h : U S a) : Z a = none := by obtain ⟨i, h⟩ := h; exact g.zf i a h
theorem SEok.lst {t : TA} (h : SAok' G W bk t fs) : SEok G W (tLst t) (sLst fs) := fun Z H σ env S Q gd => by
  unfold sLst
  have h1 := h Z H σ env S (fun xs H1 => xs.length ≤ sizeLine ∧ ∀ p, H1 p = none → Q (.ref p) (upd H1 p (.lst xs))) gd
  cases e1 : fs env with
  | bad => trivial
  | exc x v => rw [e1] at h1; exact h1
  | ok p =>
    obtain ⟨ms, env1⟩ := p
    rw [e1] at h1
    simp only
    by_cases hl : ms.length ≤ sizeLine
    · rw [if_pos hl]
      intro q
      refine h1 fun vs Z1 H1 S1 T s1 g1 r d k => ?_
      have rr := r.row
      refine ⟨by rw [← rr.len]; exact hl, fun p hp => ?_⟩
      have pS : ¬ U S1 p := fun z => g1.al' p z hp
      have st := Stp.new (o := .lst vs) g1.zh hp (fun a => U S1 a ∨ U T a)
      refine q (.ref p) Z1 _ S1 (fun a => U T a ∨ a = p) ((s1.trans st).weak fun a z => ?_) ?_ (lst_new g1.zh rr r.al' r.zf' d hp pS)
      · rcases z with z | z | z
        · exact .inl (.inl z)
        · exact .inl (.inr z)
        · exact .inr z
      · exact (g1.move (Stp.new (o := .lst vs) g1.zh hp (fun _ => False)) fun _ _ z => z).1
    · rw [if_neg hl]; trivial
theorem SEok.tup {t : TA} (h : SAok' G W bk t fs) : SEok G W (tTup t) (sTup fs) := fun Z H σ env S Q gd => by
  unfold sTup
  have h1 := h Z H σ env S (fun xs H1 => xs.length ≤ sizeLine ∧ ∀ p, H1 p = none → Q (.ref p) (upd H1 p (.tup xs))) gd
  cases e1 : fs env with
  | bad => trivial
  | exc x v => rw [e1] at h1; exact h1
  | ok p =>
    obtain ⟨ms, env1⟩ := p
    rw [e1] at h1
    simp only
    by_cases hl : ms.length ≤ sizeLine
    · rw [if_pos hl]
      intro q
      refine h1 fun vs Z1 H1 S1 T s1 g1 r d k => ?_
      have rr := r.row
      refine ⟨by rw [← rr.len]; exact hl, fun p hp => ?_⟩
      have pS : ¬ U S1 p := fun z => g1.al' p z hp
      unfold mTup at q
      by_cases hd : ms.all isD = true
      · rw [if_pos hd] at q
        have st := Stp.newZ (o := .tup vs) g1.zh hp (fun a => U S1 a ∨ U T a)
        refine q (.ref p) _ _ S1 (fun _ => False) ((s1.trans st).weak fun a z => z.elim .inl fun z => z.elim) (g1.move (Stp.newZ (o := .tup vs) g1.zh hp (fun _ => False)) fun _ _ z => z).1 (Hld.data ?_)
        simp only [RepD]
        exact ⟨p, vs, rfl, SqT.of upd_same, RepDs.mono st.z _ _ (allD_rep rr hd)⟩
      · rw [if_neg hd] at q
        have st := Stp.new (o := .tup vs) g1.zh hp (fun a => U S1 a ∨ U T a)
        refine q (.ref p) Z1 _ S1 (fun a => U T a ∨ a = p) ((s1.trans st).weak fun a z => ?_) ?_ (tup_new g1.zh rr r.al' r.zf' d hp pS)
        · rcases z with z | z | z
          · exact .inl (.inl z)
          · exact .inl (.inr z)
          · exact .inr z
        · exact (g1.move (Stp.new (o := .tup vs) g1.zh hp (fun _ => False)) fun _ _ z => z).1
    · rw [if_neg hl]; trivial
theorem xe_lst (h : PAs' G X W es bk fs) : PEs G X W (.List es pos) (sLst fs) := by
  obtain ⟨t, p, h⟩ := h.ex
  exact ⟨_, pe_lst p, SEok.lst h⟩
theorem xe_tup {x1} (h : PAs' G X W es bk fs) : PEs G X W (.Tuple es x1 pos) (sTup fs) := by
  obtain ⟨t, p, h⟩ := h.ex
  exact ⟨_, pe_tup p, SEok.tup h⟩
end

/-! ### calls of the program's own defs -/
abbrev FS := List M → Res (M × Env)
/-- what a def promises: what F tells -/
def spF (G : Gx) (n : Nat) (F : FS) : Sp := fun vs H Q E => vs.length = n ∧ ∃ (Z : Hp) (ms : List M) (T : Rs), Good G Z H (vs.map some) (ms.map some) T ∧ match F ms with
  | .ok (r, ms') => ∀ v Z' H' T' Tr, Stp Z H (U T) Z' H' (fun a => U T' a ∨ Tr a) → Good G Z' H' (vs.map some) ms' T' → Hld G Z' H' (U T') r Tr v → Q v H'
  | .exc e ms' => ∀ cls d Z' H' T', ExcAt G H' e cls d → Stp Z H (U T) Z' H' (U T') → Good G Z' H' (vs.map some) ms' T' → E cls d H'
  | .bad => False
def putBack : Bk → Env → Env → Env
  | some i :: bk, some m :: ms, env => putBack bk ms (env.set i (some m))
  | none :: bk, _ :: ms, env => putBack bk ms env
  | some i :: bk, none :: ms, env => putBack bk ms (env.set i none)
  | _, _, env => env
def sCall (F : FS) (bk : Bk) (fs : SA) : SE := fun env => match fs env with
  | .ok (ms, e1) => match F ms with
    | .ok (r, ms') => .ok (r, putBack bk ms' e1)
    | .exc e ms' => .exc e (putBack bk ms' e1)
    | .bad => .bad
  | .exc e v => .exc e v
  | .bad => .bad
theorem Good.weakS {G : Gx} {Z H : Hp} {σ : St} {env : Env} {S : Rs} (g : Good G Z H σ env S) {R : Rg} (_ : ∀ a, U S a → R a) : Good G Z H σ env S := g
theorem putBack_good {G : Gx} {Z H : Hp} {σ : St} : ∀ (bk : Bk) (vs : List V) (ms : Env) (T : Rs) (env : Env) (S : Rs), Good G Z H (vs.map some) ms T → Good G Z H σ env S → (∀ a, U T a → ¬ U S a) →
    (∀ (j i : Nat), bk[j]? = some (some i) → ∀ v, vs[j]? = some v → σ[i]? = some (some v)) → ∃ S', Good G Z H σ (putBack bk ms env) S' ∧ ∀ a, U S' a → U S a ∨ U T a
  | [], vs, ms, T, env, S, r, g, d, k => by
    unfold putBack
    exact ⟨S, g, fun a z => .inl z⟩
  | b :: bk, [], ms, T, env, S, r, g, d, k => by
    have : ms = [] := by have := r.len; simpa using this
    subst this
    have e : putBack (b :: bk) [] env = env := by unfold putBack; cases b <;> rfl
    rw [e]
    exact ⟨S, g, fun a z => .inl z⟩
  | b :: bk, v :: vs, [], T, env, S, r, g, d, k => by have := r.len; simp at this
  | none :: bk, v :: vs, m :: ms, T, env, S, r, g, d, k => by
    obtain ⟨S', g', h'⟩ := putBack_good bk vs ms (fun j => T (j + 1)) env S r.tail g (fun a ⟨j, z⟩ => d a ⟨j + 1, z⟩) (fun j i hj w hw => k (j + 1) i (by simpa using hj) w (by simpa using hw))
    refine ⟨S', by unfold putBack; exact g', fun a z => (h' a z).elim .inl fun ⟨j, z⟩ => .inr ⟨j + 1, z⟩⟩
  | some i :: bk, v :: vs, none :: ms, T, env, S, r, g, d, k => by
    obtain ⟨S', g', h'⟩ := putBack_good bk vs ms (fun j => T (j + 1)) (env.set i none) (S.set i fun _ => False) r.tail (g.kill i) (fun a ⟨j, z⟩ w => d a ⟨j + 1, z⟩ (Rs.wipe_le w)) (fun j i hj w hw => k (j + 1) i (by simpa using hj) w (by simpa using hw))
    refine ⟨S', by unfold putBack; exact g', fun a z => (h' a z).elim (fun z => .inl (Rs.wipe_le z)) fun ⟨j, z⟩ => .inr ⟨j + 1, z⟩⟩
  | some i :: bk, v :: vs, some m :: ms, T, env, S, r, g, d, k => by
    obtain ⟨w, hw, h⟩ := r.head
    cases hw
    have hs := k 0 i rfl v rfl
    have g1 := g.back (i := i) (m := m) (T := T 0) (v := v) ⟨h.rep, h.al, h.zf, fun a z => d a ⟨0, z⟩⟩ hs
    obtain ⟨S', g', h'⟩ := putBack_good bk vs ms (fun j => T (j + 1)) (env.set i (some m)) (S.set i (T 0)) r.tail g1 (fun a ⟨j, z⟩ w => (Rs.set_sub w).elim (d a ⟨j + 1, z⟩) fun w => h.dj a w ⟨j, z⟩) (fun j i hj w hw => k (j + 1) i (by simpa using hj) w (by simpa using hw))
    refine ⟨S', by unfold putBack; exact g', fun a z => (h' a z).elim (fun z => (Rs.set_sub z).elim .inl fun z => .inr ⟨0, z⟩) fun ⟨j, z⟩ => .inr ⟨j + 1, z⟩⟩
section
variable {G : Gx} {X : Cx} {W : WX'} {e : Expr} {es : List Expr} {fs : SA} {bk : Bk} {F : FS} {n k : Nat} {x : Str} {p pos : Pos} {f : Addr} {fd : FuncData} {ps : List Str}
theorem SEok.call {t : TA} (h : SAok' G W bk t fs) (hn : ∀ env ms e1, fs env = .ok (ms, e1) → ms.length = n) : SEok G W (tCallS (spF G n F) (WE W) t) (sCall F bk fs) := fun Z H σ env S Q gd => by
  unfold sCall
  have h1 := h Z H σ env S (fun vs H1 => spF G n F vs H1 Q (WE W σ)) gd
  cases e1 : fs env with
  | bad => trivial
  | exc x v => rw [e1] at h1; exact h1
  | ok p =>
    obtain ⟨ms, env1⟩ := p
    rw [e1] at h1
    simp only
    cases e2 : F ms with
    | bad => trivial
    | ok q2 =>
      obtain ⟨r, ms'⟩ := q2
      intro q
      refine h1 fun vs Z1 H1 S1 T s1 g1 row d kk => ?_
      have hl : vs.length = n := by rw [← hn env ms env1 e1]; have := row.len; simpa using this.symm
      refine ⟨hl, Z1, ms, T, row, ?_⟩
      rw [e2]
      intro v Z2 H2 T2 Tr s2 row2 hr
      obtain ⟨g2, d2⟩ := g1.move s2 fun a z w => d a w z
      obtain ⟨S3, g3, u3⟩ := putBack_good bk vs ms' T2 env1 S1 row2 g2 (fun a z w => d2 a w (.inl z)) kk
      have st : Stp Z H (U S) Z2 H2 (fun a => U S3 a ∨ Tr a) := (s1.trans ((s2.frame (U S1)).from fun a z => z.elim .inr .inl)).weak fun a z => by
        rcases z with z | z
        · exact (u3 a z).elim .inr fun z => .inl (.inl z)
        · exact .inl (.inr z)
      exact q v Z2 H2 S3 Tr st g3 ⟨hr.rep, hr.al, hr.zf, fun a z w => (u3 a w).elim (fun w => d2 a w (.inr z)) (hr.dj a z)⟩
    | exc x ms' =>
      intro q
      refine h1 fun vs Z1 H1 S1 T s1 g1 row d kk => ?_
      have hl : vs.length = n := by rw [← hn env ms env1 e1]; have := row.len; simpa using this.symm
      refine ⟨hl, Z1, ms, T, row, ?_⟩
      rw [e2]
      intro cls dd Z2 H2 T2 hx s2 row2
      obtain ⟨g2, d2⟩ := g1.move s2 fun a z w => d a w z
      obtain ⟨S3, g3, u3⟩ := putBack_good bk vs ms' T2 env1 S1 row2 g2 (fun a z w => d2 a w z) kk
      have st : Stp Z H (U S) Z2 H2 (U S3) := (s1.trans ((s2.frame (U S1)).from fun a z => z.elim .inr .inl)).weak fun a z => (u3 a z).elim .inr fun z => .inl z
      exact q cls dd Z2 H2 S3 hx st g3
end
end FL

set_option maxHeartbeats 2000000
/-! FLF: statements, loops, a def's promise by its body. -/
namespace FL
open PySem L2 Classical

inductive Fl where
  | nx | brk | ct | ret (m : M)
abbrev SS := Env → Res (Fl × Env)
abbrev Px := Nat → Prop
def Fix (P : Px) (σ σ' : St) : Prop := (∀ i, P i → σ'[i]? = σ[i]?) ∧ σ'.length = σ.length
theorem Fix.refl {P : Px} {σ : St} : Fix P σ σ := ⟨fun _ _ => rfl, rfl⟩
theorem Fix.trans {P : Px} {σ σ1 σ2 : St} (a : Fix P σ σ1) (b : Fix P σ1 σ2) : Fix P σ σ2 := ⟨fun i h => (b.1 i h).trans (a.1 i h), b.2.trans a.2⟩
/-- what is wanted of the ways out, from (Z, H, R, σ) on -/
def SPost (G : Gx) (W : WX') (P : Px) (D : Ends) (Z H : Hp) (R : Rg) (σ : St) : Res (Fl × Env) → Prop
  | .ok (.nx, e) => ∀ σ' Z' H' S', Fix P σ σ' → Stp Z H R Z' H' (U S') → Good G Z' H' σ' e S' → D.nx σ' H'
  | .ok (.brk, e) => ∀ σ' Z' H' S', Fix P σ σ' → Stp Z H R Z' H' (U S') → Good G Z' H' σ' e S' → D.bk σ' H'
  | .ok (.ct, e) => ∀ σ' Z' H' S', Fix P σ σ' → Stp Z H R Z' H' (U S') → Good G Z' H' σ' e S' → D.ct σ' H'
  | .ok (.ret m, e) => ∀ v σ' Z' H' S' T, Fix P σ σ' → Stp Z H R Z' H' (fun a => U S' a ∨ T a) → Good G Z' H' σ' e S' → Hld G Z' H' (U S') m T v → D.rt v H'
  | .exc x e => ∀ cls d σ' Z' H' S', ExcAt G H' x cls d → Fix P σ σ' → Stp Z H R Z' H' (U S') → Good G Z' H' σ' e S' → W cls d σ' H'
  | .bad => False
def SSok (G : Gx) (W : WX') (P : Px) (t : TS) (f : SS) : Prop := ∀ (D : Ends) (Z H : Hp) (σ : St) (env : Env) (S : Rs), Good G Z H σ env S → SPost G W P D Z H (U S) σ (f env) → t D σ H
structure PSs' (G : Gx) (X : Cx) (W : WX') (P : Px) (sts : List Stmt) (f : SS) : Prop where
  ex : ∃ t, PSs X sts t ∧ SSok G W P t f
structure PS' (G : Gx) (X : Cx) (W : WX') (P : Px) (st : Stmt) (f : SS) : Prop where
  ex : ∃ t, PS X st t ∧ SSok G W P t f
theorem SPost.shift {G : Gx} {W : WX'} {P : Px} {D : Ends} {Z H Z' H' : Hp} {R R' : Rg} {σ σ' : St} {r : Res (Fl × Env)} (p : SPost G W P D Z H R σ r) (st : Stp Z H R Z' H' R') (fx : Fix P σ σ') : SPost G W P D Z' H' R' σ' r := by
  cases r with
  | ok q =>
    obtain ⟨fl, e⟩ := q
    cases fl with
    | nx => exact fun σ2 Z2 H2 S2 f2 s2 g2 => p σ2 Z2 H2 S2 (fx.trans f2) (st.trans s2) g2
    | brk => exact fun σ2 Z2 H2 S2 f2 s2 g2 => p σ2 Z2 H2 S2 (fx.trans f2) (st.trans s2) g2
    | ct => exact fun σ2 Z2 H2 S2 f2 s2 g2 => p σ2 Z2 H2 S2 (fx.trans f2) (st.trans s2) g2
    | ret m => exact fun v σ2 Z2 H2 S2 T f2 s2 g2 h => p v σ2 Z2 H2 S2 T (fx.trans f2) (st.trans s2) g2 h
  | exc x e => exact fun cls d σ2 Z2 H2 S2 hx f2 s2 g2 => p cls d σ2 Z2 H2 S2 hx (fx.trans f2) (st.trans s2) g2
  | bad => exact p.elim
/-- other ends for the ways on -/
theorem SPost.ends {G : Gx} {W W' : WX'} {P : Px} {D D' : Ends} {Z H : Hp} {R : Rg} {σ : St} {r : Res (Fl × Env)} (p : SPost G W P D Z H R σ r)
    (hn : ∀ e, r = .ok (.nx, e) → ∀ σ' Z' H' S', Fix P σ σ' → Stp Z H R Z' H' (U S') → Good G Z' H' σ' e S' → D.nx σ' H' → D'.nx σ' H')
    (hb : ∀ σ' H', D.bk σ' H' → D'.bk σ' H') (hc : ∀ σ' H', D.ct σ' H' → D'.ct σ' H') (hr : ∀ v H', D.rt v H' → D'.rt v H') (hw : ∀ c d σ' H', W c d σ' H' → W' c d σ' H') : SPost G W' P D' Z H R σ r := by
  cases r with
  | ok q =>
    obtain ⟨fl, e⟩ := q
    cases fl with
    | nx => exact fun σ2 Z2 H2 S2 f2 s2 g2 => hn e rfl σ2 Z2 H2 S2 f2 s2 g2 (p σ2 Z2 H2 S2 f2 s2 g2)
    | brk => exact fun σ2 Z2 H2 S2 f2 s2 g2 => hb _ _ (p σ2 Z2 H2 S2 f2 s2 g2)
    | ct => exact fun σ2 Z2 H2 S2 f2 s2 g2 => hc _ _ (p σ2 Z2 H2 S2 f2 s2 g2)
    | ret m => exact fun v σ2 Z2 H2 S2 T f2 s2 g2 h => hr _ _ (p v σ2 Z2 H2 S2 T f2 s2 g2 h)
  | exc x e => exact fun cls d σ2 Z2 H2 S2 hx f2 s2 g2 => hw _ _ _ _ (p cls d σ2 Z2 H2 S2 hx f2 s2 g2)
  | bad => exact p.elim

def ssNil : SS := fun env => .ok (.nx, env)
def ssSeq (f g : SS) : SS := fun env => match f env with
  | .ok (.nx, e) => g e
  | r => r
def ssRet (f : SE) : SS := fun env => match f env with
  | .ok (m, e) => .ok (.ret m, e)
  | .exc x e => .exc x e
  | .bad => .bad
def ssDrop (f : SE) : SS := fun env => match f env with
  | .ok (_, e) => .ok (.nx, e)
  | .exc x e => .exc x e
  | .bad => .bad
def ssSet (i : Nat) (f : SE) : SS := fun env => match f env with
  | .ok (m, e) => if i < e.length then .ok (.nx, e.set i (some m)) else .bad
  | .exc x e => .exc x e
  | .bad => .bad
def ssIf (c : SB) (f g : SS) : SS := fun env => match c env with
  | .ok (true, e) => f e
  | .ok (false, e) => g e
  | .exc x e => .exc x e
  | .bad => .bad
def killAll (ds : List Nat) (env : Env) : Env := ds.foldl (fun e i => e.set i none) env
/-- slots that are read no more are forgotten, behind -/
def ssKill (ds : List Nat) (f : SS) : SS := fun env => match f env with
  | .ok (.nx, e) => .ok (.nx, killAll ds e)
  | r => r
theorem killAll_good {G : Gx} {Z H : Hp} {σ : St} : ∀ (ds : List Nat) {env : Env} {S : Rs}, Good G Z H σ env S → ∃ S', Good G Z H σ (killAll ds env) S' ∧ ∀ a, U S' a → U S a
  | [], _, S, g => ⟨S, g, fun _ z => z⟩
  | d :: ds, env, S, g => by
    obtain ⟨S', g', h⟩ := killAll_good ds (g.kill d)
    exact ⟨S', g', fun a z => Rs.wipe_le (h a z)⟩
section
variable {G : Gx} {X : Cx} {W : WX'} {P : Px} {st : Stmt} {sts : List Stmt} {f g : SS} {fe : SE} {e : Expr} {t u : TS} {te : TE} {pos : Pos}
theorem SSok.nil : SSok G W P tNext ssNil := fun D Z H σ env S gd p => p σ Z H S Fix.refl (Stp.refl gd.zh) gd
theorem SSok.seq (h1 : SSok G W P t f) (h2 : SSok G W P u g) : SSok G W P (tSeq t u) (ssSeq f g) := fun D Z H σ env S gd p => by
  unfold ssSeq at p
  refine h1 { D with nx := u D } Z H σ env S gd ?_
  cases e : f env with
  | ok q =>
    obtain ⟨fl, e1⟩ := q
    rw [e] at p
    cases fl with
    | nx => exact fun σ' Z' H' S' fx s' g' => h2 D Z' H' σ' e1 S' g' (p.shift s' fx)
    | brk => exact p
    | ct => exact p
    | ret m => exact p
  | exc x e1 => rw [e] at p; exact p
  | bad => rw [e] at p; exact p.elim
theorem SSok.kill (ds : List Nat) (h : SSok G W P t f) : SSok G W P t (ssKill ds f) := fun D Z H σ env S gd p => by
  unfold ssKill at p
  refine h D Z H σ env S gd ?_
  cases e : f env with
  | ok q =>
    obtain ⟨fl, e1⟩ := q
    rw [e] at p
    cases fl with
    | nx =>
      intro σ' Z' H' S' fx s' g'
      obtain ⟨S2, g2, h2⟩ := killAll_good ds g'
      exact p σ' Z' H' S2 fx (s'.weak h2) g2
    | brk => exact p
    | ct => exact p
    | ret m => exact p
  | exc x e1 => rw [e] at p; exact p
  | bad => rw [e] at p; exact p.elim
theorem SSok.ret (h : SEok G W te fe) : SSok G W P (tRet te) (ssRet fe) := fun D Z H σ env S gd p => by
  unfold ssRet at p
  have h1 := h Z H σ env S D.rt gd
  cases e : fe env with
  | ok q =>
    obtain ⟨m, e1⟩ := q
    rw [e] at p h1
    exact h1 fun v Z' H' S' T s' g' l => p v σ Z' H' S' T Fix.refl s' g' l
  | exc x e1 =>
    rw [e] at p h1
    exact h1 fun cls d Z' H' S' hx s' g' => p cls d σ Z' H' S' hx Fix.refl s' g'
  | bad => rw [e] at p; exact p.elim
theorem SSok.drop (h : SEok G W te fe) : SSok G W P (tDrop te) (ssDrop fe) := fun D Z H σ env S gd p => by
  unfold ssDrop at p
  have h1 := h Z H σ env S (fun _ H1 => D.nx σ H1) gd
  cases e : fe env with
  | ok q =>
    obtain ⟨m, e1⟩ := q
    rw [e] at p h1
    exact h1 fun v Z' H' S' T s' g' l => p σ Z' H' S' Fix.refl (s'.weak fun a z => .inl z) g'
  | exc x e1 =>
    rw [e] at p h1
    exact h1 fun cls d Z' H' S' hx s' g' => p cls d σ Z' H' S' hx Fix.refl s' g'
  | bad => rw [e] at p; exact p.elim
theorem SSok.set {i : Nat} (hP : ¬ P i) (h : SEok G W te fe) : SSok G W P (tAsg te (gName i)) (ssSet i fe) := fun D Z H σ env S gd p => by
  unfold ssSet at p
  have h1 := h Z H σ env S (fun x H1 => D.nx (σ.set i (some x)) H1) gd
  cases e : fe env with
  | ok q =>
    obtain ⟨m, e1⟩ := q
    rw [e] at p h1
    by_cases hi : i < e1.length
    · simp only [if_pos hi] at p
      refine h1 fun v Z' H' S' T s' g' l => ?_
      refine p (σ.set i (some v)) Z' H' (S'.set i T) ⟨fun j hj => ?_, by rw [List.length_set]⟩ (s'.weak fun a z => Rs.set_sub z) (g'.put l hi)
      exact List.getElem?_set_ne fun (z : i = j) => hP (by rw [z]; exact hj)
    · simp only [if_neg hi] at p; exact p.elim
  | exc x e1 =>
    rw [e] at p h1
    exact h1 fun cls d Z' H' S' hx s' g' => p cls d σ Z' H' S' hx Fix.refl s' g'
  | bad => rw [e] at p; exact p.elim
theorem SSok.ite {c : SB} {tc : TT} (hc : SBok G W tc c) (h1 : SSok G W P t f) (h2 : SSok G W P u g) : SSok G W P (tIfS tc t u) (ssIf c f g) := fun D Z H σ env S gd p => by
  unfold ssIf at p
  have hh := hc Z H σ env S (fun b H1 => if b = true then t D σ H1 else u D σ H1) gd
  cases e : c env with
  | ok q =>
    obtain ⟨b, e1⟩ := q
    rw [e] at p hh
    cases b with
    | true => exact hh fun Z' H' S' s' g' => by rw [if_pos rfl]; exact h1 D Z' H' σ e1 S' g' (p.shift s' Fix.refl)
    | false => exact hh fun Z' H' S' s' g' => by rw [if_neg Bool.false_ne_true]; exact h2 D Z' H' σ e1 S' g' (p.shift s' Fix.refl)
  | exc x e1 =>
    rw [e] at p hh
    exact hh fun cls d Z' H' S' hx s' g' => p cls d σ Z' H' S' hx Fix.refl s' g'
  | bad => rw [e] at p; exact p.elim

theorem xs_nil : PSs' G X W P [] ssNil := ⟨_, pss_nil, SSok.nil⟩
theorem xs_cons (h1 : PS' G X W P st f) (h2 : PSs' G X W P sts g) : PSs' G X W P (st :: sts) (ssSeq f g) := by
  obtain ⟨t, p, h1⟩ := h1.ex
  obtain ⟨u, q, h2⟩ := h2.ex
  exact ⟨_, pss_cons p q, SSok.seq h1 h2⟩
theorem xs_one (h1 : PS' G X W P st f) : PSs' G X W P [st] f := by
  obtain ⟨t, p, h1⟩ := h1.ex
  exact ⟨_, pss_one p, h1⟩
theorem xs_kill (ds : List Nat) (h1 : PS' G X W P st f) : PS' G X W P st (ssKill ds f) := by
  obtain ⟨t, p, h1⟩ := h1.ex
  exact ⟨_, p, SSok.kill ds h1⟩
theorem xs_ret (h : PEs G X W e fe) : PS' G X W P (.Return (some e) pos) (ssRet fe) := by
  obtain ⟨t, p, h⟩ := h.ex
  exact ⟨_, ps_ret p, SSok.ret h⟩
theorem xs_expr (h : PEs G X W e fe) (hs : swapsWith e none pos.line X.env = pure false := by rfl) : PS' G X W P (.Expr e pos) (ssDrop fe) := by
  obtain ⟨t, p, h⟩ := h.ex
  exact ⟨_, ps_expr p hs, SSok.drop h⟩
theorem xs_set (i : Nat) {x : Str} {pos' : Pos} (hN : X.N.Nodup) (h : PEs G X W e fe) (hP : ¬ P i := by decide) (hi : X.N[i]? = some x := by rfl) (hx : Loc X.env.scope x := by first | exact .inl rfl | exact .inr rfl)
    (hs : swapsWith e (some (.Name x pos')) pos.line X.env = pure false := by rfl) (hf : X.fn x = true ∨ X.env.scope.names.lookup x = some .local := by first | exact .inl rfl | exact .inr rfl) :
    PS' G X W P (.Assign [.Name x pos'] e pos) (ssSet i fe) := by
  obtain ⟨t, p, h⟩ := h.ex
  exact ⟨_, ps_set hN hi hx p hs hf, SSok.set hP h⟩
theorem xs_if {c : Expr} {a b : List Stmt} {fc : SB} (hc : PBs G X W c fc) (ha : PSs' G X W P a f) (hb : PSs' G X W P b g) : PS' G X W P (.If c a b pos) (ssIf fc f g) := by
  obtain ⟨t, p, hc⟩ := hc.ex
  obtain ⟨u, q, ha⟩ := ha.ex
  obtain ⟨v, r, hb⟩ := hb.ex
  exact ⟨_, ps_if p q r, SSok.ite hc ha hb⟩
theorem xs_pass : PS' G X W P (.Pass pos) ssNil := ⟨_, ps_pass, SSok.nil⟩
def ssBrk : SS := fun env => .ok (.brk, env)
def ssCt : SS := fun env => .ok (.ct, env)
theorem xs_break : PS' G X W P (.Break pos) ssBrk := ⟨_, ps_break, fun D Z H σ env S gd p => p σ Z H S Fix.refl (Stp.refl gd.zh) gd⟩
theorem xs_continue : PS' G X W P (.Continue pos) ssCt := ⟨_, ps_continue, fun D Z H σ env S gd p => p σ Z H S Fix.refl (Stp.refl gd.zh) gd⟩
theorem xs_doc {x j pos'} : PS' G X W P (.Expr (.Constant (.str x) j pos) pos') ssNil := ⟨_, ps_doc, SSok.nil⟩
end

/-! ### tests -/
def sbE (f : SE) : SB := fun env => match f env with
  | .ok (.d (.bl b), e) => .ok (b, e)
  | .exc x e => .exc x e
  | _ => .bad
def sbNot (c : SB) : SB := fun env => match c env with
  | .ok (b, e) => .ok (!b, e)
  | .exc x e => .exc x e
  | .bad => .bad
def sbAnd (c d : SB) : SB := fun env => match c env with
  | .ok (true, e) => d e
  | .ok (false, e) => .ok (false, e)
  | .exc x e => .exc x e
  | .bad => .bad
def sbOr (c d : SB) : SB := fun env => match c env with
  | .ok (true, e) => .ok (true, e)
  | .ok (false, e) => d e
  | .exc x e => .exc x e
  | .bad => .bad
section
variable {G : Gx} {X : Cx} {W : WX'} {e a b : Expr} {fe : SE} {c d : SB} {te : TE} {tc td : TT} {pos : Pos} {rest : List Expr}
theorem SBok.ofE (h : SEok G W te fe) : SBok G W (tB te) (sbE fe) := fun Z H σ env S Q gd => by
  unfold sbE
  have h1 := h Z H σ env S (fun x H1 => ∃ c, x = .bl c ∧ Q c H1) gd
  cases e : fe env with
  | ok q =>
    obtain ⟨m, e1⟩ := q
    rw [e] at h1
    cases m with
    | d x =>
      cases x with
      | bl b => exact fun q => h1 fun v Z' H' S' T s' g' l => ⟨b, rep_bl l.rep, q Z' H' S' (s'.weak fun _ z => .inl z) g'⟩
      | _ => trivial
    | _ => trivial
  | exc x e1 => rw [e] at h1; exact h1
  | bad => trivial
theorem SBok.not (h : SBok G W tc c) : SBok G W (tNot tc) (sbNot c) := fun Z H σ env S Q gd => by
  unfold sbNot
  have h1 := h Z H σ env S (fun b H1 => Q (!b) H1) gd
  cases e : c env with
  | ok q => obtain ⟨b, e1⟩ := q; rw [e] at h1; exact h1
  | exc x e1 => rw [e] at h1; exact h1
  | bad => trivial
theorem SBok.and (h : SBok G W tc c) (h' : SBok G W td d) : SBok G W (tAnd tc td) (sbAnd c d) := fun Z H σ env S Q gd => by
  unfold sbAnd
  have h1 := h Z H σ env S (fun b H1 => if b = true then td σ H1 Q else Q false H1) gd
  cases e : c env with
  | ok q =>
    obtain ⟨b, e1⟩ := q
    rw [e] at h1
    cases b with
    | true =>
      simp only
      cases e2 : d e1 with
      | ok q2 =>
        obtain ⟨b2, e3⟩ := q2
        intro q
        refine h1 fun Z' H' S' s' g' => ?_
        rw [if_pos rfl]
        have h2 := h' Z' H' σ e1 S' Q g'
        rw [e2] at h2
        exact h2 fun Z2 H2 S2 s2 g2 => q Z2 H2 S2 (s'.trans s2) g2
      | exc x e3 =>
        intro q
        refine h1 fun Z' H' S' s' g' => ?_
        rw [if_pos rfl]
        have h2 := h' Z' H' σ e1 S' Q g'
        rw [e2] at h2
        exact h2 fun cls d Z2 H2 S2 hx s2 g2 => q cls d Z2 H2 S2 hx (s'.trans s2) g2
      | bad => trivial
    | false =>
      intro q
      exact h1 fun Z' H' S' s' g' => by rw [if_neg Bool.false_ne_true]; exact q Z' H' S' s' g'
  | exc x e1 => rw [e] at h1; exact h1
  | bad => trivial
theorem SBok.or (h : SBok G W tc c) (h' : SBok G W td d) : SBok G W (tOr tc td) (sbOr c d) := fun Z H σ env S Q gd => by
  unfold sbOr
  have h1 := h Z H σ env S (fun b H1 => if b = true then Q true H1 else td σ H1 Q) gd
  cases e : c env with
  | ok q =>
    obtain ⟨b, e1⟩ := q
    rw [e] at h1
    cases b with
    | false =>
      simp only
      cases e2 : d e1 with
      | ok q2 =>
        obtain ⟨b2, e3⟩ := q2
        intro q
        refine h1 fun Z' H' S' s' g' => ?_
        rw [if_neg Bool.false_ne_true]
        have h2 := h' Z' H' σ e1 S' Q g'
        rw [e2] at h2
        exact h2 fun Z2 H2 S2 s2 g2 => q Z2 H2 S2 (s'.trans s2) g2
      | exc x e3 =>
        intro q
        refine h1 fun Z' H' S' s' g' => ?_
        rw [if_neg Bool.false_ne_true]
        have h2 := h' Z' H' σ e1 S' Q g'
        rw [e2] at h2
        exact h2 fun cls d Z2 H2 S2 hx s2 g2 => q cls d Z2 H2 S2 hx (s'.trans s2) g2
      | bad => trivial
    | true =>
      intro q
      exact h1 fun Z' H' S' s' g' => by rw [if_pos rfl]; exact q Z' H' S' s' g'
  | exc x e1 => rw [e] at h1; exact h1
  | bad => trivial
/-- tests whatever their whole is -/
structure PWs (G : Gx) (X : Cx) (W : WX') (e : Expr) (f : SB) : Prop where
  ex : ∃ t, PW X e t ∧ SBok G W t f
theorem PWs.pb (h : PWs G X W e c) : PBs G X W e c := by
  obtain ⟨t, p, h⟩ := h.ex
  exact ⟨_, p.pt, h⟩
theorem xb_e (h : PEs G X W e fe) (he : ∀ whole, isTrue e X.env whole = (do let v ← whole; standAt e.pos; holding [v] (truthy v)) := by intro _; rfl) : PBs G X W e (sbE fe) := by
  obtain ⟨t, p, h⟩ := h.ex
  exact ⟨_, pt_val p he, SBok.ofE h⟩
theorem xb_not (h : PBs G X W a c) : PBs G X W (.UnaryOp .Not a pos) (sbNot c) := by
  obtain ⟨t, p, h⟩ := h.ex
  exact ⟨_, pt_not p, SBok.not h⟩
theorem xw_and (h : PBs G X W a c) (h' : PWs G X W (.BoolOp .And (b :: rest) pos) d) : PWs G X W (.BoolOp .And (a :: b :: rest) pos) (sbAnd c d) := by
  obtain ⟨t, p, h⟩ := h.ex
  obtain ⟨u, q, h'⟩ := h'.ex
  exact ⟨_, pw_and p q, SBok.and h h'⟩
theorem xw_and1 (h : PBs G X W a c) : PWs G X W (.BoolOp .And [a] pos) c := by
  obtain ⟨t, p, h⟩ := h.ex
  exact ⟨_, pw_and1 p, h⟩
theorem xw_or (h : PBs G X W a c) (h' : PWs G X W (.BoolOp .Or (b :: rest) pos) d) : PWs G X W (.BoolOp .Or (a :: b :: rest) pos) (sbOr c d) := by
  obtain ⟨t, p, h⟩ := h.ex
  obtain ⟨u, q, h'⟩ := h'.ex
  exact ⟨_, pw_or p q, SBok.or h h'⟩
theorem xw_or1 (h : PBs G X W a c) : PWs G X W (.BoolOp .Or [a] pos) c := by
  obtain ⟨t, p, h⟩ := h.ex
  exact ⟨_, pw_or1 p, h⟩
/-- comparisons as tests -/
theorem xb_cmp {r : R2} {op : DOp} {fa fb : SE} {o : CmpOp} (ho : OpR X (compareOp o) r) (h : VOP G r op) (ha : PEs G X W a fa) (hb : PEs G X W b fb) (hm : behindInMarks o b = false) : PBs G X W (.Compare a [o] [b] pos) (sbE (s2 op fa fb)) := by
  obtain ⟨ta, pa, ha⟩ := ha.ex
  obtain ⟨tb, pb, hb⟩ := hb.ex
  exact ⟨_, pt_cmpR ho pa pb hm, SBok.ofE (SEok.bin h ha hb)⟩
theorem xb_cmpv {r : R2} {op : DOp} {ga gb : VE} {o : CmpOp} (ho : OpR X (compareOp o) r) (h : VOP G r op) (ha : PVs G X a ga) (hb : PVs G X b gb) (hm : behindInMarks o b = false) : PBs G X W (.Compare a [o] [b] pos) (sbE (sV (v2 op ga gb))) := by
  obtain ⟨ta, pa, ha⟩ := ha.ex
  obtain ⟨tb, pb, hb⟩ := hb.ex
  exact ⟨_, pt_cmpR ho pa pb hm, SBok.ofE (SEok.of_v (VEok.bin h ha hb))⟩
theorem xb_cmpN {r : R2} {op : DOp} {fb : SE} {o : CmpOp} (i : Nat) {x : Str} {p1 : Pos} (ho : OpR X (compareOp o) r) (h : VOP G r op) (hb : PEs G X W b fb) (hm : behindInMarks o b = false) (hN : X.N[i]? = some x := by rfl) (hv : Vis X.env.scope x := by first | exact Or.inl rfl | exact Or.inr (Or.inl rfl) | exact Or.inr (Or.inr rfl))
    (hd : (x == ("__debug__" : Str)) = false := by decide) (hcd : (x == ("__classdict__" : Str)) = false := by decide) : PBs G X W (.Compare (.Name x p1) [o] [b] pos) (sbE (s2n op i fb)) := by
  obtain ⟨tb, pb, hb⟩ := hb.ex
  exact ⟨_, pt_cmpR ho (pe_var hN hv hd hcd) pb hm, SBok.ofE (SEok.binN h hb)⟩
theorem xb_cmpV {r : R2} {op : DOp} {fa : SE} {gb : VE} {o : CmpOp} (ho : OpR X (compareOp o) r) (h : VOP G r op) (ha : PEs G X W a fa) (hb : PVs G X b gb) (hm : behindInMarks o b = false) : PBs G X W (.Compare a [o] [b] pos) (sbE (s2v op fa gb)) := by
  obtain ⟨ta, pa, ha⟩ := ha.ex
  obtain ⟨tb, pb, hb⟩ := hb.ex
  exact ⟨_, pt_cmpR ho pa pb hm, SBok.ofE (SEok.binV h ha hb)⟩
end
end FL

set_option maxHeartbeats 2000000
/-! FLG: targets, while, for. -/
namespace FL
open PySem L2 Classical

/-! ### a reading that is just the semantics -/
def ESem (G : Gx) (W : WX') (f : SE) : TE := fun σ H Q => ∃ Z env S, Good G Z H σ env S ∧ match f env with
  | .ok (m, env') => ∀ v Z' H' S' T, Stp Z H (U S) Z' H' (fun a => U S' a ∨ T a) → Good G Z' H' σ env' S' → Hld G Z' H' (U S') m T v → Q v H'
  | .exc e env' => ∀ cls d Z' H' S', ExcAt G H' e cls d → Stp Z H (U S) Z' H' (U S') → Good G Z' H' σ env' S' → W cls d σ H'
  | .bad => False
def BSem (G : Gx) (W : WX') (f : SB) : TT := fun σ H Q => ∃ Z env S, Good G Z H σ env S ∧ match f env with
  | .ok (b, env') => ∀ Z' H' S', Stp Z H (U S) Z' H' (U S') → Good G Z' H' σ env' S' → Q b H'
  | .exc e env' => ∀ cls d Z' H' S', ExcAt G H' e cls d → Stp Z H (U S) Z' H' (U S') → Good G Z' H' σ env' S' → W cls d σ H'
  | .bad => False
section
variable {G : Gx} {X : Cx} {W : WX'} {e : Expr} {f : SE} {c : SB}
theorem PEs.sem (h : PEs G X W e f) : PE X e (ESem G W f) := by
  obtain ⟨t, p, h⟩ := h.ex
  refine ⟨fun pins s σ H Q I q => p.run pins s σ H Q I ?_⟩
  obtain ⟨Z, env, S, g, q⟩ := q
  have h1 := h Z H σ env S Q g
  cases ef : f env with
  | ok r => obtain ⟨m, env'⟩ := r; rw [ef] at h1 q; exact h1 q
  | exc x env' => rw [ef] at h1 q; exact h1 q
  | bad => rw [ef] at q; exact q.elim
theorem ESem.ok : SEok G W (ESem G W f) f := fun Z H σ env S Q g => by
  cases ef : f env with
  | ok r => obtain ⟨m, env'⟩ := r; intro q; exact ⟨Z, env, S, g, by rw [ef]; exact q⟩
  | exc x env' => intro q; exact ⟨Z, env, S, g, by rw [ef]; exact q⟩
  | bad => trivial
theorem PBs.sem (h : PBs G X W e c) : PT X e (BSem G W c) := by
  obtain ⟨t, p, h⟩ := h.ex
  refine ⟨fun pins s σ H Q I q => p.run pins s σ H Q I ?_⟩
  obtain ⟨Z, env, S, g, q⟩ := q
  have h1 := h Z H σ env S Q g
  cases ef : c env with
  | ok r => obtain ⟨m, env'⟩ := r; rw [ef] at h1 q; exact h1 q
  | exc x env' => rw [ef] at h1 q; exact h1 q
  | bad => rw [ef] at q; exact q.elim
theorem BSem.ok : SBok G W (BSem G W c) c := fun Z H σ env S Q g => by
  cases ef : c env with
  | ok r => obtain ⟨m, env'⟩ := r; intro q; exact ⟨Z, env, S, g, by rw [ef]; exact q⟩
  | exc x env' => intro q; exact ⟨Z, env, S, g, by rw [ef]; exact q⟩
  | bad => trivial
end

/-! ### targets -/
abbrev SG := M → Env → Res Env
def SGok (G : Gx) (P : Px) (g : TG) (f : SG) : Prop := ∀ (Z H : Hp) (σ : St) (env : Env) (S : Rs) (m : M) (T : Rg) (v : V) (Q : St → Hp → Prop), Good G Z H σ env S → Hld G Z H (U S) m T v →
  match f m env with
  | .ok env' => (∀ σ' S', Fix P σ σ' → Good G Z H σ' env' S' → (∀ a, U S' a → U S a ∨ T a) → Q σ' H) → g v σ H Q
  | _ => True
structure PGs' (G : Gx) (X : Cx) (P : Px) (tg : Expr) (f : SG) : Prop where
  ex : ∃ g, PG X tg g ∧ SGok G P g f
abbrev SGs := List M → Env → Res Env
def SGsok (G : Gx) (P : Px) (g : TGs) (f : SGs) : Prop := ∀ (Z H : Hp) (σ : St) (env : Env) (S : Rs) (ms : List M) (T : Rg) (vs : List V) (Q : St → Hp → Prop), Good G Z H σ env S → RepMs G Z H ms T vs → (∀ a, T a → H a ≠ none) → (∀ a, T a → Z a = none) → (∀ a, T a → ¬ U S a) →
  match f ms env with
  | .ok env' => (∀ σ' S', Fix P σ σ' → Good G Z H σ' env' S' → (∀ a, U S' a → U S a ∨ T a) → Q σ' H) → g vs σ H Q
  | _ => True
structure PGss (G : Gx) (X : Cx) (P : Px) (tgs : List Expr) (f : SGs) : Prop where
  ex : ∃ g, PGs X tgs g ∧ SGsok G P g f
def sgN (i : Nat) : SG := fun m env => if i < env.length then .ok (env.set i (some m)) else .bad
def sgNil : SGs := fun ms env => match ms with
  | [] => .ok env
  | _ => .bad
def sgCons (f : SG) (fs : SGs) : SGs := fun ms env => match ms with
  | m :: r => match f m env with
    | .ok e => fs r e
    | _ => .bad
  | [] => .bad
def sgTup (n : Nat) (fs : SGs) : SG := fun m env => match m.seq with
  | some (true, ms) => if ms.length = n then fs ms env else .bad
  | _ => .bad
section
variable {G : Gx} {X : Cx} {P : Px} {tg e : Expr} {es : List Expr} {f : SG} {fs : SGs} {pos : Pos}
theorem xg_name (i : Nat) {x : Str} (hN : X.N.Nodup) (hP : ¬ P i := by decide) (hi : X.N[i]? = some x := by rfl) (hx : Loc X.env.scope x := by first | exact .inl rfl | exact .inr rfl)
    (hf : X.fn x = true ∨ X.env.scope.names.lookup x = some .local := by first | exact .inl rfl | exact .inr rfl) : PGs' G X P (.Name x pos) (sgN i) := by
  refine ⟨_, pg_name hN hi hx hf, fun Z H σ env S m T v Q gd h => ?_⟩
  unfold sgN
  by_cases hl : i < env.length
  · rw [if_pos hl]
    intro q
    exact q _ (S.set i T) ⟨fun j hj => List.getElem?_set_ne fun (z : i = j) => hP (by rw [z]; exact hj), by rw [List.length_set]⟩ (gd.put h hl) fun a z => Rs.set_sub z
  · rw [if_neg hl]; trivial
theorem xgs_nil : PGss G X P [] sgNil := by
  refine ⟨_, pgs_nil, fun Z H σ env S ms T vs Q gd r al zf dj => ?_⟩
  unfold sgNil
  cases ms with
  | nil => intro q; simp only [RepMs] at r; exact ⟨r, q σ S Fix.refl gd fun a z => .inl z⟩
  | cons _ _ => trivial
theorem xgs_cons (h : PGs' G X P e f) (hs : PGss G X P es fs) (hst : (assignEach (e :: es) X.env).map (·.2) = assign e X.env :: (assignEach es X.env).map (·.2) := by rfl) : PGss G X P (e :: es) (sgCons f fs) := by
  obtain ⟨g, p, h⟩ := h.ex
  obtain ⟨gs, q, hs⟩ := hs.ex
  refine ⟨_, pgs_cons p q hst, fun Z H σ env S ms T vs Q gd r al zf dj => ?_⟩
  unfold sgCons
  cases ms with
  | nil => trivial
  | cons m ms =>
    simp only
    simp only [RepMs] at r
    obtain ⟨v, vr, T1, T2, rfl, t1, t2, d12, rv, rr⟩ := r
    have h1 := h Z H σ env S m T1 v (fun σ' H' => gs vr σ' H' Q) gd ⟨rv, fun a z => al a (t1 a z), fun a z => zf a (t1 a z), fun a z => dj a (t1 a z)⟩
    cases e1 : f m env with
    | ok env1 =>
      rw [e1] at h1
      simp only
      cases e2 : fs ms env1 with
      | ok env2 =>
        intro q
        refine ⟨v, vr, rfl, h1 fun σ1 S1 fx1 g1 u1 => ?_⟩
        have h2 := hs Z H σ1 env1 S1 ms T2 vr Q g1 rr (fun a z => al a (t2 a z)) (fun a z => zf a (t2 a z)) (fun a z w => (u1 a w).elim (dj a (t2 a z)) fun w => d12 a w z)
        rw [e2] at h2
        exact h2 fun σ2 S2 fx2 g2 u2 => q σ2 S2 (fx1.trans fx2) g2 fun a z => (u2 a z).elim (fun z => (u1 a z).elim .inl fun z => .inr (t1 a z)) fun z => .inr (t2 a z)
      | _ => trivial
    | _ => trivial
theorem xg_tup {k n : Nat} (hK : G.K = X.K) (hc : X.calm = true) (h : PGss G X P es fs) (hn : (assignEach es X.env).length = n := by rfl) (hst : (assignEach es X.env).findIdx? (·.1) = none := by rfl) : PGs' G X P (.Tuple es k pos) (sgTup n fs) := by
  obtain ⟨gs, q, hs⟩ := h.ex
  refine ⟨_, pg_tup hc q hn hst, fun Z H σ env S m T v Q gd h => ?_⟩
  unfold sgTup
  cases es : m.seq with
  | none => trivial
  | some p =>
    obtain ⟨b, ms⟩ := p
    cases b with
    | false => trivial
    | true =>
      simp only
      by_cases hl : ms.length = n
      · rw [if_pos hl]
        obtain ⟨a, vs, rfl, q1, _, r⟩ := h.rep.seq gd.zh es
        have h1 := hs Z H σ env S ms T vs Q gd r h.al h.zf h.dj
        cases e1 : fs ms env with
        | ok env' =>
          rw [e1] at h1
          intro q
          exact ⟨a, vs, rfl, by rw [← hK]; exact q1 rfl, by rw [← r.len]; exact hl, h1 q⟩
        | _ => trivial
      · rw [if_neg hl]; trivial
end
def ssAsg (f : SE) (g : SG) : SS := fun env => match f env with
  | .ok (m, e) => match g m e with
    | .ok e2 => .ok (.nx, e2)
    | _ => .bad
  | .exc x e => .exc x e
  | .bad => .bad
section
variable {G : Gx} {X : Cx} {W : WX'} {P : Px} {tg e : Expr} {f : SE} {g : SG} {pos : Pos}
theorem SSok.asg {te : TE} {tg : TG} (h : SEok G W te f) (hg : SGok G P tg g) : SSok G W P (tAsg te tg) (ssAsg f g) := fun D Z H σ env S gd p => by
  unfold ssAsg at p
  have h1 := h Z H σ env S (fun x H1 => tg x σ H1 D.nx) gd
  cases e : f env with
  | ok q =>
    obtain ⟨m, e1⟩ := q
    rw [e] at p h1
    simp only at p
    cases e2 : g m e1 with
    | ok e3 =>
      rw [e2] at p
      refine h1 fun v Z' H' S' T s' g' l => ?_
      have h2 := hg Z' H' σ e1 S' m T v D.nx g' l
      rw [e2] at h2
      exact h2 fun σ2 S2 fx g2 u2 => p σ2 Z' H' S2 fx (s'.weak u2) g2
    | exc x e3 => rw [e2] at p; exact p.elim
    | bad => rw [e2] at p; exact p.elim
  | exc x e1 =>
    rw [e] at p h1
    exact h1 fun cls d Z' H' S' hx s' g' => p cls d σ Z' H' S' hx Fix.refl s' g'
  | bad => rw [e] at p; exact p.elim
theorem xs_asg (h : PEs G X W e f) (hg : PGs' G X P tg g) (hs : swapsWithSole [tg] e pos.line X.env = pure false := by rfl) (hw : swappedStores [tg] e X.env = pure none := by rfl)
    (h1 : (assignEach [tg] X.env).map (·.2) = [assign tg X.env] := by rfl) : PS' G X W P (.Assign [tg] e pos) (ssAsg f g) := by
  obtain ⟨t, p, h⟩ := h.ex
  obtain ⟨u, q, hg⟩ := hg.ex
  exact ⟨_, ps_asg p q hs hw h1, SSok.asg h hg⟩
end

/-! ### while -/
def wl (c : SB) (b : SS) : Nat → SS
  | 0, _ => .bad
  | n + 1, env => match c env with
    | .ok (true, e) => match b e with
      | .ok (.nx, e2) => wl c b n e2
      | .ok (.ct, e2) => wl c b n e2
      | .ok (.brk, e2) => .ok (.nx, e2)
      | .ok (.ret m, e2) => .ok (.ret m, e2)
      | .exc x e2 => .exc x e2
      | .bad => .bad
    | .ok (false, e) => .ok (.nx, e)
    | .exc x e => .exc x e
    | .bad => .bad
theorem wl_mono (c : SB) (b : SS) : ∀ (n : Nat) (env : Env), wl c b n env ≠ .bad → ∀ m, n ≤ m → wl c b m env = wl c b n env
  | 0, env, h, _, _ => absurd rfl h
  | n + 1, env, h, m, hm => by
    obtain ⟨m, rfl⟩ : ∃ k, m = k + 1 := ⟨m - 1, by omega⟩
    unfold wl at h ⊢
    cases e : c env with
    | ok q =>
      obtain ⟨k, e1⟩ := q
      cases k with
      | true =>
        rw [e] at h
        simp only at h ⊢
        cases e2 : b e1 with
        | ok q2 =>
          obtain ⟨fl, e3⟩ := q2
          rw [e2] at h
          cases fl with
          | nx => exact wl_mono c b n e3 h m (by omega)
          | ct => exact wl_mono c b n e3 h m (by omega)
          | brk => rfl
          | ret _ => rfl
        | exc x e3 => rfl
        | bad => rfl
      | false => rfl
    | exc x e1 => rfl
    | bad => rfl
noncomputable def ssWhile (c : SB) (b : SS) : SS := fun env => if h : ∃ n, wl c b n env ≠ .bad then wl c b (Classical.choose h) env else .bad
theorem ssWhile_of {c : SB} {b : SS} {env : Env} {r : Res (Fl × Env)} (n : Nat) (h : wl c b n env = r) (hr : r ≠ .bad) : ssWhile c b env = r := by
  have hn : wl c b n env ≠ .bad := by rw [h]; exact hr
  have ex : ∃ n, wl c b n env ≠ .bad := ⟨n, hn⟩
  unfold ssWhile
  rw [dif_pos ex]
  have h1 := Classical.choose_spec ex
  rcases Nat.le_total n (Classical.choose ex) with q | q
  · rw [wl_mono c b n env hn _ q, h]
  · rw [← wl_mono c b _ env h1 n q, h]
section
variable {G : Gx} {X : Cx} {W : WX'} {P : Px} {c : SB} {b : SS} {tc : TT} {tb : TS} {pos : Pos}
theorem SSok.while (hc : SBok G W tc c) (hb : SSok G W P tb b) : SSok G W P (tWhile tc tb) (ssWhile c b) := fun D Z H σ env S gd p => by
  by_cases ex : ∃ n, wl c b n env ≠ .bad
  case neg => unfold ssWhile at p; rw [dif_neg ex] at p; exact p.elim
  unfold ssWhile at p
  rw [dif_pos ex] at p
  refine ⟨fun n σ' H' => ∃ env' Z' S', Good G Z' H' σ' env' S' ∧ SPost G W P D Z' H' (U S') σ' (wl c b n env'), ⟨_, env, Z, S, gd, p⟩, ?_⟩
  rintro n σ1 H1 ⟨env1, Z1, S1, g1, p1⟩
  cases n with
  | zero => exact p1.elim
  | succ n =>
    unfold wl at p1
    have hh := hc Z1 H1 σ1 env1 S1 (fun k H1 => if k = true then ∃ N : St → Hp → Prop, (∀ σ' H', N σ' H' → ∃ m', m' < n + 1 ∧ ∃ env' Z' S', Good G Z' H' σ' env' S' ∧ SPost G W P D Z' H' (U S') σ' (wl c b m' env')) ∧ tb { D with nx := N, ct := N, bk := D.nx } σ1 H1 else D.nx σ1 H1) g1
    cases e : c env1 with
    | ok q =>
      obtain ⟨k, e1⟩ := q
      rw [e] at p1 hh
      cases k with
      | true =>
        simp only at p1
        refine hh fun Z2 H2 S2 s2 g2 => ?_
        rw [if_pos rfl]
        have p2 := p1.shift s2 Fix.refl
        refine ⟨fun σ' H' => ∃ env' Z' S', Good G Z' H' σ' env' S' ∧ SPost G W P D Z' H' (U S') σ' (wl c b n env'), fun σ' H' h => ⟨n, Nat.lt_succ_self _, h⟩, ?_⟩
        refine hb _ Z2 H2 σ1 e1 S2 g2 ?_
        cases e2 : b e1 with
        | ok q2 =>
          obtain ⟨fl, e3⟩ := q2
          rw [e2] at p2
          cases fl with
          | nx => exact fun σ3 Z3 H3 S3 f3 s3 g3 => ⟨e3, Z3, S3, g3, p2.shift s3 f3⟩
          | ct => exact fun σ3 Z3 H3 S3 f3 s3 g3 => ⟨e3, Z3, S3, g3, p2.shift s3 f3⟩
          | brk => exact fun σ3 Z3 H3 S3 f3 s3 g3 => p2 σ3 Z3 H3 S3 f3 s3 g3
          | ret m => exact fun v σ3 Z3 H3 S3 T f3 s3 g3 h => p2 v σ3 Z3 H3 S3 T f3 s3 g3 h
        | exc x e3 => rw [e2] at p2; exact p2
        | bad => rw [e2] at p2; exact p2.elim
      | false =>
        refine hh fun Z2 H2 S2 s2 g2 => ?_
        rw [if_neg Bool.false_ne_true]
        exact p1 σ1 Z2 H2 S2 Fix.refl s2 g2
    | exc x e1 =>
      rw [e] at p1 hh
      exact hh fun cls d Z2 H2 S2 hx s2 g2 => p1 cls d σ1 Z2 H2 S2 hx Fix.refl s2 g2
    | bad => rw [e] at p1; exact p1.elim
theorem xs_while {ce : Expr} {body : List Stmt} (hp : PassesOwn (model X.prog X.w) X.A X.env X.xe) (hc : PBs G X W ce c) (hb : PSs' G X W P body b) : PS' G X W P (.While ce body [] pos) (ssWhile c b) := by
  obtain ⟨t, p, hc⟩ := hc.ex
  obtain ⟨u, q, hb⟩ := hb.ex
  exact ⟨_, ps_while hp p q, SSok.while hc hb⟩
end

/-! ### for -/
/-- what an iterator gives: the items xs, frozen; Fr: what must stand meanwhile -/
structure Yields (G : Gx) (Fr : Hp → Hp → Rg → Prop) (J : It) (xs : List D) : Prop where
  stay : ∀ Z H R Z' H' R', Fr Z H R → Stp Z H R Z' H' R' → Fr Z' H' R'
  stop : ∀ Z H R i, Fr Z H R → Same Z H → xs.length ≤ i → J.stop i H
  item : ∀ Z H R i d, Fr Z H R → Same Z H → xs[i]? = some d → J.go i H ∧ ∀ x H', J.yld i H x H' → ∃ Z', Stp Z H (fun _ => False) Z' H' (fun _ => False) ∧ RepD G Z' d x
abbrev SI := Env → Res (List D × Env)
def TIok (G : Gx) (W : WX') (t : TI) (f : SI) : Prop := ∀ (Z H : Hp) (σ : St) (env : Env) (S : Rs) (R : It → Hp → Prop), Good G Z H σ env S →
  match f env with
  | .ok (xs, env') => (∀ J Z' H' S', Stp Z H (U S) Z' H' (U S') → Good G Z' H' σ env' S' → Yields G (fun Z1 _ _ => Same Z' Z1) J xs → R J H') → t σ H R
  | .exc e env' => (∀ cls d Z' H' S', ExcAt G H' e cls d → Stp Z H (U S) Z' H' (U S') → Good G Z' H' σ env' S' → W cls d σ H') → t σ H R
  | .bad => True
structure PIs (G : Gx) (X : Cx) (W : WX') (tg e : Expr) (f : SI) : Prop where
  ex : ∃ t, PI X tg e t ∧ TIok G W t f
def fl (g : SG) (b : SS) : List D → SS
  | [], env => .ok (.nx, env)
  | x :: xs, env => match g (.d x) env with
    | .ok e => match b e with
      | .ok (.nx, e2) => fl g b xs e2
      | .ok (.ct, e2) => fl g b xs e2
      | .ok (.brk, e2) => .ok (.nx, e2)
      | .ok (.ret m, e2) => .ok (.ret m, e2)
      | .exc x e2 => .exc x e2
      | .bad => .bad
    | _ => .bad
def ssFor (fi : SI) (g : SG) (b : SS) : SS := fun env => match fi env with
  | .ok (xs, e) => fl g b xs e
  | .exc x e => .exc x e
  | .bad => .bad
section
variable {G : Gx} {X : Cx} {W : WX'} {P : Px} {fi : SI} {g : SG} {b : SS} {ti : TI} {tg : TG} {tb : TS} {pos : Pos}
/-- the turns, by what is to come of the items that are left -/
theorem for_turns {Fr : Hp → Hp → Rg → Prop} {J : It} {xs : List D} {D : Ends} {σ : St} {H : Hp} (hY : Yields G Fr J xs) (hg : SGok G P tg g) (hb : SSok G W P tb b)
    (Z : Hp) (S : Rs) (env : Env) (gd : Good G Z H σ env S) (hF : Fr Z H (U S)) (p : SPost G W P D Z H (U S) σ (fl g b xs env)) :
    ∃ W' : Nat → Nat → St → Hp → Prop, (∃ m, W' 0 m σ H) ∧ ∀ i m σ H, W' i m σ H →
      (J.stop i H ∧ D.nx σ H) ∨ (J.go i H ∧ ∃ N : St → Hp → Prop, (∀ σ' H', N σ' H' → ∃ m', m' < m ∧ W' (i + 1) m' σ' H') ∧ ∀ x H', J.yld i H x H' → tg x σ H' fun σ2 H2 => tb { D with nx := N, ct := N, bk := D.nx } σ2 H2) := by
  refine ⟨fun i m σ' H' => m = xs.length - i ∧ i ≤ xs.length ∧ ∃ env' Z' S', Good G Z' H' σ' env' S' ∧ Fr Z' H' (U S') ∧ SPost G W P D Z' H' (U S') σ' (fl g b (xs.drop i) env'), ⟨xs.length, by simp, Nat.zero_le _, env, Z, S, gd, hF, by simpa using p⟩, ?_⟩
  rintro i m σ1 H1 ⟨rfl, hi, env1, Z1, S1, g1, F1, p1⟩
  by_cases hlt : i < xs.length
  · refine .inr ?_
    obtain ⟨go, yl⟩ := hY.item Z1 H1 (U S1) i xs[i] F1 g1.zh (List.getElem?_eq_getElem hlt)
    rw [List.drop_eq_getElem_cons hlt] at p1
    unfold fl at p1
    refine ⟨go, fun σ' H' => ∃ env' Z' S', Good G Z' H' σ' env' S' ∧ Fr Z' H' (U S') ∧ SPost G W P D Z' H' (U S') σ' (fl g b (xs.drop (i + 1)) env'), fun σ' H' ⟨env', Z', S', h1, h2, h3⟩ => ⟨xs.length - (i + 1), by omega, rfl, hlt, env', Z', S', h1, h2, h3⟩, fun x H2 hy => ?_⟩
    obtain ⟨Z2, s2, rx⟩ := yl x H2 hy
    obtain ⟨g2, _⟩ := g1.move s2 fun _ _ z => z
    have s2' : Stp Z1 H1 (U S1) Z2 H2 (U S1) := ((s2.frame (U S1)).from fun a z => z.elim (fun z => z.elim) id).weak fun a z => .inr z
    have F2 := hY.stay _ _ _ _ _ _ F1 s2'
    have hh := fun Q => hg Z2 H2 σ1 env1 S1 (.d xs[i]) (fun _ => False) x Q g2 (Hld.data rx)
    cases e : g (.d xs[i]) env1 with
    | ok e1 =>
      rw [e] at p1
      simp only [e] at p1 hh
      refine hh _ fun σ3 S3 fx3 g3 u3 => ?_
      have s3 : Stp Z1 H1 (U S1) Z2 H2 (U S3) := s2'.weak fun a z => (u3 a z).elim id fun z => z.elim
      have F3 := hY.stay _ _ _ _ _ _ F1 s3
      have p3 := p1.shift s3 fx3
      refine hb _ Z2 H2 σ3 e1 S3 g3 ?_
      cases e2 : b e1 with
      | ok q2 =>
        obtain ⟨f', e3⟩ := q2
        rw [e2] at p3
        cases f' with
        | nx => exact fun σ4 Z4 H4 S4 f4 s4 g4 => ⟨e3, Z4, S4, g4, hY.stay _ _ _ _ _ _ F3 s4, p3.shift s4 f4⟩
        | ct => exact fun σ4 Z4 H4 S4 f4 s4 g4 => ⟨e3, Z4, S4, g4, hY.stay _ _ _ _ _ _ F3 s4, p3.shift s4 f4⟩
        | brk => exact fun σ4 Z4 H4 S4 f4 s4 g4 => p3 σ4 Z4 H4 S4 f4 s4 g4
        | ret m => exact fun v σ4 Z4 H4 S4 T f4 s4 g4 h => p3 v σ4 Z4 H4 S4 T f4 s4 g4 h
      | exc x e3 => rw [e2] at p3; exact p3
      | bad => rw [e2] at p3; exact p3.elim
    | exc x e1 => rw [e] at p1; exact p1.elim
    | bad => rw [e] at p1; exact p1.elim
  · have e : i = xs.length := by omega
    refine .inl ⟨hY.stop Z1 H1 (U S1) i F1 g1.zh (by omega), ?_⟩
    rw [e, List.drop_length] at p1
    exact p1 σ1 Z1 H1 S1 Fix.refl (Stp.refl g1.zh) g1
theorem SSok.for (hi : TIok G W ti fi) (hg : SGok G P tg g) (hb : SSok G W P tb b) : SSok G W P (tFor ti tg tb) (ssFor fi g b) := fun D Z H σ env S gd p => by
  unfold ssFor at p
  have h1 := hi Z H σ env S (fun J H1 => ∃ W' : Nat → Nat → St → Hp → Prop, (∃ m, W' 0 m σ H1) ∧ ∀ i m σ H, W' i m σ H →
      (J.stop i H ∧ D.nx σ H) ∨ (J.go i H ∧ ∃ N : St → Hp → Prop, (∀ σ' H', N σ' H' → ∃ m', m' < m ∧ W' (i + 1) m' σ' H') ∧ ∀ x H', J.yld i H x H' → tg x σ H' fun σ2 H2 => tb { D with nx := N, ct := N, bk := D.nx } σ2 H2)) gd
  cases e : fi env with
  | ok q =>
    obtain ⟨xs, e1⟩ := q
    rw [e] at p h1
    refine h1 fun J Z' H' S' s' g' hY => ?_
    exact for_turns hY hg hb Z' S' e1 g' (Same.refl _) (p.shift s' Fix.refl)
  | exc x e1 =>
    rw [e] at p h1
    exact h1 fun cls d Z' H' S' hx s' g' => p cls d σ Z' H' S' hx Fix.refl s' g'
  | bad => rw [e] at p; exact p.elim
theorem xs_for {te ie : Expr} {body : List Stmt} (hp : PassesOwn (model X.prog X.w) X.A X.env X.xe) (hc : X.calm = true) (hi : PIs G X W te ie fi) (hg : PGs' G X P te g) (hb : PSs' G X W P body b)
    (hs : ∀ x, foldedSetIterable ie X.env x = pure x := by intro _; rfl) : PS' G X W P (.For te ie body [] pos) (ssFor fi g b) := by
  obtain ⟨t, p, hi⟩ := hi.ex
  obtain ⟨u, q, hg⟩ := hg.ex
  obtain ⟨v, r, hb⟩ := hb.ex
  exact ⟨_, ps_for hp hc p q r hs, SSok.for hi hg hb⟩
end
end FL

set_option maxHeartbeats 2000000
/-! FLH: a def's promise by its body; calls; built-ins. -/
namespace FL
open PySem L2 Classical

/-! ### a def -/
def runF (N n : Nat) (pr : List Nat) (b : SS) : FS := fun ms => match b (ms.map some ++ List.replicate (N - n) none) with
  | .ok (.ret m, e) => .ok (m, (killAll pr e).take n)
  | .ok (.nx, e) => .ok (.d .non, (killAll pr e).take n)
  | .exc x e => .exc x ((killAll pr e).take n)
  | _ => .bad
abbrev Pn (n : Nat) (pr : List Nat) : Px := fun i => i < n ∧ i ∉ pr
theorem killAll_len : ∀ (ds : List Nat) (env : Env), (killAll ds env).length = env.length
  | [], _ => rfl
  | d :: ds, env => by
    show (killAll ds (env.set d none)).length = env.length
    rw [killAll_len ds, List.length_set]
theorem killAll_get : ∀ (ds : List Nat) (env : Env) (i : Nat) (m : M), (killAll ds env)[i]? = some (some m) → i ∉ ds
  | [], _, _, _, _ => by simp
  | d :: ds, env, i, m, h => by
    have h' : (killAll ds (env.set d none))[i]? = some (some m) := h
    have h1 := killAll_get ds _ i m h'
    have keep : ∀ (ds : List Nat) (env : Env), (killAll ds env)[i]? = some (some m) → env[i]? = some (some m) := by
      intro ds
      induction ds with
      | nil => intro env h; exact h
      | cons d ds ih =>
        intro env h
        have h2 := ih (env.set d none) h
        by_cases e : d = i
        · subst e
          by_cases hl : d < env.length
          · rw [List.getElem?_set_self hl] at h2; cases h2
          · rw [List.getElem?_eq_none (by rw [List.length_set]; omega)] at h2; cases h2
        · rwa [List.getElem?_set_ne e] at h2
    have h2 := keep ds _ h'
    have : i ≠ d := by
      intro e
      subst e
      by_cases hl : i < env.length
      · rw [List.getElem?_set_self hl] at h2; cases h2
      · rw [List.getElem?_eq_none (by rw [List.length_set]; omega)] at h2; cases h2
    simp [this, h1]
theorem Good.params {G : Gx} {Z H : Hp} {σ σ0 : St} {env : Env} {S : Rs} {n : Nat} {pr : List Nat} (g : Good G Z H σ env S) (fx : Fix (Pn n pr) σ0 σ) :
    ∃ S', Good G Z H (σ0.take n) ((killAll pr env).take n) S' ∧ ∀ a, U S' a → U S a := by
  obtain ⟨S', g', h'⟩ := killAll_good pr g
  refine ⟨S', ⟨g'.zh, fun i m e => ?_, g'.dj, g'.al, g'.zf, ?_⟩, h'⟩
  · have hi : i < n := by
      have := (List.getElem?_eq_some_iff.mp e).1
      rw [List.length_take] at this
      omega
    rw [List.getElem?_take_of_lt hi] at e ⊢
    have hp := killAll_get pr env i m e
    obtain ⟨v, hv, r⟩ := g'.rep i m e
    exact ⟨v, by rw [← fx.1 i ⟨hi, hp⟩]; exact hv, r⟩
  · rw [List.length_take, List.length_take, g'.len, fx.2]
section
variable {P : Program} {w : World} {mg : Str → Option Value} {base : Heap} {G : Gx}
theorem fn_ok {x qual : Str} {st : Stmt} {f : Addr} {fd : FuncData} {N ps : List Str} {k n : Nat} (pr : List Nat) {b : SS} (F : Fun G.K x qual st f fd) (S : FnScope N ps (defScope st)) (hn : ps.length = n)
    (hbody : ∀ (cdv : Value) (A : Around) (outer : List PySem.Env) (s : Shared) (H : Hp) (E : XK), Room k (cxOf (L2.CX P w) P w G.K mg base N qual (defScope st) f cdv A outer s H E).A →
      Takes (cxOf (L2.CX P w) P w G.K mg base N qual (defScope st) f cdv A outer s H E) (fun cls d _ H => E cls d H) →
      PassesOwn (model P w) (cxOf (L2.CX P w) P w G.K mg base N qual (defScope st) f cdv A outer s H E).A (cxOf (L2.CX P w) P w G.K mg base N qual (defScope st) f cdv A outer s H E).env (cxOf (L2.CX P w) P w G.K mg base N qual (defScope st) f cdv A outer s H E).xe →
      PSs' G (cxOf (L2.CX P w) P w G.K mg base N qual (defScope st) f cdv A outer s H E) (fun cls d _ H => E cls d H) (Pn n pr) (defBody st) b) :
    FnOk P w G.K mg base (L2.CX P w) (k + 1) f fd ps (spF G n (runF N.length n pr b)) := by
  refine F.okX S (fun vs H Q E h => by rw [h.1, hn]) (fun cdv A outer s H vs Q E hr h => ?_)
  obtain ⟨t, p, hb⟩ := (hbody cdv A outer s H E hr (takes_of rfl rfl rfl rfl) (passes_of rfl)).ex
  refine ⟨t, p, ?_⟩
  obtain ⟨hl, Z, ms, T, g, q⟩ := h
  have hms : ms.length = n := by have := g.len; simpa [hl] using this
  have hNn : n ≤ N.length := by have := congrArg List.length S.pre; rw [List.length_take, hn] at this; omega
  have g0 : Good G Z H (L2.start N vs) (ms.map some ++ List.replicate (N.length - n) none) T := by
    refine ⟨g.zh, fun i m e => ?_, g.dj, g.al, g.zf, ?_⟩
    · have hi : i < n := by
        by_cases hi : i < n
        · exact hi
        · rw [List.getElem?_append_right (by simpa [hms] using hi)] at e
          rw [List.getElem?_replicate] at e
          split at e <;> cases e
      rw [List.getElem?_append_left (by simpa [hms] using hi)] at e
      obtain ⟨v, hv, r⟩ := g.rep i m e
      refine ⟨v, ?_, r⟩
      unfold L2.start
      rw [List.getElem?_append_left (by simpa [hl] using hi)]
      exact hv
    · unfold L2.start
      simp [hl, hms]
  have t0 : (L2.start N vs).take n = vs.map some := by
    unfold L2.start
    rw [List.take_append_of_le_length (by simp [hl]), List.take_of_length_le (by simp [hl])]
  have l0 : (L2.start N vs).length = N.length := by
    unfold L2.start
    simp [hl]
    omega
  have sigLen : ∀ {σ' : St} {e : Env} {Z' H' S'}, Good G Z' H' σ' e S' → e.length = σ'.length := fun g => g.len
  refine hb _ Z H _ _ T g0 ?_
  unfold runF at q
  have le0 : (ms.map some ++ List.replicate (N.length - n) (none : Option M)).length = N.length := by simp [hms]; omega
  cases e : b (ms.map some ++ List.replicate (N.length - n) none) with
  | bad => rw [e] at q; exact q.elim
  | exc x e' =>
    rw [e] at q
    intro cls d σ' Z' H' S' hx fx s' g'
    obtain ⟨S2, g2, u2⟩ := g'.params fx
    rw [t0] at g2
    exact q cls d Z' H' S2 hx (s'.weak u2) g2
  | ok r =>
    obtain ⟨fl, e'⟩ := r
    rw [e] at q
    cases fl with
    | nx =>
      intro σ' Z' H' S' fx s' g'
      obtain ⟨S2, g2, u2⟩ := g'.params fx
      rw [t0] at g2
      exact q .non Z' H' S2 (fun _ => False) (s'.weak fun a z => z.elim (u2 a) fun z => z.elim) g2 (Hld.data (by simp [RepD]))
    | ret m =>
      intro v σ' Z' H' S' T' fx s' g' h
      obtain ⟨S2, g2, u2⟩ := g'.params fx
      rw [t0] at g2
      exact q v Z' H' S2 T' (s'.weak fun a z => z.elim (fun z => .inl (u2 a z)) .inr) g2 ⟨h.rep, h.al, h.zf, fun a z w => h.dj a z (u2 a w)⟩
    | brk => exact q.elim
    | ct => exact q.elim
end
end FL

set_option maxHeartbeats 2000000
/-! FLI: what is walked; comprehensions. -/
namespace FL
open PySem L2 Classical

theorem PI.or {X : Cx} {tg e : Expr} {t u : TI} (h : PI X tg e t) (h' : PI X tg e u) : PI X tg e (fun σ H R => t σ H R ∨ u σ H R) := ⟨fun pins s σ H R I q => q.elim (h.run pins s σ H R I) (h'.run pins s σ H R I)⟩
/-- the items of a list, a tuple, a text -/
def itemsD : D → Option (List D)
  | .lst xs => some xs
  | .scr xs => some xs
  | .tup xs => some xs
  | .str z => some (z.cps.toList.map fun c => .str ⟨#[c]⟩)
  | _ => none
def siQ (f : SE) : SI := fun env => match f env with
  | .ok (m, e) => match itemsD (fz m) with
    | some xs => .ok (xs, e)
    | none => .bad
  | .exc x e => .exc x e
  | .bad => .bad
section
variable {G : Gx} {X : Cx} {W : WX'} {f : SE} {e tg : Expr} {te : TE}
theorem yields_list {Z : Hp} {a : Addr} {vs : List V} {xs : List D} (q : ∀ Z1 H1, Same Z Z1 → Same Z1 H1 → SqL G.K H1 a vs) (r : RepDs G Z xs vs) : Yields G (fun Z1 _ _ => Same Z Z1) (Itl G.K a) xs where
  stay := fun Z1 H1 R Z2 H2 R2 h s => h.trans s.z
  stop := fun Z1 H1 R i h zh hl => ⟨vs, q Z1 H1 h zh, by rw [← r.len]; exact hl⟩
  item := fun Z1 H1 R i d h zh e => by
    obtain ⟨v, hv, rv⟩ := r.get e
    refine ⟨⟨vs, v, q Z1 H1 h zh, hv⟩, fun x H' hy => ?_⟩
    obtain ⟨rfl, hx⟩ := hy
    have := hx vs (q Z1 _ h zh)
    rw [hv] at this; cases this
    exact ⟨Z1, Stp.refl zh, RepD.mono h _ _ rv⟩
theorem yields_tup {Z : Hp} {a : Addr} {vs : List V} {xs : List D} (q : ∀ Z1 H1, Same Z Z1 → Same Z1 H1 → SqT G.K H1 a vs) (r : RepDs G Z xs vs) : Yields G (fun Z1 _ _ => Same Z Z1) (Itt G.K a) xs where
  stay := fun Z1 H1 R Z2 H2 R2 h s => h.trans s.z
  stop := fun Z1 H1 R i h zh hl => ⟨vs, q Z1 H1 h zh, by rw [← r.len]; exact hl⟩
  item := fun Z1 H1 R i d h zh e => by
    obtain ⟨v, hv, rv⟩ := r.get e
    refine ⟨⟨vs, v, q Z1 H1 h zh, hv⟩, fun x H' hy => ?_⟩
    obtain ⟨rfl, hx⟩ := hy
    have := hx vs (q Z1 _ h zh)
    rw [hv] at this; cases this
    exact ⟨Z1, Stp.refl zh, RepD.mono h _ _ rv⟩
theorem yields_str {Z : Hp} (z : Str) : Yields G (fun Z1 _ _ => Same Z Z1) (Its z) (z.cps.toList.map fun c => .str ⟨#[c]⟩) where
  stay := fun Z1 H1 R Z2 H2 R2 h s => h.trans s.z
  stop := fun Z1 H1 R i h zh hl => by
    show z.cps.size ≤ i
    simpa using hl
  item := fun Z1 H1 R i d h zh e => by
    rw [List.getElem?_map] at e
    cases ec : z.cps.toList[i]? with
    | none => rw [ec] at e; cases e
    | some c =>
      rw [ec] at e; cases e
      have hi : i < z.cps.size := by have := (List.getElem?_eq_some_iff.mp ec).1; simpa using this
      refine ⟨hi, fun x H' hy => ?_⟩
      obtain ⟨rfl, c', hc, rfl⟩ := hy
      have : c' = c := by
        have e1 : z.cps.toList[i]? = z.cps[i]? := by simp
        rw [e1, hc] at ec; cases ec; rfl
      subst this
      exact ⟨Z1, Stp.refl zh, by simp [RepD]⟩
theorem yields_range {Z : Hp} (lo : Int) (n : Nat) : Yields G (fun Z1 _ _ => Same Z Z1) (Itr lo n) ((List.range n).map fun (i : Nat) => .int (lo + (i : Int))) where
  stay := fun Z1 H1 R Z2 H2 R2 h s => h.trans s.z
  stop := fun Z1 H1 R i h zh hl => by
    show n ≤ i
    simpa using hl
  item := fun Z1 H1 R i d h zh e => by
    rw [List.getElem?_map] at e
    by_cases hi : i < n
    · rw [List.getElem?_range hi] at e
      cases e
      refine ⟨hi, fun x H' hy => ?_⟩
      obtain ⟨rfl, rfl⟩ := hy
      exact ⟨Z1, Stp.refl zh, by simp [RepD]⟩
    · rw [List.getElem?_eq_none (by simpa using hi)] at e; cases e
theorem TIok.q (h : SEok G W te f) : TIok G W (fun σ H R => iList G.K te σ H R ∨ (iTup G.K te σ H R ∨ iStr te σ H R)) (siQ f) := fun Z H σ env S R gd => by
  unfold siQ
  have h1 := fun Q => h Z H σ env S Q gd
  cases e1 : f env with
  | bad => trivial
  | exc x e2 =>
    simp only [e1] at h1
    exact fun q => .inl (h1 _ q)
  | ok r =>
    obtain ⟨m, env1⟩ := r
    simp only [e1] at h1
    simp only
    cases em : fz m with
    | lst xs =>
      simp only [itemsD]
      intro q
      refine .inl (h1 _ fun v Z' H' S' T s' g' l => ?_)
      obtain ⟨rz, sz⟩ := l.frozen g'.zh
      rw [em] at rz
      simp only [RepD] at rz
      obtain ⟨a, vs, rfl, hz, rr⟩ := rz
      have sT : Stp Z' H' T (Fzp Z' H' T) H' T := ⟨sz.z, sz.zh, fun _ _ e _ => e, fun _ z => .inl z, fun a z => by
        by_cases ta : T a
        · exact .inr (.inl ta)
        · rw [frz_out ta] at z; exact .inl z⟩
      have g2 := (g'.move sT fun a z w => l.dj a w z).1
      refine ⟨a, rfl, ⟨vs, SqL.of (sz.zh _ _ hz)⟩, q _ _ _ S' (s'.trans (sz.weak fun _ z => z)) g2 (yields_list (fun Z1 H1 h1 h2 => SqL.of (h2 _ _ (h1 _ _ hz))) rr)⟩
    | scr xs =>
      simp only [itemsD]
      intro q
      refine .inl (h1 _ fun v Z' H' S' T s' g' l => ?_)
      obtain ⟨rz, sz⟩ := l.frozen g'.zh
      rw [em] at rz
      simp only [RepD] at rz
      obtain ⟨a, vs, rfl, hz, rr⟩ := rz
      have sT : Stp Z' H' T (Fzp Z' H' T) H' T := ⟨sz.z, sz.zh, fun _ _ e _ => e, fun _ z => .inl z, fun a z => by
        by_cases ta : T a
        · exact .inr (.inl ta)
        · rw [frz_out ta] at z; exact .inl z⟩
      have g2 := (g'.move sT fun a z w => l.dj a w z).1
      refine ⟨a, rfl, ⟨vs, sz.zh.seq hz⟩, q _ _ _ S' (s'.trans (sz.weak fun _ z => z)) g2 (yields_list (fun Z1 H1 h1 h2 => h2.seq (h1.seq hz)) rr)⟩
    | tup xs =>
      simp only [itemsD]
      intro q
      refine .inr (.inl (h1 _ fun v Z' H' S' T s' g' l => ?_))
      obtain ⟨rz, sz⟩ := l.frozen g'.zh
      rw [em] at rz
      simp only [RepD] at rz
      obtain ⟨a, vs, rfl, hz, rr⟩ := rz
      have sT : Stp Z' H' T (Fzp Z' H' T) H' T := ⟨sz.z, sz.zh, fun _ _ e _ => e, fun _ z => .inl z, fun a z => by
        by_cases ta : T a
        · exact .inr (.inl ta)
        · rw [frz_out ta] at z; exact .inl z⟩
      have g2 := (g'.move sT fun a z w => l.dj a w z).1
      refine ⟨a, rfl, ⟨vs, Same.seqT sz.zh hz⟩, q _ _ _ S' (s'.trans (sz.weak fun _ z => z)) g2 (yields_tup (fun Z1 H1 h1 h2 => Same.seqT h2 (Same.seqT h1 hz)) rr)⟩
    | str z =>
      simp only [itemsD]
      intro q
      refine .inr (.inr (h1 _ fun v Z' H' S' T s' g' l => ?_))
      have rz := (l.frozen g'.zh).1
      rw [em] at rz
      simp only [RepD] at rz
      subst rz
      exact ⟨z, rfl, q _ _ _ S' (s'.weak fun _ z => .inl z) g' (yields_str z)⟩
    | _ => trivial
theorem xi_q (hK : G.K = X.K) (h : PEs G X W e f) : PIs G X W tg e (siQ f) := by
  obtain ⟨t, p, h⟩ := h.ex
  have h1 : PI X tg e (iList G.K t) := by rw [hK]; exact pi_list p
  have h2 : PI X tg e (iTup G.K t) := by rw [hK]; exact pi_tup p
  exact ⟨_, PI.or h1 (PI.or h2 (pi_str p)), TIok.q h⟩
/-- range -/
abbrev C62 (i : Int) : Prop := -(2 ^ 62) ≤ i ∧ i < 2 ^ 62
def siR1 (fs : SA) : SI := fun env => match fs env with
  | .ok ([.d (.int j)], e) => if C62 j then .ok ((List.range j.toNat).map fun (i : Nat) => .int (0 + (i : Int)), e) else .bad
  | .exc x e => .exc x e
  | _ => .bad
def siR2 (fs : SA) : SI := fun env => match fs env with
  | .ok ([.d (.int i), .d (.int j)], e) => if C62 i ∧ C62 j then .ok ((List.range (j - i).toNat).map fun (k : Nat) => .int (i + (k : Int)), e) else .bad
  | .exc x e => .exc x e
  | _ => .bad
theorem row1 {Z H : Hp} {m : M} {vs : List V} {T : Rs} (g : Good G Z H (vs.map some) ([m].map some) T) : ∃ v, vs = [v] ∧ RepM G Z H m (T 0) v := by
  have hl := g.len
  match vs, hl with
  | [v], _ =>
    obtain ⟨w, hw, h⟩ := g.head
    cases hw
    exact ⟨v, rfl, h.rep⟩
theorem row2 {Z H : Hp} {m m' : M} {vs : List V} {T : Rs} (g : Good G Z H (vs.map some) ([m, m'].map some) T) : ∃ v w, vs = [v, w] ∧ RepM G Z H m (T 0) v ∧ RepM G Z H m' (T 1) w := by
  have hl := g.len
  match vs, hl with
  | [v, w], _ =>
    obtain ⟨v', hv, h⟩ := g.head
    cases hv
    obtain ⟨w', hw, h'⟩ := g.tail.head
    cases hw
    exact ⟨v, w, rfl, h.rep, h'.rep⟩
theorem xi_range1 {a : Expr} {fs : SA} {bk : Bk} {p pos : Pos} (hm : X.mg "range" = none) (ha : PAs' G X W [a] bk fs) (hg : Gl X "range" := by rfl) (hs : starEach [a] X.env = [(false, eval a X.env)] := by rfl) : PIs G X W tg (.Call (.Name "range" p) [a] [] pos) (siR1 fs) := by
  obtain ⟨t, q, h⟩ := ha.ex
  refine ⟨_, pi_range1 hg hm q hs, fun Z H σ env S R gd => ?_⟩
  unfold siR1
  have h1 := h Z H σ env S (fun vs H1 => ∃ j : Int, vs = [.int j] ∧ -(2 ^ 62) ≤ j ∧ j < 2 ^ 62 ∧ R (Itr 0 j.toNat) H1) gd
  split
  · rename_i e2
    intro k
    split at e2
    · rename_i j e3 e1
      split at e2
      · rename_i c
        cases e2
        rw [e1] at h1
        refine h1 fun vs Z' H' S' T s' g' row d kk => ?_
        obtain ⟨v, rfl, r⟩ := row1 row
        rw [rep_int r]
        exact ⟨j, rfl, c.1, c.2, k _ Z' H' S' (s'.weak fun _ z => .inl z) g' (yields_range 0 j.toNat)⟩
      · cases e2
    · cases e2
    · cases e2
  · rename_i x e2 e
    split at e
    · split at e <;> cases e
    · rename_i e1
      cases e
      rw [e1] at h1
      exact h1
    · cases e
  · trivial
theorem xi_range2 {a b : Expr} {fs : SA} {bk : Bk} {p pos : Pos} (hm : X.mg "range" = none) (ha : PAs' G X W [a, b] bk fs) (hg : Gl X "range" := by rfl) (hs : starEach [a, b] X.env = [(false, eval a X.env), (false, eval b X.env)] := by rfl) (hs2 : starEach [b] X.env = [(false, eval b X.env)] := by rfl) : PIs G X W tg (.Call (.Name "range" p) [a, b] [] pos) (siR2 fs) := by
  obtain ⟨t, q, h⟩ := ha.ex
  refine ⟨_, pi_range2 hg hm q hs hs2, fun Z H σ env S R gd => ?_⟩
  unfold siR2
  have h1 := h Z H σ env S (fun vs H1 => ∃ i j : Int, vs = [.int i, .int j] ∧ (-(2 ^ 62) ≤ i ∧ i < 2 ^ 62 ∧ -(2 ^ 62) ≤ j ∧ j < 2 ^ 62) ∧ R (Itr i (j - i).toNat) H1) gd
  split
  · rename_i e2
    intro k
    split at e2
    · rename_i i j e3 e1
      split at e2
      · rename_i c
        cases e2
        rw [e1] at h1
        refine h1 fun vs Z' H' S' T s' g' row d kk => ?_
        obtain ⟨v, w, rfl, r, r'⟩ := row2 row
        rw [rep_int r, rep_int r']
        exact ⟨i, j, rfl, ⟨c.1.1, c.1.2, c.2.1, c.2.2⟩, k _ Z' H' S' (s'.weak fun _ z => .inl z) g' (yields_range i (j - i).toNat)⟩
      · cases e2
    · cases e2
    · cases e2
  · rename_i x e2 e
    split at e
    · split at e <;> cases e
    · rename_i e1
      cases e
      rw [e1] at h1
      exact h1
    · cases e
  · trivial
end

/-! ### comprehensions -/
theorem wipe_get {σ : St} {i : Nat} : ∀ {vs : List Nat}, i ∉ vs → (wipe σ vs)[i]? = σ[i]?
  | [], _ => rfl
  | v :: vs, h => by
    unfold wipe
    rw [List.getElem?_set_ne (fun e => h (by simp [e])), wipe_get (fun z => h (List.mem_cons_of_mem _ z))]
theorem wipe_in {σ : St} {i : Nat} : ∀ {vs : List Nat}, i ∈ vs → i < σ.length → (wipe σ vs)[i]? = some none
  | v :: vs, h, hl => by
    unfold wipe
    by_cases e : v = i
    · subst e; rw [List.getElem?_set_self (by rw [wipe_length]; exact hl)]
    · rw [List.getElem?_set_ne e]
      exact wipe_in ((List.mem_cons.mp h).resolve_left (Ne.symm e)) hl
theorem wipe_fix {σ σ2 : St} {vs : List Nat} (fx : Fix (fun i => i ∉ vs) (wipe σ vs) σ2) : wipe σ2 vs = wipe σ vs := by
  have hl : σ2.length = σ.length := by rw [fx.2, wipe_length]
  apply List.ext_getElem?
  intro i
  by_cases h : i ∈ vs
  · by_cases hi : i < σ.length
    · rw [wipe_in h hi, wipe_in h (by rw [hl]; exact hi)]
    · rw [List.getElem?_eq_none (by rw [wipe_length, hl]; omega), List.getElem?_eq_none (by rw [wipe_length]; omega)]
  · rw [wipe_get h, fx.1 i h]
section
variable {G : Gx} {Z H : Hp} {σ σ2 : St} {env : Env} {S : Rs} {vs : List Nat}
theorem Good.unwipe (g : Good G Z H (wipe σ vs) env S) : Good G Z H σ env S :=
  ⟨g.zh, fun i m e => by obtain ⟨v, hv, r⟩ := g.rep i m e; exact ⟨v, (wipe_some hv).1, r⟩, g.dj, g.al, g.zf, by rw [g.len, wipe_length]⟩
theorem Good.wipe (g : Good G Z H σ env S) (vs : List Nat) : ∃ S', Good G Z H (L2.wipe σ vs) (killAll vs env) S' ∧ ∀ a, U S' a → U S a := by
  obtain ⟨S', g', h'⟩ := killAll_good vs g
  exact ⟨S', ⟨g'.zh, fun i m e => by
    obtain ⟨v, hv, r⟩ := g'.rep i m e
    exact ⟨v, by rw [wipe_get (killAll_get vs env i m e)]; exact hv, r⟩, g'.dj, g'.al, g'.zf, by rw [g'.len, wipe_length]⟩, h'⟩
end
def GSem (G : Gx) (P : Px) (f : SG) : TG := fun v σ H Q => ∃ Z env S m T, Good G Z H σ env S ∧ Hld G Z H (U S) m T v ∧ match f m env with
  | .ok env' => ∀ σ' S', Fix P σ σ' → Good G Z H σ' env' S' → (∀ a, U S' a → U S a ∨ T a) → Q σ' H
  | _ => False
theorem PGs'.sem {G : Gx} {X : Cx} {P : Px} {tg : Expr} {f : SG} (h : PGs' G X P tg f) : PG X tg (GSem G P f) := by
  obtain ⟨g, p, h⟩ := h.ex
  refine ⟨fun pins s σ H v u Q I r q => p.run pins s σ H v u Q I r ?_⟩
  obtain ⟨Z, env, S, m, T, gd, l, q⟩ := q
  have h1 := h Z H σ env S m T v Q gd l
  cases e : f m env with
  | ok e' => rw [e] at h1 q; exact h1 q
  | exc _ _ => rw [e] at q; exact q.elim
  | bad => rw [e] at q; exact q.elim
theorem GSem.ok {G : Gx} {P : Px} {f : SG} : SGok G P (GSem G P f) f := fun Z H σ env S m T v Q gd l => by
  cases e : f m env with
  | ok e' => intro q; exact ⟨Z, env, S, m, T, gd, l, by rw [e]; exact q⟩
  | _ => trivial
/-- the turns of a comprehension: the slots own are the comprehension's -/
def lcl (own : List Nat) (g : SG) (c : SB) (f : SE) : List D → List M → Env → Res (List M × Env)
  | [], acc, env => .ok (acc, env)
  | x :: xs, acc, env => match g (.d x) env with
    | .ok e1 => match c e1 with
      | .ok (true, e2) => match f e2 with
        | .ok (m, e3) => lcl own g c f xs (acc ++ [m]) (killAll own e3)
        | _ => .bad
      | .ok (false, e2) => lcl own g c f xs acc (killAll own e2)
      | _ => .bad
    | _ => .bad
def sLc (own : List Nat) (fi : SI) (g : SG) (c : SB) (f : SE) : SE := fun env => match fi env with
  | .ok (xs, e) => if xs.length ≤ sizeLine then (match lcl own g c f xs [] (killAll own e) with
    | .ok (ms, e2) => .ok (.lst ms, e2)
    | _ => .bad) else .bad
  | .exc x e => .exc x e
  | .bad => .bad
def sbYes : SB := fun env => .ok (true, env)
abbrev W0 : WX' := fun _ _ _ _ => False
section
variable {G : Gx} {X : Cx} {W : WX'} {fi : SI} {g : SG} {c : SB} {f : SE} {ti : TI} {own : List Nat}
theorem SEok.lc {tg : TG} {tt : TT} {te : TE} (hi : TIok G W ti fi) (hg : SGok G (fun i => i ∉ own) tg g) (hc : SBok G W0 tt c) (he : SEok G W0 te f) : SEok G W (tLc ti tg tt te own) (sLc own fi g c f) := fun Z H σ env S Q gd => by
  unfold sLc
  have h1 := fun R => hi Z H σ env S R gd
  cases e1 : fi env with
  | bad => trivial
  | exc x e2 => simp only [e1] at h1; exact fun q => h1 _ q
  | ok r =>
    obtain ⟨xs, env1⟩ := r
    simp only [e1] at h1
    simp only
    by_cases hl : xs.length ≤ sizeLine
    case neg => rw [if_neg hl]; trivial
    rw [if_pos hl]
    cases e2 : lcl own g c f xs [] (killAll own env1) with
    | exc _ _ => trivial
    | bad => trivial
    | ok r2 =>
      obtain ⟨ms, env2⟩ := r2
      intro q
      refine h1 _ fun J Z1 H1 S1 s1 g1 hY D0 hD => ?_
      obtain ⟨S2, g2, u2⟩ := g1.wipe own
      have st0 := Stp.new (o := HO.lst []) g1.zh hD (U S2)
      have gS := (g2.move (Stp.new (o := HO.lst []) g1.zh hD (fun _ => False)) fun _ _ z => z)
      have hl0 : Hld G Z1 (upd H1 D0 (.lst [])) (U S2) (.lst []) (fun a => False ∨ a = D0) (.ref D0) :=
        lst_new (ms := []) (vs := []) (T := fun _ => False) g1.zh (by simp [RepMs]) (fun _ z => z.elim) (fun _ z => z.elim) (fun _ z => z.elim) hD (fun z => g2.al' _ z hD)
      -- the word: behind i turns what is made so far is in the hand, the rest of the turns ends in ms
      refine ⟨fun i m H' => m = xs.length - i ∧ i ≤ xs.length ∧ ∃ acc e' Z' S' T, Same Z1 Z' ∧ Good G Z' H' (wipe σ own) e' S' ∧ Hld G Z' H' (U S') (.lst acc) T (.ref D0) ∧ acc.length ≤ i ∧
          Stp Z H (U S) Z' H' (fun a => U S' a ∨ T a) ∧ lcl own g c f (xs.drop i) acc e' = .ok (ms, env2),
        ⟨xs.length, by simp, Nat.zero_le _, [], _, Z1, S2, _, Same.refl _, gS.1, hl0, by simp, ?_, by simpa using e2⟩, ?_⟩
      · refine (s1.trans (Stp.new (o := HO.lst []) g1.zh hD (U S1))).weak fun a z => ?_
        rcases z with z | z | z
        · exact .inl (u2 a z)
        · exact z.elim
        · exact .inr z
      · rintro i m H2 ⟨rfl, hi', acc, e', Z2, S3, T, hZ, g3, l3, hacc, s3, e3⟩
        by_cases hlt : i < xs.length
        case neg =>
          have e : i = xs.length := by omega
          refine .inl ⟨hY.stop Z2 H2 (U S3) i hZ g3.zh (by omega), ?_⟩
          rw [e, List.drop_length] at e3
          unfold lcl at e3
          cases e3
          exact q _ Z2 H2 S3 T s3 g3.unwipe l3
        refine .inr ?_
        obtain ⟨go, yl⟩ := hY.item Z2 H2 (U S3) i xs[i] hZ g3.zh (List.getElem?_eq_getElem hlt)
        rw [List.drop_eq_getElem_cons hlt] at e3
        unfold lcl at e3
        refine ⟨go, fun H' => ∃ acc e' Z' S' T, Same Z1 Z' ∧ Good G Z' H' (wipe σ own) e' S' ∧ Hld G Z' H' (U S') (.lst acc) T (.ref D0) ∧ acc.length ≤ i + 1 ∧
          Stp Z H (U S) Z' H' (fun a => U S' a ∨ T a) ∧ lcl own g c f (xs.drop (i + 1)) acc e' = .ok (ms, env2), fun H' h => ⟨xs.length - (i + 1), by omega, rfl, hlt, h⟩, fun x H3 hy => ?_⟩
        obtain ⟨Z3, s4, rx⟩ := yl x H3 hy
        have g4 := (g3.move s4 fun _ _ z => z).1
        have l4 := l3.step ((s4.frame (U S3)).from fun a z => z.elim (fun z => z.elim) id)
        have s4' : Stp Z H (U S) Z3 H3 (fun a => U S3 a ∨ T a) := (s3.trans ((s4.frame (fun a => U S3 a ∨ T a)).from fun a z => z.elim (fun z => z.elim) id)).weak fun a z => .inr z
        have l4' : Hld G Z3 H3 (U S3) (.lst acc) T (.ref D0) := ⟨l4.rep, l4.al, l4.zf, l3.dj⟩
        cases eg : g (.d xs[i]) e' with
        | exc _ _ => rw [eg] at e3; cases e3
        | bad => rw [eg] at e3; cases e3
        | ok e4 =>
          rw [eg] at e3
          simp only at e3
          have hh := fun Q => hg Z3 H3 (wipe σ own) e' S3 (.d xs[i]) (fun _ => False) x Q g4 (Hld.data rx)
          simp only [eg] at hh
          refine hh _ fun σ5 S5 fx5 g5 u5 => ⟨wipe_fix fx5, ?_⟩
          have u5' : ∀ a, U S5 a → U S3 a := fun a z => (u5 a z).elim id fun z => z.elim
          have l5 : Hld G Z3 H3 (U S5) (.lst acc) T (.ref D0) := ⟨l4'.rep, l4'.al, l4'.zf, fun a z w => l4'.dj a z (u5' a w)⟩
          have s5 : Stp Z H (U S) Z3 H3 (fun a => U S5 a ∨ T a) := s4'.weak fun a z => z.elim (fun z => .inl (u5' a z)) .inr
          have hc1 := fun Q => hc Z3 H3 σ5 e4 S5 Q g5
          cases ec : c e4 with
          | exc _ _ => rw [ec] at e3; cases e3
          | bad => rw [ec] at e3; cases e3
          | ok rc =>
            obtain ⟨k, e5⟩ := rc
            rw [ec] at e3
            simp only [ec] at hc1
            refine hc1 _ fun Z6 H6 S6 s6 g6 => ?_
            have l6 := l5.step s6
            have s6' : Stp Z H (U S) Z6 H6 (fun a => U S6 a ∨ T a) := s5.trans (s6.frame T)
            have z6 : Same Z1 Z6 := (hZ.trans s4.z).trans s6.z
            cases k with
            | false =>
              simp only at e3
              rw [if_neg Bool.false_ne_true]
              obtain ⟨S7, g7, u7⟩ := g6.wipe own
              rw [wipe_fix fx5] at g7
              exact ⟨acc, _, Z6, S7, T, z6, g7, ⟨l6.rep, l6.al, l6.zf, fun a z w => l6.dj a z (u7 a w)⟩, by omega, s6'.weak fun a z => z.elim (fun z => .inl (u7 a z)) .inr, e3⟩
            | true =>
              simp only at e3
              rw [if_pos rfl]
              have he1 := fun Q => he Z6 H6 σ5 e5 S6 Q g6
              cases ee : f e5 with
              | exc _ _ => rw [ee] at e3; cases e3
              | bad => rw [ee] at e3; cases e3
              | ok re =>
                obtain ⟨m, e6⟩ := re
                rw [ee] at e3
                simp only [ee] at he1
                simp only at e3
                refine he1 _ fun y Z7 H7 S7 Ty s7 g7 ly => ?_
                have l7 := l6.step s7
                have rep7 := l7.rep
                simp only [RepM] at rep7
                obtain ⟨a0, vs0, T0, ea, sa, ta, ts, ho, rr⟩ := rep7
                cases ea
                have hlen : vs0.length = acc.length := rr.len.symm
                refine ⟨vs0, ho, by rw [hlen]; omega, ?_⟩
                have tyD : ¬ Ty D0 := fun z => l7.dj D0 sa (.inr z)
                have dT : ∀ a, T a → ¬ Ty a := fun a z w => l7.dj a z (.inr w)
                have upz : Same Z7 (upd H7 D0 (.lst (vs0 ++ [y]))) := fun a u e => by
                  have ne : a ≠ D0 := fun z => by rw [z, l7.zf D0 sa] at e; cases e
                  rw [upd_ne ne]; exact g7.zh a u e
                have stU : Stp Z7 H7 (fun a => a = D0) Z7 (upd H7 D0 (.lst (vs0 ++ [y]))) (fun a => a = D0) := ⟨Same.refl _, upz, fun b u e h => by rw [upd_ne h]; exact e, fun a z => .inl z, fun a z => .inl z⟩
                obtain ⟨g8, _⟩ := g7.move stU fun a z w => l7.dj D0 sa (.inl (by rw [← w]; exact z))
                have ryy : RepMs G Z7 (upd H7 D0 (.lst (vs0 ++ [y]))) [m] Ty [y] := by
                  simp only [RepMs]
                  exact ⟨y, [], Ty, fun _ => False, rfl, fun _ z => z, fun _ z => z.elim, fun _ _ z => z, RepM.mono (Same.refl _) _ _ _ _ (fun _ z => z) (fun a o z e => by rw [upd_ne (fun w => tyD (by rw [← w]; exact z))]; exact e) ly.rep, rfl⟩
                have rr' : RepMs G Z7 (upd H7 D0 (.lst (vs0 ++ [y]))) acc T0 vs0 := RepMs.mono (Same.refl _) _ _ _ _ (fun _ z => z) (fun a o z e => by rw [upd_ne (fun w => ta (by rw [← w]; exact z))]; exact e) rr
                obtain ⟨S8, g9, u9⟩ := g8.wipe own
                rw [wipe_fix fx5] at g9
                refine ⟨acc ++ [m], _, Z7, S8, fun a => T a ∨ Ty a, z6.trans s7.z, g9, ⟨?_, fun a z => ?_, fun a z => z.elim (l7.zf a) (ly.zf a), fun a z w => ?_⟩, by rw [List.length_append]; simp; omega, ?_, e3⟩
                · simp only [RepM]
                  exact ⟨D0, vs0 ++ [y], fun a => T0 a ∨ Ty a, rfl, .inl sa, fun z => z.elim ta tyD, fun b z => z.elim (fun z => .inl (ts b z)) .inr, upd_same, RepMs.app rr' ryy (fun _ z => .inl z) (fun _ z => .inr z) (fun b z => dT b (ts b z))⟩
                · by_cases w : a = D0
                  · rw [w, upd_same]; exact fun z => nomatch z
                  · rw [upd_ne w]; exact z.elim (l7.al a) (ly.al a)
                · exact z.elim (fun z => l7.dj a z (.inl (u9 a w))) fun z => ly.dj a z (u9 a w)
                · have s7' : Stp Z H (U S) Z7 H7 (fun a => (U S7 a ∨ Ty a) ∨ T a) := s6'.trans (s7.frame T)
                  have st8 : Stp Z H (U S) Z7 (upd H7 D0 (.lst (vs0 ++ [y]))) (fun a => a = D0 ∨ ((U S7 a ∨ Ty a) ∨ T a)) := s7'.trans ((stU.frame (fun a => (U S7 a ∨ Ty a) ∨ T a)).from fun a z => z.elim (fun w => .inr (by rw [w]; exact sa)) id)
                  refine st8.weak fun a z => ?_
                  rcases z with z | z | z
                  · exact .inr (.inl (.inl (u9 a z)))
                  · exact .inr (.inr z)
                  · exact .inr (.inl (.inr z))
theorem sby_ok : SBok G W0 tYes sbYes := fun Z H σ env S Q gd => fun q => q Z H S (Stp.refl gd.zh) gd
theorem xe_lc {elt tg iter : Expr} {scope : Scope} {own : List (Str × Nat)} {pos : Pos} (hc : X.calm = true) (hN : X.N.Nodup) (ok : BlkOk X.N X.env.scope scope own) (hi : PIs G X W tg iter fi)
    (hg : ∀ (s : Shared) (H : Hp) (C : Addr) (cl : List (Str × Addr)) (fp : List Addr), PGs' G (X.blk s H scope (compEnvC scope cl C X.env) fp) (fun i => i ∉ own.map (·.2)) tg g)
    (he : ∀ (s : Shared) (H : Hp) (C : Addr) (cl : List (Str × Addr)) (fp : List Addr), PEs G (X.blk s H scope (compEnvC scope cl C X.env) fp) W0 elt f) (hs : ∀ x, foldedSetIterable iter X.env x = pure x := by intro _; rfl) :
    PEs G X W (.ListComp elt [⟨tg, iter, [], 0⟩] scope pos) (sLc (own.map (·.2)) fi g sbYes f) := by
  obtain ⟨ti, p, hi⟩ := hi.ex
  exact ⟨_, pe_lc hc hN p ok (fun s H C cl fp => (hg s H C cl fp).sem) (fun _ _ _ _ _ => pts_nil) (fun s H C cl fp => (he s H C cl fp).sem) hs, SEok.lc hi GSem.ok sby_ok ESem.ok⟩
theorem xe_lcIf {elt tg iter ce : Expr} {scope : Scope} {own : List (Str × Nat)} {pos : Pos} (hc : X.calm = true) (hN : X.N.Nodup) (ok : BlkOk X.N X.env.scope scope own) (hi : PIs G X W tg iter fi)
    (hg : ∀ (s : Shared) (H : Hp) (C : Addr) (cl : List (Str × Addr)) (fp : List Addr), PGs' G (X.blk s H scope (compEnvC scope cl C X.env) fp) (fun i => i ∉ own.map (·.2)) tg g)
    (ht : ∀ (s : Shared) (H : Hp) (C : Addr) (cl : List (Str × Addr)) (fp : List Addr), PBs G (X.blk s H scope (compEnvC scope cl C X.env) fp) W0 ce c)
    (he : ∀ (s : Shared) (H : Hp) (C : Addr) (cl : List (Str × Addr)) (fp : List Addr), PEs G (X.blk s H scope (compEnvC scope cl C X.env) fp) W0 elt f) (hs : ∀ x, foldedSetIterable iter X.env x = pure x := by intro _; rfl) :
    PEs G X W (.ListComp elt [⟨tg, iter, [ce], 0⟩] scope pos) (sLc (own.map (·.2)) fi g c f) := by
  obtain ⟨ti, p, hi⟩ := hi.ex
  exact ⟨_, pe_lc hc hN p ok (fun s H C cl fp => (hg s H C cl fp).sem) (fun s H C cl fp => pts_one (ht s H C cl fp).sem) (fun s H C cl fp => (he s H C cl fp).sem) hs, SEok.lc hi GSem.ok BSem.ok ESem.ok⟩
/-- y = [..] -/
theorem xs_setLc {P : Px} (i : Nat) {y : Str} {py : Pos} {elt tg iter : Expr} {scope : Scope} {own : List (Str × Nat)} {pos spos : Pos} (hc : X.calm = true) (hN : X.N.Nodup) (ok : BlkOk X.N X.env.scope scope own) (hi : PIs G X W tg iter fi)
    (hg : ∀ (s : Shared) (H : Hp) (C : Addr) (cl : List (Str × Addr)) (fp : List Addr), PGs' G (X.blk s H scope (compEnvC scope cl C X.env) fp) (fun i => i ∉ own.map (·.2)) tg g)
    (he : ∀ (s : Shared) (H : Hp) (C : Addr) (cl : List (Str × Addr)) (fp : List Addr), PEs G (X.blk s H scope (compEnvC scope cl C X.env) fp) W0 elt f)
    (hsw : swapsWith (.ListComp elt [⟨tg, iter, [], 0⟩] scope pos) (some (.Name y py)) spos.line X.env = pure true) (hP : ¬ P i := by decide) (hy : X.N[i]? = some y := by rfl) (hyl : X.env.scope.names.lookup y = some .local := by rfl) (hs : ∀ x, foldedSetIterable iter X.env x = pure x := by intro _; rfl) :
    PS' G X W P (.Assign [.Name y py] (.ListComp elt [⟨tg, iter, [], 0⟩] scope pos) spos) (ssSet i (sLc (own.map (·.2)) fi g sbYes f)) := by
  obtain ⟨ti, p, hi⟩ := hi.ex
  exact ⟨_, ps_setLc hc hN hy hyl hsw p ok (fun s H C cl fp => (hg s H C cl fp).sem) (fun _ _ _ _ _ => pts_nil) (fun s H C cl fp => (he s H C cl fp).sem) hs, SSok.set hP (SEok.lc hi GSem.ok sby_ok ESem.ok)⟩
theorem xs_setLcIf {P : Px} (i : Nat) {y : Str} {py : Pos} {elt tg iter ce : Expr} {scope : Scope} {own : List (Str × Nat)} {pos spos : Pos} (hc : X.calm = true) (hN : X.N.Nodup) (ok : BlkOk X.N X.env.scope scope own) (hi : PIs G X W tg iter fi)
    (hg : ∀ (s : Shared) (H : Hp) (C : Addr) (cl : List (Str × Addr)) (fp : List Addr), PGs' G (X.blk s H scope (compEnvC scope cl C X.env) fp) (fun i => i ∉ own.map (·.2)) tg g)
    (ht : ∀ (s : Shared) (H : Hp) (C : Addr) (cl : List (Str × Addr)) (fp : List Addr), PBs G (X.blk s H scope (compEnvC scope cl C X.env) fp) W0 ce c)
    (he : ∀ (s : Shared) (H : Hp) (C : Addr) (cl : List (Str × Addr)) (fp : List Addr), PEs G (X.blk s H scope (compEnvC scope cl C X.env) fp) W0 elt f)
    (hsw : swapsWith (.ListComp elt [⟨tg, iter, [ce], 0⟩] scope pos) (some (.Name y py)) spos.line X.env = pure true) (hP : ¬ P i := by decide) (hy : X.N[i]? = some y := by rfl) (hyl : X.env.scope.names.lookup y = some .local := by rfl) (hs : ∀ x, foldedSetIterable iter X.env x = pure x := by intro _; rfl) :
    PS' G X W P (.Assign [.Name y py] (.ListComp elt [⟨tg, iter, [ce], 0⟩] scope pos) spos) (ssSet i (sLc (own.map (·.2)) fi g c f)) := by
  obtain ⟨ti, p, hi⟩ := hi.ex
  exact ⟨_, ps_setLc hc hN hy hyl hsw p ok (fun s H C cl fp => (hg s H C cl fp).sem) (fun s H C cl fp => pts_one (ht s H C cl fp).sem) (fun s H C cl fp => (he s H C cl fp).sem) hs, SSok.set hP (SEok.lc hi GSem.ok BSem.ok ESem.ok)⟩
end
end FL

set_option maxHeartbeats 2000000
/-! FLJ: built-ins, slices, globals, calls of the program's defs, raise. -/
namespace FL
open PySem L2 Classical

/-! ### a built-in's answer that is plain -/
abbrev RepVs (G : Gx) (Z H : Hp) : List M → List V → Prop := Paired fun m v => ∃ T, RepM G Z H m T v
abbrev LOp := List M → Res D
def BOP (G : Gx) (r : List V → Hp → VK → Prop) (op : LOp) : Prop := ∀ (Z H : Hp) (ms : List M) (vs : List V) (Q : VK), Same Z H → RepVs G Z H ms vs →
  match op ms with
  | .ok x => (∀ u, RepD G Z x u → Q u H) → r vs H Q
  | _ => True
theorem RepMs.vs {G : Gx} {Z H : Hp} : ∀ {ms : List M} {T : Rg} {vs : List V}, RepMs G Z H ms T vs → RepVs G Z H ms vs
  | [], _, _, r => by simp only [RepMs] at r; subst r; exact .nil
  | m :: ms, _, _, r => by
    simp only [RepMs] at r
    obtain ⟨v, r', T1, T2, rfl, _, _, _, q, r⟩ := r
    exact .cons ⟨T1, q⟩ (RepMs.vs r)
abbrev VA := Env → Res (List M)
def VAok (G : Gx) (t : TA) (f : VA) : Prop := ∀ (Z H : Hp) (σ : St) (env : Env) (S : Rs) (Q : List V → Hp → Prop), Good G Z H σ env S →
  match f env with
  | .ok ms => (∀ vs, RepVs G Z H ms vs → Q vs H) → t σ H Q
  | _ => True
structure PVAs (G : Gx) (X : Cx) (es : List Expr) (f : VA) : Prop where
  ex : ∃ t, PA X es t ∧ VAok G t f
def vaNil : VA := fun _ => .ok []
def vaCons (g : VE) (f : VA) : VA := fun env => match g env, f env with
  | .ok m, .ok ms => .ok (m :: ms)
  | _, _ => .bad
def vB (op : LOp) (f : VA) : VE := fun env => match f env with
  | .ok ms => match op ms with
    | .ok x => .ok (.d x)
    | _ => .bad
  | _ => .bad
def sB (op : LOp) (f : SA) : SE := fun env => match f env with
  | .ok (ms, e) => match op ms with
    | .ok x => .ok (.d x, e)
    | _ => .bad
  | .exc x e => .exc x e
  | .bad => .bad
section
variable {G : Gx} {X : Cx} {W : WX'} {e : Expr} {es : List Expr} {g : VE} {f : VA} {fs : SA} {bk : Bk} {op : LOp} {r : List V → Hp → VK → Prop} {x : Str} {p pos : Pos} {id T : String}
theorem xva_nil : PVAs G X [] vaNil := ⟨_, pa_nil, fun Z H σ env S Q gd => fun q => q [] .nil⟩
theorem xva_cons (h : PVs G X e g) (hs : PVAs G X es f) (hst : starEach (e :: es) X.env = (false, eval e X.env) :: starEach es X.env := by rfl) : PVAs G X (e :: es) (vaCons g f) := by
  obtain ⟨te, q, h⟩ := h.ex
  obtain ⟨t, q2, h2⟩ := hs.ex
  refine ⟨_, pa_cons q q2 hst, fun Z H σ env S Q gd => ?_⟩
  unfold vaCons
  have h1 := h Z H σ env S (fun x H1 => t σ H1 fun xs H2 => Q (x :: xs) H2) gd
  cases e1 : g env with
  | ok m =>
    cases e2 : f env with
    | ok ms =>
      intro k
      rw [e1] at h1
      refine h1 fun v T1 _ r1 => ?_
      have h2 := h2 Z H σ env S (fun xs H2 => Q (v :: xs) H2) gd
      rw [e2] at h2
      exact h2 fun vs rs => k (v :: vs) (.cons ⟨T1, r1⟩ rs)
    | _ => trivial
  | _ => trivial
theorem VEok.cb {t : TA} (hb : BOP G r op) (h : VAok G t f) : VEok G (tCB r t) (vB op f) := fun Z H σ env S Q gd => by
  unfold vB
  have h1 := h Z H σ env S (fun vs H1 => r vs H1 Q) gd
  cases e1 : f env with
  | ok ms =>
    simp only
    rw [e1] at h1
    cases e2 : op ms with
    | ok x =>
      intro q
      refine h1 fun vs rs => ?_
      have h2 := hb Z H ms vs Q gd.zh rs
      rw [e2] at h2
      exact h2 fun u ru => q u (fun _ => False) (fun _ z => z.elim) ru.toM
    | _ => trivial
  | _ => trivial
theorem SEok.cb {t : TA} (hb : BOP G r op) (h : SAok' G W bk t fs) : SEok G W (tCB r t) (sB op fs) := fun Z H σ env S Q gd => by
  unfold sB
  have h1 := h Z H σ env S (fun vs H1 => r vs H1 Q) gd
  cases e1 : fs env with
  | ok q =>
    obtain ⟨ms, env1⟩ := q
    rw [e1] at h1
    simp only
    cases e2 : op ms with
    | ok x =>
      intro q
      refine h1 fun vs Z' H' S' T s' g' row d kk => ?_
      have h2 := hb Z' H' ms vs Q g'.zh row.row.vs
      rw [e2] at h2
      exact h2 fun u ru => q u Z' H' S' (fun _ => False) (s'.weak fun _ z => .inl (z.elim id fun z => z.elim)) g' (Hld.data ru)
    | _ => trivial
  | exc x e2 => rw [e1] at h1; exact h1
  | bad => trivial
theorem xv_bi (hb : BOP G r op) (hc : CallR X (.builtin id) r) (hm : X.mg x = none) (hv : bootBuiltins x = some (.builtin id)) (h : PVAs G X (e :: es) f) (hg : Gl X x := by rfl) (hn : x ≠ "__name__" := by decide) (hdb : (x == ("__debug__" : Str)) = false := by decide)
    (he : starEach (e :: es) X.env = (false, eval e X.env) :: starEach es X.env := by rfl) (hpl : (backTo pos (starEach es X.env)).any (·.1) = false := by rfl) : PVs G X (.Call (.Name x p) (e :: es) [] pos) (vB op f) := by
  obtain ⟨t, q, h⟩ := h.ex
  exact ⟨_, pe_callB hc hg hm hv q hn hdb he hpl, VEok.cb hb h⟩
theorem xe_bi (hb : BOP G r op) (hc : CallR X (.builtin id) r) (hm : X.mg x = none) (hv : bootBuiltins x = some (.builtin id)) (h : PAs' G X W (e :: es) bk fs) (hg : Gl X x := by rfl) (hn : x ≠ "__name__" := by decide) (hdb : (x == ("__debug__" : Str)) = false := by decide)
    (he : starEach (e :: es) X.env = (false, eval e X.env) :: starEach es X.env := by rfl) (hpl : (backTo pos (starEach es X.env)).any (·.1) = false := by rfl) : PEs G X W (.Call (.Name x p) (e :: es) [] pos) (sB op fs) := by
  obtain ⟨t, q, h⟩ := h.ex
  exact ⟨_, pe_callB hc hg hm hv q hn hdb he hpl, SEok.cb hb h⟩
theorem xv_ty (hb : BOP G r op) (hc : CallR X (.type T) r) (hm : X.mg x = none) (hv : bootBuiltins x = some (.type T)) (h : PVAs G X (e :: es) f) (hg : Gl X x := by rfl) (hn : x ≠ "__name__" := by decide) (hdb : (x == ("__debug__" : Str)) = false := by decide)
    (he : starEach (e :: es) X.env = (false, eval e X.env) :: starEach es X.env := by rfl) (hpl : (backTo pos (starEach es X.env)).any (·.1) = false := by rfl) : PVs G X (.Call (.Name x p) (e :: es) [] pos) (vB op f) := by
  obtain ⟨t, q, h⟩ := h.ex
  exact ⟨_, pe_callTy hc hg hm hv q hn hdb he hpl, VEok.cb hb h⟩
theorem xe_ty (hb : BOP G r op) (hc : CallR X (.type T) r) (hm : X.mg x = none) (hv : bootBuiltins x = some (.type T)) (h : PAs' G X W (e :: es) bk fs) (hg : Gl X x := by rfl) (hn : x ≠ "__name__" := by decide) (hdb : (x == ("__debug__" : Str)) = false := by decide)
    (he : starEach (e :: es) X.env = (false, eval e X.env) :: starEach es X.env := by rfl) (hpl : (backTo pos (starEach es X.env)).any (·.1) = false := by rfl) : PEs G X W (.Call (.Name x p) (e :: es) [] pos) (sB op fs) := by
  obtain ⟨t, q, h⟩ := h.ex
  exact ⟨_, pe_callTy hc hg hm hv q hn hdb he hpl, SEok.cb hb h⟩
end

/-! len, abs, max, min, sum, int, bool, str -/
def bLen : LOp
  | [m] => match m.seq with
    | some (_, ms) => .ok (.int ms.length)
    | none => match m with
      | .d (.str z) => if z.length ≤ sizeLine then .ok (.int z.length) else .bad
      | _ => .bad
  | _ => .bad
theorem bop_len {G : Gx} : BOP G (fun xs H Q => ∃ x n, xs = [x] ∧ LenV G.K x H n ∧ Q (.int n) H) bLen := fun Z H ms vs Q zh r => by
  unfold bLen
  cases r with
  | nil => trivial
  | cons h t =>
    rename_i m v ms' vs'
    cases t with
    | cons _ _ => trivial
    | nil =>
      obtain ⟨T, h⟩ := h
      simp only
      cases e : m.seq with
      | some p =>
        obtain ⟨b, xs⟩ := p
        intro q
        obtain ⟨a, us, rfl, h1, h2, h3⟩ := h.seq zh e
        refine ⟨_, xs.length, rfl, ?_, q _ intD⟩
        cases b with
        | true => exact .inr ⟨us, h1 rfl, h3.len⟩
        | false => exact .inl ⟨us, h2 rfl, h3.len⟩
      | none =>
        simp only
        split
        · rename_i e2
          intro q
          split at e2
          · rename_i z
            split at e2
            · rename_i hz
              cases e2
              have := rep_str h
              subst this
              exact ⟨_, z.length, rfl, ⟨hz, rfl⟩, q _ intD⟩
            · cases e2
          · cases e2
        · trivial
def b1I (g : Int → D) : LOp
  | [.d (.int i)] => .ok (g i)
  | _ => .bad
def b2I (g : Int → Int → D) : LOp
  | [.d (.int i), .d (.int j)] => .ok (g i j)
  | _ => .bad
theorem bop_1I {G : Gx} {g : Int → D} {g' : Int → V} (h : ∀ i Z, RepD G Z (g i) (g' i)) : BOP G (fun xs H Q => ∃ i, xs = [.int i] ∧ Q (g' i) H) (b1I g) := fun Z H ms vs Q zh r => by
  unfold b1I
  split
  · rename_i e
    intro q
    split at e
    · rename_i i
      cases e
      cases r with
      | cons h t =>
        cases t
        obtain ⟨T, h⟩ := h
        rw [rep_int h]
        exact ⟨i, rfl, q _ (by first | exact h i Z | (rename_i hh _ _ _ _ _; exact hh i Z) | apply_assumption)⟩
    · cases e
  · trivial
def bInt : LOp
  | [.d (.int i)] => .ok (.int i)
  | [.d (.bl b)] => .ok (.int (if b then 1 else 0))
  | [.d (.str a)] => if a.length ≤ 640 then (match PySem.intText? a with
    | some n => .ok (.int n)
    | none => .bad) else .bad
  | _ => .bad
def bStr : LOp
  | [.d (.int i)] => if i.natAbs.log2 < 1920 then .ok (.str (toString i)) else .bad
  | _ => .bad
/-- the ints of a list -/
def intsOf : List M → Option (List Int)
  | [] => some []
  | .d (.int i) :: r => (intsOf r).map (i :: ·)
  | _ => none
theorem intsOf_rep {G : Gx} {Z H : Hp} : ∀ {ms : List M} {T : Rg} {vs : List V} {ns : List Int}, RepMs G Z H ms T vs → intsOf ms = some ns → vs = ns.map V.int
  | [], _, _, ns, r, e => by simp only [RepMs] at r; subst r; simp [intsOf] at e; subst e; rfl
  | m :: ms, _, _, ns, r, e => by
    simp only [RepMs] at r
    obtain ⟨v, r', T1, T2, rfl, _, _, _, q, r⟩ := r
    unfold intsOf at e
    split at e
    · cases ‹_ :: _ = _›
    · rename_i i r0 e0
      cases e0
      cases ei : intsOf ms with
      | none => rw [ei] at e; cases e
      | some k =>
        rw [ei] at e
        cases e
        rw [List.map_cons, ← intsOf_rep r ei, rep_int q]
    · cases e
def bSum : LOp
  | [m] => match m.seq with
    | some (false, ms) => match intsOf ms with
      | some ns => .ok (.int ns.sum)
      | none => .bad
    | _ => .bad
  | _ => .bad
theorem bop_sum {G : Gx} : BOP G (rSum G.K) bSum := fun Z H ms vs Q zh r => by
  unfold bSum
  cases r with
  | nil => trivial
  | cons h t =>
    rename_i m v ms' vs'
    cases t with
    | cons _ _ => trivial
    | nil =>
      obtain ⟨T, h⟩ := h
      simp only
      cases e : m.seq with
      | none => trivial
      | some p =>
        obtain ⟨b, xs⟩ := p
        cases b with
        | true => trivial
        | false =>
          simp only
          cases ei : intsOf xs with
          | none => trivial
          | some ns =>
            intro q
            obtain ⟨a, us, rfl, h1, h2, h3⟩ := h.seq zh e
            have := intsOf_rep h3 ei
            subst this
            exact ⟨a, ns, rfl, h2 rfl, q _ intD⟩

section
variable {G : Gx} {X : Cx}
theorem cr_int : CallR X (.type "int") (fun xs H Q => ((∃ i, xs = [.int i] ∧ Q (.int i) H) ∨ ∃ k, xs = [.bl k] ∧ Q (.int (if k then 1 else 0)) H) ∨ ∃ a n, xs = [.str a] ∧ PySem.intText? a = some n ∧ a.length ≤ 640 ∧ Q (.int n) H) :=
  fun pins s σ H xs us Q I r h => h.elim (call_int1 pins s σ H xs us Q I r) (call_int_str pins s σ H xs us Q I r)
theorem bop_int : BOP G (fun xs H Q => ((∃ i, xs = [.int i] ∧ Q (.int i) H) ∨ ∃ k, xs = [.bl k] ∧ Q (.int (if k then 1 else 0)) H) ∨ ∃ a n, xs = [.str a] ∧ PySem.intText? a = some n ∧ a.length ≤ 640 ∧ Q (.int n) H) bInt := fun Z H ms vs Q zh r => by
  unfold bInt
  split
  · rename_i e
    intro q
    split at e
    · cases e
      cases r with
      | cons h t =>
        cases t
        obtain ⟨T, h⟩ := h
        rw [rep_int h]
        exact .inl (.inl ⟨_, rfl, q _ intD⟩)
    · cases e
      cases r with
      | cons h t =>
        cases t
        obtain ⟨T, h⟩ := h
        rw [rep_bl h]
        exact .inl (.inr ⟨_, rfl, q _ intD⟩)
    · split at e
      · rename_i hz
        split at e
        · rename_i n hn
          cases e
          cases r with
          | cons h t =>
            cases t
            obtain ⟨T, h⟩ := h
            rw [rep_str h]
            exact .inr ⟨_, n, rfl, hn, hz, q _ intD⟩
        · cases e
      · cases e
    · cases e
  · trivial
theorem bop_str : BOP G (fun xs H Q => ∃ i, xs = [.int i] ∧ i.natAbs.log2 < 1920 ∧ Q (.str (toString i)) H) bStr := fun Z H ms vs Q zh r => by
  unfold bStr
  split
  · rename_i e
    intro q
    split at e
    · split at e
      · rename_i hz
        cases e
        cases r with
        | cons h t =>
          cases t
          obtain ⟨T, h⟩ := h
          rw [rep_int h]
          exact ⟨_, rfl, hz, q _ strD⟩
      · cases e
    · cases e
  · trivial
theorem bop_2I {g : Int → Int → D} {g' : Int → Int → V} (hg : ∀ i j Z, RepD G Z (g i j) (g' i j)) : BOP G (fun xs H Q => ∃ i j, xs = [.int i, .int j] ∧ Q (g' i j) H) (b2I g) := fun Z H ms vs Q zh r => by
  unfold b2I
  split
  · rename_i e
    intro q
    split at e
    · rename_i i j
      cases e
      cases r with
      | cons h t =>
        cases t with
        | cons h2 t =>
          cases t
          obtain ⟨T, h⟩ := h
          obtain ⟨T2, h2⟩ := h2
          rw [rep_int h, rep_int h2]
          exact ⟨i, j, rfl, q _ (hg i j Z)⟩
    · cases e
  · trivial
def bAbs : LOp := b1I fun i => .int (if i < 0 then -i else i)
def bMax2 : LOp := b2I fun i j => .int (if j > i then j else i)
def bMin2 : LOp := b2I fun i j => .int (if j < i then j else i)
theorem bop_abs : BOP G (fun xs H Q => ∃ i, xs = [.int i] ∧ Q (.int (if i < 0 then -i else i)) H) bAbs := bop_1I fun _ _ => intD
theorem bop_max2 : BOP G (fun xs H Q => ∃ i j, xs = [.int i, .int j] ∧ Q (.int (if j > i then j else i)) H) bMax2 := bop_2I fun _ _ _ => intD
theorem bop_min2 : BOP G (fun xs H Q => ∃ i j, xs = [.int i, .int j] ∧ Q (.int (if j < i then j else i)) H) bMin2 := bop_2I fun _ _ _ => intD
end

/-! ### isinstance -/
/-- the built-in type's name -/
def tyD : D → Option String
  | .non => some "NoneType" | .bl _ => some "bool" | .int _ => some "int" | .str _ => some "str"
  | .tup _ => some "tuple" | .lst _ => some "list"
  | _ => none
def tyM : M → Option String
  | .d x => tyD x
  | .lst _ => some "list" | .tup _ => some "tuple"
  | _ => none
def tyNames : List String := ["NoneType", "bool", "int", "str", "tuple", "list", "dict"]
def isiB (a b : String) : Bool := a == b || (a == "bool" && b == "int")
theorem kit_tab : (tyNames.all fun a => ["int", "bool", "str", "tuple", "list", "dict"].all fun b => kitB a b == some (isiB a b)) = true := by decide +kernel
theorem kit_is {K : PySem.W.Frag} {a b : String} (ha : a ∈ tyNames) (hb : b ∈ ["int", "bool", "str", "tuple", "list", "dict"]) : PySem.W.kitOne K (.type a) (.type b) = some (isiB a b) := by
  have h := List.all_eq_true.mp (List.all_eq_true.mp kit_tab a ha) b hb
  exact kit_ty (beq_iff_eq.mp h)
section
variable {G : Gx} {Z H : Hp}
theorem sqT_ty {K : PySem.W.Frag} {a : Addr} {vs : List V} (h : SqT K H a vs) : TyX K H (.ref a) (.type "tuple") := by
  rcases h with (h | ⟨o, h⟩) | ⟨o, its, n, hk, hc, _⟩
  · exact .base (.tup h)
  · exact .fTuple h
  · exact .kTuple hk hc
theorem sqL_ty {K : PySem.W.Frag} {a : Addr} {vs : List V} (h : SqL K H a vs) : TyX K H (.ref a) (.type "list") := by
  rcases h with (h | ⟨o, h⟩) | ⟨o, its, n, hk, hc, _⟩
  · exact .base (.lst h)
  · exact .base (.frz h)
  · exact .kList hk hc
theorem tyM_rep (zh : Same Z H) {m : M} {T : Rg} {v : V} {t : String} (r : RepM G Z H m T v) (e : tyM m = some t) : TyX G.K H v (.type t) ∧ t ∈ tyNames := by
  cases m with
  | d x =>
    simp only [RepM] at r
    cases x with
    | non => simp [tyM, tyD] at e; subst e; simp only [RepD] at r; subst r; exact ⟨.base .non, by decide⟩
    | bl b => simp [tyM, tyD] at e; subst e; simp only [RepD] at r; subst r; exact ⟨.base (.bl _), by decide⟩
    | int b => simp [tyM, tyD] at e; subst e; simp only [RepD] at r; subst r; exact ⟨.base (.int _), by decide⟩
    | str b => simp [tyM, tyD] at e; subst e; simp only [RepD] at r; subst r; exact ⟨.base (.str _), by decide⟩
    | tup xs => simp [tyM, tyD] at e; subst e; simp only [RepD] at r; obtain ⟨a, vs, rfl, q, _⟩ := r; exact ⟨sqT_ty (Same.seqT zh q), by decide⟩
    | lst xs => simp [tyM, tyD] at e; subst e; simp only [RepD] at r; obtain ⟨a, vs, rfl, q, _⟩ := r; exact ⟨.base (.lst (zh _ _ q)), by decide⟩
    | _ => simp [tyM, tyD] at e
  | lst xs => simp [tyM] at e; subst e; simp only [RepM] at r; obtain ⟨a, vs, T', rfl, _, _, _, q, _⟩ := r; exact ⟨.base (.lst q), by decide⟩
  | tup xs => simp [tyM] at e; subst e; simp only [RepM] at r; obtain ⟨a, vs, T', rfl, _, _, _, q, _⟩ := r; exact ⟨.base (.tup q), by decide⟩
  | _ => simp [tyM] at e
end
def vIsi (t : String) (g : VE) : VE := fun env => match g env with
  | .ok m => match tyM m with
    | some a => .ok (.d (.bl (isiB a t)))
    | none => .bad
  | _ => .bad
theorem xv_isi {G : Gx} {X : Cx} {e : Expr} {g : VE} {T : Str} {p p2 pos : Pos} (t : String) (hK : G.K = X.K) (hm : X.mg "isinstance" = none) (hmt : X.mg T = none) (h : PVs G X e g) (hv : bootBuiltins T = some (.type t)) (ht : t ∈ ["int", "bool", "str", "tuple", "list", "dict"] := by decide)
    (hg : Gl X "isinstance" := by rfl) (hgt : Gl X T := by rfl) (hn : T ≠ "__name__" := by decide) (hdt : (T == ("__debug__" : Str)) = false := by decide)
    (he : starEach (e :: [.Name T p2]) X.env = (false, eval e X.env) :: starEach [.Name T p2] X.env := by rfl) (he2 : starEach (.Name T p2 :: []) X.env = (false, eval (.Name T p2) X.env) :: starEach [] X.env := by rfl) (hpl : (backTo pos (starEach [.Name T p2] X.env)).any (·.1) = false := by rfl) :
    PVs G X (.Call (.Name "isinstance" p) [e, .Name T p2] [] pos) (vIsi t g) := by
  obtain ⟨te, q, h⟩ := h.ex
  refine ⟨_, pe_callB call_isi hg hm PyProof.Rows.boot_isinstance (pa_cons q (pa_cons (pe_bltn (v := .ty t) hgt hmt hv rfl hn hdt) pa_nil he2) he) (by decide) (by decide) he hpl, fun Z H σ env S Q gd => ?_⟩
  unfold vIsi
  have h1 := h Z H σ env S (fun x H1 => tCons (tC (.ty t)) tNil σ H1 fun xs H2 => rIsi X.K (x :: xs) H2 Q) gd
  cases e1 : g env with
  | ok m =>
    simp only
    rw [e1] at h1
    cases e2 : tyM m with
    | some a =>
      intro k
      refine h1 fun v T1 _ r1 => ?_
      obtain ⟨ty, ha⟩ := tyM_rep gd.zh r1 e2
      rw [hK] at ty
      exact ⟨v, .ty t, .type a, .type t, isiB a t, rfl, .ty t, ty, kit_is ha ht, k _ (fun _ => False) (fun _ z => z.elim) (by simp [RepM, RepD])⟩
    | none => trivial
  | _ => trivial

/-! ### the module's names -/
/-- a module's name holds the datum -/
def GlobD (G : Gx) (X : Cx) (x : Str) (d : D) : Prop := ∃ u v, X.mg x = some u ∧ RelV v u ∧ ∀ Z, RepD G Z d v
theorem xv_glob {G : Gx} {X : Cx} {x : Str} {d : D} {pos : Pos} (h : GlobD G X x d) (hg : Gl X x := by rfl) (hd : (x == ("__debug__" : Str)) = false := by decide) : PVs G X (.Name x pos) (vC d) := by
  obtain ⟨u, v, hm, r, hz⟩ := h
  exact ⟨_, pe_glob hg hm r hd, VEok.const fun Z H σ Q zh q => q v (hz Z)⟩

/-! ### calls of the program's own defs -/
/-- the def n stands and computes F, by at most k calls -/
structure FnA (P : Program) (w : World) (G : Gx) (mg : Str → Option Value) (base : Heap) (k : Nat) (nm : Str) (n : Nat) (F : FS) : Prop where
  ex : ∃ (f : Addr) (fd : FuncData) (ps : List Str), FnOk P w G.K mg base (L2.CX P w) k f fd ps (spF G n F) ∧ mg nm = some (.ref f) ∧ PySem.W.keepIn G.K (.ref f) = true ∧ Binds G.K fd ps []
section
variable {G : Gx} {X : Cx} {W : WX'} {e : Expr} {es : List Expr} {fs : SA} {bk : Bk} {F : FS} {n k : Nat} {x : Str} {p pos : Pos}
theorem pe_callS0 {CX : CXT} {f : Addr} {fd : FuncData} {ps : List Str} {sp : Sp} {E : L2.St → XK} (F : FnOk X.prog X.w X.K X.mg X.base CX k f fd ps sp) (hr : Room k X.A) (hg : Gl X x) (hm : X.mg x = some (.ref f)) (hk : PySem.W.keepIn X.K (.ref f) = true) (hb : Binds X.K fd ps []) (hx : ∀ σ, PassesAt CX X σ (E σ))
    (hdb : (x == ("__debug__" : Str)) = false := by decide) : PE X (.Call (.Name x p) [] [] pos) (tCallS sp E tNil) := by
  refine ⟨fun pins s σ H Q I h => ?_⟩
  refine wpAny_Call_Name_kw (ld_glob I hg hm ?_ hdb)
  exact PySem.W.callWith_K0 I.kIn hk (run_fnS (us := []) F hr hb (hx σ) I .nil h)
theorem saCons_len {f : SE} {fs : SA} {n : Nat} (h : ∀ env ms e1, fs env = .ok (ms, e1) → ms.length = n) : ∀ env ms e1, saCons f fs env = .ok (ms, e1) → ms.length = n + 1 := fun env ms e1 q => by
  unfold saCons at q
  split at q
  · split at q
    · rename_i hq
      cases q
      simp [h _ _ _ hq]
    · cases q
    · cases q
  · cases q
  · cases q
theorem saNil_len : ∀ env ms e1, saNil env = .ok (ms, e1) → ms.length = 0 := fun env ms e1 q => by
  cases q; rfl
theorem xe_call (h : FnA X.prog X.w G X.mg X.base k x n F) (hK : G.K = X.K) (hr : Room k X.A) (tk : Takes X W) (ha : PAs' G X W (e :: es) bk fs) (hn : ∀ env ms e1, fs env = .ok (ms, e1) → ms.length = n) (hg : Gl X x := by rfl) (hdb : (x == ("__debug__" : Str)) = false := by decide)
    (he : starEach (e :: es) X.env = (false, eval e X.env) :: starEach es X.env := by rfl) (hpl : (backTo pos (starEach es X.env)).any (·.1) = false := by rfl) : PEs G X W (.Call (.Name x p) (e :: es) [] pos) (sCall F bk fs) := by
  obtain ⟨f, fd, ps, ok, hm, hk, hb⟩ := h.ex
  obtain ⟨t, q, ha⟩ := ha.ex
  rw [hK] at ok hk hb
  exact ⟨_, pe_callS ok hr hg hm hk hb (fun σ => passAt tk σ) q hdb he hpl, SEok.call ha hn⟩
theorem xe_call0 (h : FnA X.prog X.w G X.mg X.base k x 0 F) (hK : G.K = X.K) (hr : Room k X.A) (tk : Takes X W) (hg : Gl X x := by rfl) (hdb : (x == ("__debug__" : Str)) = false := by decide) : PEs G X W (.Call (.Name x p) [] [] pos) (sCall F [] saNil) := by
  obtain ⟨f, fd, ps, ok, hm, hk, hb⟩ := h.ex
  rw [hK] at ok hk hb
  exact ⟨_, pe_callS0 ok hr hg hm hk hb (fun σ => passAt tk σ) hdb, SEok.call SAok.nil saNil_len⟩
end

/-! ### raise -/
structure ExcA (G : Gx) (X : Cx) (nm : String) (x : Str) : Prop where
  gC : X.mg x = some (.ref (G.ad nm))
  xP : PySem.W.excIn X.K (G.ad nm) [.type "ValueError", .type "Exception", .type "BaseException", .type "object"] "ValueError.__new__" = true
  kP : PySem.W.keepIn X.K (.ref (G.ad nm)) = true
  bP : PySem.W.subIn X.K (.ref (G.ad nm)) (.type "BaseException") = some true
  tP : PySem.W.typeIn X.K (.ref (G.ad nm)) = some (.type "type")
def ssRaise (nm : String) : SS := fun env => .exc ⟨nm, none⟩ env
theorem xs_raise {G : Gx} {X : Cx} {W : WX'} {P : Px} {x m : Str} {j : Nat} {p p2 pos pos2 : Pos} (nm : String) (h : ExcA G X nm x) (hc : X.calm = true) (tk : Takes X W) (hg : Gl X x := by rfl) (hdb : (x == ("__debug__" : Str)) = false := by decide) :
    PS' G X W P (.Raise (some (.Call (.Name x p) [.Constant (.str m) j p2] [] pos)) none pos2) (ssRaise nm) :=
  ⟨_, ps_raise hc tk (pmk_own PySem.F.excBase_ValueError h.xP h.gC h.kP (raises_own h.bP h.tP) hg hdb), fun D Z H σ env S gd q => q _ none σ Z H S ⟨rfl, rfl⟩ Fix.refl (Stp.refl gd.zh) gd⟩
end FL

set_option maxHeartbeats 2000000
/-! FLK: slices, concatenation, list(..), tuple(..), zip, enumerate, reversed. -/
namespace FL
open PySem L2 Classical

theorem RepDs.drop {G : Gx} {Z : Hp} : ∀ {xs : List D} {vs : List V} (n : Nat), RepDs G Z xs vs → RepDs G Z (xs.drop n) (vs.drop n)
  | _, _, 0, r => r
  | [], _, n + 1, r => by simp only [RepDs] at r; subst r; simp [RepDs]
  | x :: xs, _, n + 1, r => by
    simp only [RepDs] at r
    obtain ⟨v, r', rfl, q, r⟩ := r
    exact RepDs.drop n r
theorem RepDs.take {G : Gx} {Z : Hp} : ∀ {xs : List D} {vs : List V} (n : Nat), RepDs G Z xs vs → RepDs G Z (xs.take n) (vs.take n)
  | _, _, 0, r => by simp [RepDs]
  | [], _, n + 1, r => by simp only [RepDs] at r; subst r; simp [RepDs]
  | x :: xs, _, n + 1, r => by
    simp only [RepDs] at r
    obtain ⟨v, r', rfl, q, r⟩ := r
    simp only [List.take_succ_cons, RepDs]
    exact ⟨v, _, rfl, q, RepDs.take n r⟩
def cutL {α : Type} (xs : List α) (lo hi : Option Int) : List α := (xs.drop (HT.sIx xs.length 0 lo)).take (HT.sIx xs.length xs.length hi - HT.sIx xs.length 0 lo)
theorem RepDs.cut {G : Gx} {Z : Hp} {xs : List D} {vs : List V} (r : RepDs G Z xs vs) (lo hi : Option Int) : RepDs G Z (cutL xs lo hi) (cutV vs lo hi) := by
  unfold cutL cutV
  rw [r.len]
  exact (r.drop _).take _
theorem dsM {G : Gx} {Z H : Hp} : ∀ {xs : List D} {S : Rg} {vs : List V}, RepDs G Z xs vs → RepMs G Z H (xs.map .d) S vs := fun r => r.toM
/-- new lists and tuples of frozen items -/
theorem lst_newD {G : Gx} {Z H : Hp} {xs : List D} {vs : List V} {R : Rg} {p : Addr} (zh : Same Z H) (r : RepDs G Z xs vs) (hp : H p = none) (pR : ¬ R p) : Hld G Z (upd H p (.lst vs)) R (.lst (xs.map .d)) (fun a => a = p) (.ref p) := by
  have h := lst_new (T := fun _ => False) (R := R) zh (RepDs.toM (H := H) r) (fun _ z => z.elim) (fun _ z => z.elim) (fun _ z => z.elim) hp pR
  have e : (fun a => False ∨ a = p) = (fun a => a = p) := by funext a; simp
  rw [e] at h; exact h

/-! ### slices -/
structure POs (G : Gx) (X : Cx) (e : Option Expr) (g : Env → Res (Option Int)) : Prop where
  ex : ∃ t, PO X e t ∧ ∀ (Z H : Hp) (σ : St) (env : Env) (S : Rs) (Q : Option Int → Hp → Prop), Good G Z H σ env S → match g env with
    | .ok o => Q o H → t σ H Q
    | _ => True
def voNo : Env → Res (Option Int) := fun _ => .ok none
def voI (g : VE) : Env → Res (Option Int) := fun env => match g env with
  | .ok (.d (.int i)) => .ok (some i)
  | _ => .bad
/-- what a slice gives -/
def slM (m : M) (lo hi : Option Int) : Res M := match m with
  | .d (.tup xs) => .ok (.d (.tup (cutL xs lo hi)))
  | .d (.str z) => if z.length ≤ sizeLine then .ok (.d (.str (cutS z lo hi))) else .bad
  | m => match m.seq with
    | some (false, ms) => if ms.all isD = true then .ok (.lst ((cutL (ms.map unD) lo hi).map .d)) else .bad
    | _ => .bad
def sSl (g : VE) (lo hi : Env → Res (Option Int)) : SE := fun env => match g env, lo env, hi env with
  | .ok m, .ok l, .ok h => match slM m l h with
    | .ok x => .ok (x, env)
    | _ => .bad
  | _, _, _ => .bad
def rSlO (K : PySem.W.Frag) : V → Option Int → Option Int → Hp → VK → Prop := fun x lo hi H Q => rSlL K x lo hi H Q ∨ (rSlA K x lo hi H Q ∨ rSlS x lo hi H Q)
section
variable {G : Gx} {X : Cx} {W : WX'} {e : Expr} {g : VE} {lo hi : Option Expr} {gl gh : Env → Res (Option Int)} {pos p2 : Pos}
theorem xo_none : POs G X none voNo := ⟨_, po_none, fun Z H σ env S Q gd q => q⟩
theorem xo_some (h : PVs G X e g) : POs G X (some e) (voI g) := by
  obtain ⟨t, p, h⟩ := h.ex
  refine ⟨_, po_some p, fun Z H σ env S Q gd => ?_⟩
  unfold voI
  have h1 := h Z H σ env S (fun x H1 => ∃ i, x = .int i ∧ Q (some i) H1) gd
  split
  · rename_i e2
    split at e2
    · rename_i i ei
      cases e2
      rw [ei] at h1
      exact fun q => h1 fun v T _ r => ⟨i, rep_int r, q⟩
    · cases e2
  · trivial
theorem sl_any : SlR X (rSlO X.K) := SlR.or sl_list (SlR.or sl_tupA sl_str)
theorem slM_run {Z H : Hp} {m x : M} {T : Rg} {v : V} {l h : Option Int} {Q : VK} {S : Rs} {σ : St} {env : Env} (gd : Good G Z H σ env S) (r : RepM G Z H m T v) (e : slM m l h = .ok x)
    (q : ∀ v Z' H' S' T, Stp Z H (U S) Z' H' (fun a => U S' a ∨ T a) → Good G Z' H' σ env S' → Hld G Z' H' (U S') x T v → Q v H') : rSlO G.K v l h H Q := by
  unfold slM at e
  split at e
  · rename_i xs
    cases e
    simp only [RepM, RepD] at r
    obtain ⟨a, vs, rfl, hz, rr⟩ := r
    refine .inr (.inl ⟨a, vs, rfl, Same.seqT gd.zh hz, fun hw => ?_, fun hw p hp => ?_⟩)
    · have e1 : cutL xs l h = xs := by
        unfold cutL
        rw [rr.len, hw.1, hw.2, List.drop_zero, Nat.sub_zero, List.take_of_length_le (by rw [rr.len]; omega)]
      refine q (.ref a) Z H S (fun _ => False) ((Stp.refl gd.zh).weak fun _ z => z.elim id fun z => z.elim) gd (Hld.data ?_)
      rw [e1]
      simp only [RepD]
      exact ⟨a, vs, rfl, hz, rr⟩
    · have st := Stp.newZ (o := .tup (cutV vs l h)) gd.zh hp (U S)
      refine q (.ref p) _ _ S (fun _ => False) (st.weak fun _ z => z.elim id fun z => z.elim) (gd.move (Stp.newZ (o := .tup (cutV vs l h)) gd.zh hp (fun _ => False)) fun _ _ z => z).1 (Hld.data ?_)
      simp only [RepD]
      exact ⟨p, _, rfl, SqT.of upd_same, RepDs.mono st.z _ _ (rr.cut l h)⟩
  · rename_i z
    split at e
    · rename_i hz
      cases e
      have := rep_str r
      subst this
      exact .inr (.inr ⟨z, rfl, hz, q _ Z H S (fun _ => False) ((Stp.refl gd.zh).weak fun _ z => z.elim id fun z => z.elim) gd (Hld.data strD)⟩)
    · cases e
  · split at e
    · rename_i ms es
      obtain ⟨a, vs, rfl, h1, h2, h3⟩ := r.seq gd.zh es
      split at e
      · rename_i hd
        cases e
        have rd := (allD_rep h3 hd).cut l h
        refine .inl ⟨a, vs, rfl, h2 rfl, fun p hp => ?_⟩
        have pS : ¬ U S p := fun z => gd.al' p z hp
        have st := Stp.new (o := .lst (cutV vs l h)) gd.zh hp (fun _ => False)
        exact q (.ref p) Z _ S (fun a => a = p) (Stp.new gd.zh hp (U S)) (gd.move st fun _ _ z => z).1 (lst_newD gd.zh rd hp pS)
      · cases e
    · cases e
theorem xe_sl (hK : G.K = X.K) (h : PVs G X e g) (hl : POs G X lo gl) (hh : POs G X hi gh) : PEs G X W (.Subscript e (.Slice lo hi none p2) pos) (sSl g gl gh) := by
  obtain ⟨t, p, h⟩ := h.ex
  obtain ⟨tl, pl, hl⟩ := hl.ex
  obtain ⟨th, ph, hh⟩ := hh.ex
  refine ⟨_, pe_slice sl_any p pl ph, fun Z H σ env S Q gd => ?_⟩
  unfold sSl
  have h1 := h Z H σ env S (fun x H1 => tl σ H1 fun l H2 => th σ H2 fun u H3 => rSlO X.K x l u H3 Q) gd
  cases e1 : g env with
  | ok m =>
    cases e2 : gl env with
    | ok l =>
      cases e3 : gh env with
      | ok u =>
        simp only
        cases e4 : slM m l u with
        | ok x =>
          intro q
          rw [e1] at h1
          refine h1 fun v T1 _ r1 => ?_
          have h2 := hl Z H σ env S (fun l H2 => th σ H2 fun u H3 => rSlO X.K v l u H3 Q) gd
          rw [e2] at h2
          refine h2 ?_
          have h3 := hh Z H σ env S (fun u H3 => rSlO X.K v l u H3 Q) gd
          rw [e3] at h3
          refine h3 ?_
          rw [← hK]
          exact slM_run gd r1 e4 q
        | _ => trivial
      | _ => trivial
    | _ => trivial
  | _ => trivial
end

/-! ### operations that make a list or a tuple -/
abbrev MOp := M → M → Res M
/-- two values in the hand, apart; a new one -/
def OPok (G : Gx) (r : R2) (op : MOp) : Prop := ∀ (Z H : Hp) (m1 : M) (T1 : Rg) (v1 : V) (m2 : M) (T2 : Rg) (v2 : V) (Q : VK), Same Z H → Hld G Z H (fun _ => False) m1 T1 v1 → Hld G Z H T1 m2 T2 v2 →
  match op m1 m2 with
  | .ok m => (∀ v Z' H' T, Stp Z H (fun a => T1 a ∨ T2 a) Z' H' T → Hld G Z' H' (fun _ => False) m T v → Q v H') → r v1 v2 H Q
  | _ => True
def s2m (op : MOp) (fa fb : SE) : SE := fun env => match fa env with
  | .ok (m1, e1) => match fb e1 with
    | .ok (m2, e2) => match op m1 m2 with
      | .ok x => .ok (x, e2)
      | _ => .bad
    | .exc e v => .exc e v
    | .bad => .bad
  | .exc e v => .exc e v
  | .bad => .bad
section
variable {G : Gx} {X : Cx} {W : WX'} {r : R2} {op : MOp} {ta tb : TE} {fa fb : SE} {a b : Expr} {pos : Pos}
theorem SEok.binM (h : OPok G r op) (ha : SEok G W ta fa) (hb : SEok G W tb fb) : SEok G W (tOp r ta tb) (s2m op fa fb) := fun Z H σ env S Q gd => by
  have h1 := ha Z H σ env S (fun x H1 => tb σ H1 fun y H2 => r x y H2 Q) gd
  unfold s2m
  cases e1 : fa env with
  | bad => trivial
  | exc e v => rw [e1] at h1; exact h1
  | ok p =>
    obtain ⟨m1, env1⟩ := p
    rw [e1] at h1
    simp only
    cases e2 : fb env1 with
    | bad => trivial
    | exc e v =>
      intro q
      refine h1 fun v1 Z1 H1 S1 T1 s1 g1 l1 => ?_
      have h2 := hb Z1 H1 σ env1 S1 (fun y H2 => r v1 y H2 Q) g1
      rw [e2] at h2
      refine h2 fun cls d Z2 H2 S2 x2 s2 g2 => ?_
      exact q cls d Z2 H2 S2 x2 (s1.trans ((s2.frame T1).weak (R2 := U S2) fun _ z => .inl z)) g2
    | ok p2 =>
      obtain ⟨m2, env2⟩ := p2
      simp only
      cases e3 : op m1 m2 with
      | ok x =>
        intro q
        refine h1 fun v1 Z1 H1 S1 T1 s1 g1 l1 => ?_
        have h2 := hb Z1 H1 σ env1 S1 (fun y H2 => r v1 y H2 Q) g1
        rw [e2] at h2
        refine h2 fun w2 Z2 H2 S2 T2 s2 g2 l2 => ?_
        have l1' := l1.step s2
        have h3 := h Z2 H2 m1 T1 v1 m2 T2 w2 Q g2.zh ⟨l1'.rep, l1'.al, l1'.zf, fun _ _ z => z⟩ ⟨l2.rep, l2.al, l2.zf, fun c z w => l1'.dj c w (.inr z)⟩
        rw [e3] at h3
        refine h3 fun u Z3 H3 T3 s3 l3 => ?_
        obtain ⟨g3, d3⟩ := g2.move s3 fun c z w => w.elim (fun w => l1'.dj c w (.inl z)) fun w => l2.dj c w z
        have st : Stp Z H (U S) Z3 H3 (fun a => U S2 a ∨ T3 a) := ((s1.trans (s2.frame T1)).trans ((s3.frame (U S2)).from fun c z => by
          rcases z with (z | z) | z
          · exact .inr z
          · exact .inl (.inr z)
          · exact .inl (.inl z))).weak fun c z => z.elim .inr .inl
        exact q u Z3 H3 S2 T3 st g3 ⟨l3.rep, l3.al, l3.zf, fun c z w => d3 c w z⟩
      | _ => trivial
theorem OPok.ofD {dop : DOp} (h : VOP G r dop) : OPok G r (fun a b => match dop a b with | .ok x => .ok (.d x) | _ => .bad) := fun Z H m1 T1 v1 m2 T2 v2 Q zh l1 l2 => by
  have h1 := h Z H m1 T1 v1 m2 T2 v2 Q zh l1.rep l2.rep
  dsimp only
  cases e : dop m1 m2 with
  | ok x =>
    rw [e] at h1
    exact fun q => h1 fun u ru => q u Z H (fun _ => False) ((Stp.refl zh).weak fun _ z => z.elim) (Hld.data ru)
  | exc _ _ => trivial
  | bad => trivial
def mOr (f g : MOp) : MOp := fun a b => match f a b with
  | .ok x => .ok x
  | _ => g a b
theorem OPok.or {r' : R2} {op' : MOp} (h : OPok G r op) (h' : OPok G r' op') : OPok G (rOr r r') (mOr op op') := fun Z H m1 T1 v1 m2 T2 v2 Q zh l1 l2 => by
  have a := h Z H m1 T1 v1 m2 T2 v2 Q zh l1 l2
  have b := h' Z H m1 T1 v1 m2 T2 v2 Q zh l1 l2
  unfold mOr
  cases e : op m1 m2 with
  | ok x => rw [e] at a; exact fun q => .inl (a q)
  | _ =>
    simp only
    cases e' : op' m1 m2 with
    | ok x => rw [e'] at b; exact fun q => .inr (b q)
    | _ => trivial
end
/-- a list's items, owned or frozen; a locked list's are not taken -/
def lstItems : M → Option (List M)
  | .d (.lst xs) => some (xs.map .d)
  | .lst ms => some ms
  | _ => none
def mCatL : MOp := fun m1 m2 => match lstItems m1, lstItems m2 with
  | some a, some b => if a.length + b.length ≤ sizeLine then .ok (.lst (a ++ b)) else .bad
  | _, _ => .bad
def mCatT : MOp := fun m1 m2 => match m1, m2 with
  | .d (.tup a), .d (.tup b) => if a.length + b.length ≤ sizeLine then .ok (.d (.tup (a ++ b))) else .bad
  | _, _ => .bad
def mAdd : MOp := mOr (fun a b => match oAdd a b with | .ok x => .ok (.d x) | _ => .bad) (mOr mCatL mCatT)
section
variable {G : Gx} {X : Cx} {W : WX'} {fa fb : SE} {a b : Expr} {pos : Pos}
theorem lstItems_rep {Z H : Hp} {m : M} {T : Rg} {v : V} {ms : List M} (zh : Same Z H) (r : RepM G Z H m T v) (e : lstItems m = some ms) : ∃ a vs, v = .ref a ∧ H a = some (.lst vs) ∧ RepMs G Z H ms T vs := by
  unfold lstItems at e
  split at e
  · cases e
    simp only [RepM, RepD] at r
    obtain ⟨a, vs, rfl, hz, rr⟩ := r
    exact ⟨a, vs, rfl, zh _ _ hz, rr.toM⟩
  · cases e
    simp only [RepM] at r
    obtain ⟨a, vs, T', rfl, sa, ta, ts, ho, rr⟩ := r
    exact ⟨a, vs, rfl, ho, RepMs.mono (Same.refl _) _ _ _ _ ts (fun _ _ _ z => z) rr⟩
  · cases e
theorem op_catL : OPok G rCat mCatL := fun Z H m1 T1 v1 m2 T2 v2 Q zh l1 l2 => by
  unfold mCatL
  split
  · rename_i e
    intro q
    split at e
    · rename_i xs ys e1 e2
      split at e
      · rename_i hl
        cases e
        obtain ⟨a, vs, rfl, ha, r1⟩ := lstItems_rep zh l1.rep e1
        obtain ⟨b, ws, rfl, hb, r2⟩ := lstItems_rep zh l2.rep e2
        refine ⟨a, b, vs, ws, rfl, rfl, ha, hb, by rw [← r1.len, ← r2.len]; exact hl, fun p hp => ?_⟩
        have rr : RepMs G Z H (xs ++ ys) (fun c => T1 c ∨ T2 c) (vs ++ ws) := RepMs.app r1 r2 (fun _ z => .inl z) (fun _ z => .inr z) (fun c z w => l2.dj c w z)
        exact q (.ref p) Z _ _ (Stp.new zh hp _) (lst_new zh rr (fun c z => z.elim (l1.al c) (l2.al c)) (fun c z => z.elim (l1.zf c) (l2.zf c)) (fun _ _ z => z) hp (fun z => z))
      · cases e
    · cases e
  · trivial
theorem op_catTm : OPok G (rCatA G.K) mCatT := fun Z H m1 T1 v1 m2 T2 v2 Q zh l1 l2 => by
  unfold mCatT
  split
  · rename_i e
    intro q
    split at e
    · rename_i xs ys
      split at e
      · rename_i hl
        cases e
        have r1 := l1.rep
        have r2 := l2.rep
        simp only [RepM, RepD] at r1 r2
        obtain ⟨a, vs, rfl, ha, r1⟩ := r1
        obtain ⟨b, ws, rfl, hb, r2⟩ := r2
        refine ⟨a, b, vs, ws, rfl, rfl, Same.seqT zh ha, Same.seqT zh hb, by rw [← r1.len, ← r2.len]; exact hl, fun h0 => ?_, fun _ h0 => ?_, fun _ _ p hp => ?_⟩
        · have e0 : xs = [] := List.length_eq_zero_iff.mp (by rw [r1.len, h0]; rfl)
          subst e0
          exact q (.ref b) Z H (fun _ => False) ((Stp.refl zh).weak fun _ z => z.elim) (Hld.data (by simp only [RepD]; exact ⟨b, ws, rfl, hb, r2⟩))
        · have e0 : ys = [] := List.length_eq_zero_iff.mp (by rw [r2.len, h0]; rfl)
          subst e0
          rw [List.append_nil] at q
          exact q (.ref a) Z H (fun _ => False) ((Stp.refl zh).weak fun _ z => z.elim) (Hld.data (by simp only [RepD]; exact ⟨a, vs, rfl, ha, r1⟩))
        · have st := Stp.newZ (o := .tup (vs ++ ws)) zh hp (fun c => T1 c ∨ T2 c)
          refine q (.ref p) _ _ (fun _ => False) (st.weak fun _ z => z.elim) (Hld.data ?_)
          simp only [RepD]
          exact ⟨p, _, rfl, SqT.of upd_same, RepDs.mono st.z _ _ (RepDs.app r1 r2)⟩
      · cases e
    · cases e
  · trivial
def rAddM (K : PySem.W.Frag) : R2 := rOr (rOr (rI0 fun i j => .int (i + j)) (fun x y H Q => ∃ i j, x = .str i ∧ y = .str j ∧ i.length + j.length ≤ sizeLine ∧ Q (.str (i ++ j)) H)) (rOr rCat (rCatA K))
theorem opr_addM : OpR X (binaryOp .Add) (rAddM X.K) := OpR.orR opr_add (OpR.orR op_cat op_catA)
theorem opok_add : OPok G (rAddM G.K) mAdd := (OPok.ofD vop_add).or (op_catL.or op_catTm)
/-- a + b, whatever they are -/
theorem xe_addM (hK : G.K = X.K) (ha : PEs G X W a fa) (hb : PEs G X W b fb) : PEs G X W (.BinOp a .Add b pos) (s2m mAdd fa fb) := by
  obtain ⟨ta, pa, ha⟩ := ha.ex
  obtain ⟨tb, pb, hb⟩ := hb.ex
  have h : OPok G (rAddM X.K) mAdd := by rw [← hK]; exact opok_add
  exact ⟨_, pe_op opr_addM pa pb, SEok.binM h ha hb⟩
end
end FL

set_option maxHeartbeats 2000000
/-! FLL: bools as values, if-expressions, minus, chains, zip, list(..). -/
namespace FL
open PySem L2 Classical

theorem SEok.after {G : Gx} {W : WX'} {t : TE} {f : SE} (h : SEok G W t f) {Z0 H0 Z H : Hp} {R : Rg} {σ : St} {env : Env} {S : Rs} {Q : VK} (s0 : Stp Z0 H0 R Z H (U S)) (gd : Good G Z H σ env S)
    (q : match f env with
      | .ok (m, env') => ∀ v Z' H' S' T, Stp Z0 H0 R Z' H' (fun a => U S' a ∨ T a) → Good G Z' H' σ env' S' → Hld G Z' H' (U S') m T v → Q v H'
      | .exc e env' => ∀ cls d Z' H' S', ExcAt G H' e cls d → Stp Z0 H0 R Z' H' (U S') → Good G Z' H' σ env' S' → W cls d σ H'
      | .bad => False) : t σ H Q := by
  have h1 := h Z H σ env S Q gd
  cases e : f env with
  | ok r =>
    obtain ⟨m, env'⟩ := r
    rw [e] at h1 q
    exact h1 fun v Z' H' S' T s' g' l => q v Z' H' S' T (s0.trans s') g' l
  | exc x env' =>
    rw [e] at h1 q
    exact h1 fun cls d Z' H' S' hx s' g' => q cls d Z' H' S' hx (s0.trans s') g'
  | bad => rw [e] at q; exact q.elim
/-- what an SE promises, told of a result -/
def EPost (G : Gx) (W : WX') (Z H : Hp) (R : Rg) (σ : St) (Q : VK) : Res (M × Env) → Prop
  | .ok (m, env') => ∀ v Z' H' S' T, Stp Z H R Z' H' (fun a => U S' a ∨ T a) → Good G Z' H' σ env' S' → Hld G Z' H' (U S') m T v → Q v H'
  | .exc e env' => ∀ cls d Z' H' S', ExcAt G H' e cls d → Stp Z H R Z' H' (U S') → Good G Z' H' σ env' S' → W cls d σ H'
  | .bad => False
theorem SEok.mk' {G : Gx} {W : WX'} {t : TE} {f : SE} (h : ∀ (Z H : Hp) (σ : St) (env : Env) (S : Rs) (Q : VK), Good G Z H σ env S → EPost G W Z H (U S) σ Q (f env) → t σ H Q) : SEok G W t f := fun Z H σ env S Q gd => by
  have := h Z H σ env S Q gd
  cases e : f env with
  | ok r => obtain ⟨m, env'⟩ := r; rw [e] at this; exact this
  | exc x env' => rw [e] at this; exact this
  | bad => trivial
theorem SEok.use {G : Gx} {W : WX'} {t : TE} {f : SE} (h : SEok G W t f) {Z H : Hp} {σ : St} {env : Env} {S : Rs} {Q : VK} (gd : Good G Z H σ env S) (q : EPost G W Z H (U S) σ Q (f env)) : t σ H Q := by
  have h1 := h Z H σ env S Q gd
  cases e : f env with
  | ok r => obtain ⟨m, env'⟩ := r; rw [e] at h1 q; exact h1 q
  | exc x env' => rw [e] at h1 q; exact h1 q
  | bad => rw [e] at q; exact q.elim
theorem EPost.shift {G : Gx} {W : WX'} {Z H Z' H' : Hp} {R R' : Rg} {σ : St} {Q : VK} {r : Res (M × Env)} (p : EPost G W Z H R σ Q r) (st : Stp Z H R Z' H' R') : EPost G W Z' H' R' σ Q r := by
  cases r with
  | ok q => obtain ⟨m, e⟩ := q; exact fun v Z2 H2 S2 T s2 g2 l => p v Z2 H2 S2 T (st.trans s2) g2 l
  | exc x e => exact fun cls d Z2 H2 S2 hx s2 g2 => p cls d Z2 H2 S2 hx (st.trans s2) g2
  | bad => exact p.elim
def sNotV (f : SE) : SE := fun env => match f env with
  | .ok (.d (.bl b), e) => .ok (.d (.bl !b), e)
  | .exc x e => .exc x e
  | _ => .bad
def sAndV (f g : SE) : SE := fun env => match f env with
  | .ok (.d (.bl true), e) => g e
  | .ok (.d (.bl false), e) => .ok (.d (.bl false), e)
  | .exc x e => .exc x e
  | _ => .bad
def sOrV (f g : SE) : SE := fun env => match f env with
  | .ok (.d (.bl true), e) => .ok (.d (.bl true), e)
  | .ok (.d (.bl false), e) => g e
  | .exc x e => .exc x e
  | _ => .bad
def sIf (c : SB) (f g : SE) : SE := fun env => match c env with
  | .ok (true, e) => f e
  | .ok (false, e) => g e
  | .exc x e => .exc x e
  | .bad => .bad
def sNeg (f : SE) : SE := fun env => match f env with
  | .ok (.d (.int i), e) => .ok (.d (.int (-i)), e)
  | .exc x e => .exc x e
  | _ => .bad
def vNeg (g : VE) : VE := fun env => match g env with
  | .ok (.d (.int i)) => .ok (.d (.int (-i)))
  | _ => .bad
section
variable {G : Gx} {X : Cx} {W : WX'} {e a b c : Expr} {f g : SE} {gv : VE} {fc : SB} {te tf tg : TE} {tc : TT} {pos : Pos} {rest : List Expr}
theorem SEok.notV (h : SEok G W te f) : SEok G W (tNotV te) (sNotV f) := SEok.mk' fun Z H σ env S Q gd p => by
  unfold sNotV at p
  refine h.use gd ?_
  cases e : f env with
  | ok q =>
    obtain ⟨m, e1⟩ := q
    rw [e] at p
    cases m with
    | d x =>
      cases x with
      | bl k => exact fun v Z' H' S' T s' g' l => ⟨k, rep_bl l.rep, p (.bl !k) Z' H' S' (fun _ => False) (s'.weak fun _ z => .inl (z.elim id fun z => z.elim)) g' (Hld.data (by simp [RepD]))⟩
      | _ => exact p.elim
    | _ => exact p.elim
  | exc x e1 => rw [e] at p; exact p
  | bad => rw [e] at p; exact p.elim
theorem SEok.andV (h : SEok G W tf f) (h' : SEok G W tg g) : SEok G W (tAndV tf tg) (sAndV f g) := SEok.mk' fun Z H σ env S Q gd p => by
  unfold sAndV at p
  refine h.use gd ?_
  cases e : f env with
  | ok q =>
    obtain ⟨m, e1⟩ := q
    rw [e] at p
    cases m with
    | d x =>
      cases x with
      | bl k =>
        intro v Z' H' S' T s' g' l
        have s2 : Stp Z H (U S) Z' H' (U S') := s'.weak fun _ z => .inl z
        refine ⟨k, rep_bl l.rep, ?_⟩
        cases k with
        | true => rw [if_pos rfl]; exact h'.use g' (p.shift s2)
        | false => rw [if_neg Bool.false_ne_true]; exact p (.bl false) Z' H' S' (fun _ => False) (s2.weak fun _ z => z.elim id fun z => z.elim) g' (Hld.data (by simp [RepD]))
      | _ => exact p.elim
    | _ => exact p.elim
  | exc x e1 => rw [e] at p; exact p
  | bad => rw [e] at p; exact p.elim
theorem SEok.orV (h : SEok G W tf f) (h' : SEok G W tg g) : SEok G W (tOrV tf tg) (sOrV f g) := SEok.mk' fun Z H σ env S Q gd p => by
  unfold sOrV at p
  refine h.use gd ?_
  cases e : f env with
  | ok q =>
    obtain ⟨m, e1⟩ := q
    rw [e] at p
    cases m with
    | d x =>
      cases x with
      | bl k =>
        intro v Z' H' S' T s' g' l
        have s2 : Stp Z H (U S) Z' H' (U S') := s'.weak fun _ z => .inl z
        refine ⟨k, rep_bl l.rep, ?_⟩
        cases k with
        | false => rw [if_neg Bool.false_ne_true]; exact h'.use g' (p.shift s2)
        | true => rw [if_pos rfl]; exact p (.bl true) Z' H' S' (fun _ => False) (s2.weak fun _ z => z.elim id fun z => z.elim) g' (Hld.data (by simp [RepD]))
      | _ => exact p.elim
    | _ => exact p.elim
  | exc x e1 => rw [e] at p; exact p
  | bad => rw [e] at p; exact p.elim
theorem SEok.ifE (hc : SBok G W tc fc) (h : SEok G W tf f) (h' : SEok G W tg g) : SEok G W (tIf tc tf tg) (sIf fc f g) := SEok.mk' fun Z H σ env S Q gd p => by
  unfold sIf at p
  have hh := hc Z H σ env S (fun b H1 => if b = true then tf σ H1 Q else tg σ H1 Q) gd
  cases e : fc env with
  | ok q =>
    obtain ⟨k, e1⟩ := q
    rw [e] at p hh
    cases k with
    | true => exact hh fun Z' H' S' s' g' => by rw [if_pos rfl]; exact h.use g' (p.shift s')
    | false => exact hh fun Z' H' S' s' g' => by rw [if_neg Bool.false_ne_true]; exact h'.use g' (p.shift s')
  | exc x e1 => rw [e] at p hh; exact hh p
  | bad => rw [e] at p; exact p.elim
theorem xe_not (h : PEs G X W a f) : PEs G X W (.UnaryOp .Not a pos) (sNotV f) := by
  obtain ⟨t, p, h⟩ := h.ex
  exact ⟨_, pe_not p, h.notV⟩
theorem xe_and (h : PEs G X W a f) (h' : PEs G X W (.BoolOp .And (b :: rest) pos) g) : PEs G X W (.BoolOp .And (a :: b :: rest) pos) (sAndV f g) := by
  obtain ⟨t, p, h⟩ := h.ex
  obtain ⟨u, q, h'⟩ := h'.ex
  exact ⟨_, pe_and p q, h.andV h'⟩
theorem xe_or (h : PEs G X W a f) (h' : PEs G X W (.BoolOp .Or (b :: rest) pos) g) : PEs G X W (.BoolOp .Or (a :: b :: rest) pos) (sOrV f g) := by
  obtain ⟨t, p, h⟩ := h.ex
  obtain ⟨u, q, h'⟩ := h'.ex
  exact ⟨_, pe_or p q, h.orV h'⟩
theorem xe_one {op} (h : PEs G X W a f) : PEs G X W (.BoolOp op [a] pos) f := by
  obtain ⟨t, p, h⟩ := h.ex
  exact ⟨_, pe_one p, h⟩
theorem xe_if (hc : PBs G X W c fc) (h : PEs G X W a f) (h' : PEs G X W b g) : PEs G X W (.IfExp c a b pos) (sIf fc f g) := by
  obtain ⟨t, p, hc⟩ := hc.ex
  obtain ⟨u, q, h⟩ := h.ex
  obtain ⟨v, r, h'⟩ := h'.ex
  exact ⟨_, pe_ifExp p q r, SEok.ifE hc h h'⟩
theorem xv_neg (h : PVs G X a gv) : PVs G X (.UnaryOp .USub a pos) (vNeg gv) := by
  obtain ⟨t, p, h⟩ := h.ex
  refine ⟨_, pe_un un_neg p, fun Z H σ env S Q gd => ?_⟩
  unfold vNeg
  have h1 := h Z H σ env S (fun x H1 => rU (fun i => .int (-i)) x H1 Q) gd
  split
  · rename_i e2
    split at e2
    · rename_i i ei
      cases e2
      rw [ei] at h1
      exact fun q => h1 fun v T _ r => ⟨i, rep_int r, q _ (fun _ => False) (fun _ z => z.elim) (by simp [RepM, RepD])⟩
    · cases e2
  · trivial
theorem xe_neg (h : PEs G X W a f) : PEs G X W (.UnaryOp .USub a pos) (sNeg f) := by
  obtain ⟨t, p, h⟩ := h.ex
  refine ⟨_, pe_un un_neg p, SEok.mk' fun Z H σ env S Q gd p => ?_⟩
  unfold sNeg at p
  refine h.use gd ?_
  cases e : f env with
  | ok q =>
    obtain ⟨m, e1⟩ := q
    rw [e] at p
    cases m with
    | d x =>
      cases x with
      | int k => exact fun v Z' H' S' T s' g' l => ⟨k, rep_int l.rep, p (.int (-k)) Z' H' S' (fun _ => False) (s'.weak fun _ z => .inl (z.elim id fun z => z.elim)) g' (Hld.data (by simp [RepD]))⟩
      | _ => exact p.elim
    | _ => exact p.elim
  | exc x e1 => rw [e] at p; exact p
  | bad => rw [e] at p; exact p.elim
end
end FL

set_option maxHeartbeats 2000000
/-! FLM: a def stands; the end of a law. -/
namespace FL
open PySem L2 Classical
section
variable {P : Program} {w : World} {mg : Str → Option Value} {base : Heap} {G : Gx}
theorem fnA_mk {x : Str} {st : Stmt} {f : Addr} {fd : FuncData} {N ps : List Str} {k n : Nat} (pr : List Nat) {b : SS} (F : Fun G.K x x st f fd) (hm : mg x = some (.ref f)) (hb : Binds G.K fd ps []) (S : FnScope N ps (defScope st)) (hn : ps.length = n)
    (hbody : ∀ (cdv : Value) (A : Around) (outer : List PySem.Env) (s : Shared) (H : Hp) (E : XK), Room k (cxOf (L2.CX P w) P w G.K mg base N x (defScope st) f cdv A outer s H E).A →
      Takes (cxOf (L2.CX P w) P w G.K mg base N x (defScope st) f cdv A outer s H E) (fun cls d _ H => E cls d H) →
      PassesOwn (model P w) (cxOf (L2.CX P w) P w G.K mg base N x (defScope st) f cdv A outer s H E).A (cxOf (L2.CX P w) P w G.K mg base N x (defScope st) f cdv A outer s H E).env (cxOf (L2.CX P w) P w G.K mg base N x (defScope st) f cdv A outer s H E).xe →
      PSs' G (cxOf (L2.CX P w) P w G.K mg base N x (defScope st) f cdv A outer s H E) (fun cls d _ H => E cls d H) (Pn n pr) (defBody st) b) :
    FnA P w G mg base (k + 1) x n (runF N.length n pr b) := ⟨f, fd, ps, fn_ok pr F S hn hbody, hm, F.kp, hb⟩
end
theorem xe_call' {G : Gx} {X : Cx} {W : WX'} {e : Expr} {es : List Expr} {fs : SA} {bk : Bk} {F : FS} {n k k' : Nat} {x : Str} {p pos : Pos} (h : FnA X.prog X.w G X.mg X.base k x n F) (hK : G.K = X.K) (hr : Room k' X.A) (hk : k ≤ k') (tk : Takes X W) (ha : PAs' G X W (e :: es) bk fs) (hn : ∀ env ms e1, fs env = .ok (ms, e1) → ms.length = n) (hg : Gl X x := by rfl) (hdb : (x == ("__debug__" : Str)) = false := by decide)
    (he : starEach (e :: es) X.env = (false, eval e X.env) :: starEach es X.env := by rfl) (hpl : (backTo pos (starEach es X.env)).any (·.1) = false := by rfl) : PEs G X W (.Call (.Name x p) (e :: es) [] pos) (sCall F bk fs) :=
  xe_call h hK (hr.mono hk) tk ha hn hg hdb he hpl
theorem xe_call0' {G : Gx} {X : Cx} {W : WX'} {F : FS} {k k' : Nat} {x : Str} {p pos : Pos} (h : FnA X.prog X.w G X.mg X.base k x 0 F) (hK : G.K = X.K) (hr : Room k' X.A) (hk : k ≤ k') (tk : Takes X W) (hg : Gl X x := by rfl) (hdb : (x == ("__debug__" : Str)) = false := by decide) : PEs G X W (.Call (.Name x p) [] [] pos) (sCall F [] saNil) :=
  xe_call0 h hK (hr.mono hk) tk hg hdb
theorem repDs_ints {G : Gx} {Z : Hp} : ∀ ns : List Int, RepDs G Z (ns.map D.int) (ns.map V.int)
  | [] => by simp [RepDs]
  | n :: ns => by
    simp only [List.map_cons, RepDs]
    exact ⟨_, _, rfl, by simp [RepD], repDs_ints ns⟩
theorem sp_law {G : Gx} {F : FS} {H : Hp} {a : Addr} {ns : List Int} (h : ∃ ms', F [.d (.scr (ns.map D.int))] = .ok (.d (.bl true), ms')) (hS : SqL G.K H a (ns.map V.int)) : spF G 1 F [.ref a] H (fun v _ => v = .bl true) fun _ _ _ => False := by
  obtain ⟨ms', h⟩ := h
  refine ⟨rfl, H, [.d (.scr (ns.map D.int))], fun _ _ => False, ?_, ?_⟩
  · refine ⟨Same.refl _, fun i m e => ?_, fun i j a _ h => h.elim, fun i a h => h.elim, fun i a h => h.elim, rfl⟩
    cases i with
    | zero =>
      cases e
      refine ⟨.ref a, rfl, ?_⟩
      simp only [RepM, RepD]
      exact ⟨a, _, rfl, hS, repDs_ints ns⟩
    | succ i => simp at e
  · rw [h]
    exact fun v Z' H' T' Tr _ _ l => rep_bl l.rep
theorem cx_no {P : Program} {w : World} {H : Hp} {s : Shared} {e : Value} {s' : Shared} (h : L2.CX P w [] H s (fun _ _ _ => False) e s') : False := by
  obtain ⟨_, _, _, _, _, _, _, _, _, _, _, _, z⟩ := h
  exact z
theorem bits_lt {n : Int} (h : Builtin.Int.intBits n ≤ 1048576) : n.natAbs.log2 < 1048576 := by
  unfold Builtin.Int.intBits at h
  by_cases e : n = 0
  · subst e; decide
  · have e2 : (n == 0) = false := by simpa using e
    rw [e2] at h
    have h' : n.natAbs.log2 + 1 ≤ 1048576 := h
    omega
open PySem.Spec PyProof.Rows in
theorem walk {l : PySem.W.OpenLaw} {k : Nat} {q : Program} {loose : List Str} {XP : (Str → Option Value) → Heap → Prop} {YP : World → Heap → Prop} {d : DefRec} {x : Str}
    (hn : l.most = some 63) (hdf : d.params.defaults = []) (hr : Room k callerA)
    (F : ∀ (w : World) (mg : Str → Option Value) (fa : Addr) (h : Heap), YP w h → h.Ns mainGlobals mg → mg d.name = some (.ref fa) →
      ∃ (G : Gx) (fd : FuncData) (F : FS), G.K.In h ∧ (∀ (s : Shared) (u : Value), BindsTo s fd ⟨[u], []⟩ [(x, u)]) ∧
        (∀ ns : List Int, ns.length ≤ 63 → (∀ z ∈ ns, z.natAbs.log2 < 1048576) → ∃ ms', F [.d (.scr (ns.map D.int))] = .ok (.d (.bl true), ms')) ∧
        ∀ base : Heap, G.K.In base → base.Ns mainGlobals mg → FnOk l.prog w G.K mg base (L2.CX l.prog w) k fa fd [x] (spF G 1 F)) :
    PySem.W.WalkO q loose XP YP l.row.toRowW d [] (fun f vs => PySem.call f vs) := by
  refine Att.attach_callB hn hdf fun w s₀ s₁ mg mb fa o pm cd doc a vs ns G Y ho hd hcd hmg hobj hints hlen hbits hg => ?_
  obtain ⟨Gx, fd, Fs, KX, hb, hsp, hF⟩ := F w mg fa _ Y G.T.g hmg
  exact law_call KX G.T.g G.T.b G.T.builtins G.T.nolimit hg hobj hints (Nat.le_trans hlen (by decide)) hr hF hb (fun H hO hS => sp_law (hsp ns hlen fun z hz => bits_lt (hbits z hz)) hS) fun H e s' => cx_no
end FL

set_option maxHeartbeats 2000000
/-! FLN: a, b = x, y side by side. -/
namespace FL
open PySem L2 Classical
def setAll {α : Type} : List Nat → List α → List (Option α) → List (Option α)
  | i :: is, v :: vs, σ => setAll is vs (σ.set i (some v))
  | _, _, σ => σ
def ssPar (is : List Nat) (fs : SA) : SS := fun env => match fs env with
  | .ok (ms, e) => if ms.length = is.length ∧ (is.all fun i => decide (i < e.length)) = true then .ok (.nx, setAll is ms e) else .bad
  | .exc x e => .exc x e
  | .bad => .bad
theorem row_put {G : Gx} {Z H : Hp} : ∀ (is : List Nat) (vs : List V) (ms : List M) (T : Rs) (σ : St) (env : Env) (S : Rs), Good G Z H (vs.map some) (ms.map some) T → Good G Z H σ env S → (∀ a, U T a → ¬ U S a) → ms.length = is.length → (∀ i ∈ is, i < env.length) →
    ∃ S', Good G Z H (setAll is vs σ) (setAll is ms env) S' ∧ ∀ a, U S' a → U S a ∨ U T a
  | [], vs, ms, T, σ, env, S, r, g, d, hl, hi => by
    have : ms = [] := List.length_eq_zero_iff.mp hl
    subst this
    have : vs = [] := by have := r.len; exact List.length_eq_zero_iff.mp (by simpa using this.symm)
    subst this
    exact ⟨S, g, fun a z => .inl z⟩
  | i :: is, [], ms, T, σ, env, S, r, g, d, hl, hi => by have := r.len; simp at this; subst this; simp at hl
  | i :: is, v :: vs, [], T, σ, env, S, r, g, d, hl, hi => by simp at hl
  | i :: is, v :: vs, m :: ms, T, σ, env, S, r, g, d, hl, hi => by
    obtain ⟨w, hw, h⟩ := r.head
    cases hw
    have g1 := g.put (i := i) (m := m) (T := T 0) (v := v) ⟨h.rep, h.al, h.zf, fun a z => d a ⟨0, z⟩⟩ (hi i (by simp))
    obtain ⟨S', g', h'⟩ := row_put is vs ms (fun j => T (j + 1)) (σ.set i (some v)) (env.set i (some m)) (S.set i (T 0)) r.tail g1 (fun a ⟨j, z⟩ w => (Rs.set_sub w).elim (d a ⟨j + 1, z⟩) fun w => h.dj a w ⟨j, z⟩) (by simpa using hl) (fun k hk => by rw [List.length_set]; exact hi k (by simp [hk]))
    exact ⟨S', g', fun a z => (h' a z).elim (fun z => (Rs.set_sub z).elim .inl fun z => .inr ⟨0, z⟩) fun ⟨j, z⟩ => .inr ⟨j + 1, z⟩⟩
theorem setAll_fix {P : Px} : ∀ (is : List Nat) (vs : List V) (σ : St), (∀ i ∈ is, ¬ P i) → Fix P σ (setAll is vs σ)
  | [], _, _, _ => Fix.refl
  | _ :: _, [], _, _ => Fix.refl
  | i :: is, v :: vs, σ, h => by
    refine Fix.trans ⟨fun j hj => ?_, by rw [List.length_set]⟩ (setAll_fix is vs (σ.set i (some v)) fun k hk => h k (by simp [hk]))
    exact List.getElem?_set_ne fun (z : i = j) => h i (by simp) (by rw [z]; exact hj)
section
variable {G : Gx} {X : Cx} {W : WX'} {P : Px} {fs : SA} {bk : Bk}
theorem SSok.par {t : TA} (is : List Nat) (hP : ∀ i ∈ is, ¬ P i) (h : SAok' G W bk t fs) {u : TS} (hu : ∀ D σ H, t σ H (fun vs H1 => vs.length = is.length ∧ D.nx (setAll is vs σ) H1) → u D σ H) : SSok G W P u (ssPar is fs) := fun D Z H σ env S gd p => by
  unfold ssPar at p
  refine hu D σ H ?_
  have h1 := h Z H σ env S (fun vs H1 => vs.length = is.length ∧ D.nx (setAll is vs σ) H1) gd
  cases e : fs env with
  | ok q =>
    obtain ⟨ms, e1⟩ := q
    rw [e] at p h1
    simp only at p
    split at p
    · rename_i hc
      refine h1 fun vs Z' H' S' T s' g' row d kk => ?_
      have hl : vs.length = ms.length := by have := row.len; simpa using this.symm
      obtain ⟨S2, g2, u2⟩ := row_put is vs ms T σ e1 S' row g' d hc.1 (fun i hi => by have := List.all_eq_true.mp hc.2 i hi; simpa using this)
      exact ⟨hl.trans hc.1, p (setAll is vs σ) Z' H' S2 (setAll_fix is vs σ hP) (s'.weak fun a z => u2 a z) g2⟩
    · exact p.elim
  | exc x e1 =>
    rw [e] at p h1
    exact h1 fun cls d Z' H' S' hx s' g' => p cls d σ Z' H' S' hx Fix.refl s' g'
  | bad => rw [e] at p; exact p.elim
theorem xs_par2 (i j : Nat) {x y : Str} {a b : Expr} {px py pt pos : Pos} {kt k2 pt2} (hc : X.calm = true) (hN : X.N.Nodup) (ha : PAs' G X W [a, b] bk fs)
    (hw : swappedStores [.Tuple [.Name x px, .Name y py] kt pt] (.Tuple [a, b] k2 pt2) X.env = pure (some [x, y])) (hP : ∀ k ∈ [i, j], ¬ P k := by decide) (hi : X.N[i]? = some x := by rfl) (hj : X.N[j]? = some y := by rfl) (hij : i ≠ j := by decide)
    (hx : X.env.scope.names.lookup x = some .local := by rfl) (hy : X.env.scope.names.lookup y = some .local := by rfl)
    (hs : swapsWithSole [.Tuple [.Name x px, .Name y py] kt pt] (.Tuple [a, b] k2 pt2) pos.line X.env = pure false := by rfl) :
    PS' G X W P (.Assign [.Tuple [.Name x px, .Name y py] kt pt] (.Tuple [a, b] k2 pt2) pos) (ssPar [i, j] fs) := by
  obtain ⟨t, p, ha⟩ := ha.ex
  refine ⟨_, ps_par hc hN hi hj hij hx hy p hw hs, SSok.par [i, j] hP ha fun D σ H q => ?_⟩
  unfold tPar
  have e : (fun vs H1 => vs.length = [i, j].length ∧ D.nx (setAll [i, j] vs σ) H1) = (fun vs H1 => ∃ v w, vs = [v, w] ∧ D.nx ((σ.set i (some v)).set j (some w)) H1) := by
    funext vs H1
    apply propext
    constructor
    · rintro ⟨hl, q⟩
      match vs, hl with
      | [v, w], _ => exact ⟨v, w, rfl, q⟩
    · rintro ⟨v, w, rfl, q⟩
      exact ⟨rfl, q⟩
  rw [← e]
  exact q
theorem xs_par3 (i j l : Nat) {x y z : Str} {a b c : Expr} {px py pz pt pos : Pos} {kt k2 pt2} (hc : X.calm = true) (hN : X.N.Nodup) (ha : PAs' G X W [a, b, c] bk fs)
    (hw : swappedStores [.Tuple [.Name x px, .Name y py, .Name z pz] kt pt] (.Tuple [a, b, c] k2 pt2) X.env = pure (some [x, y, z])) (hP : ∀ k ∈ [i, j, l], ¬ P k := by decide) (hi : X.N[i]? = some x := by rfl) (hj : X.N[j]? = some y := by rfl) (hl : X.N[l]? = some z := by rfl) (hij : i ≠ j := by decide) (hil : i ≠ l := by decide) (hjl : j ≠ l := by decide)
    (hx : X.env.scope.names.lookup x = some .local := by rfl) (hy : X.env.scope.names.lookup y = some .local := by rfl) (hz : X.env.scope.names.lookup z = some .local := by rfl)
    (hs : swapsWithSole [.Tuple [.Name x px, .Name y py, .Name z pz] kt pt] (.Tuple [a, b, c] k2 pt2) pos.line X.env = pure false := by rfl) :
    PS' G X W P (.Assign [.Tuple [.Name x px, .Name y py, .Name z pz] kt pt] (.Tuple [a, b, c] k2 pt2) pos) (ssPar [i, j, l] fs) := by
  obtain ⟨t, p, ha⟩ := ha.ex
  refine ⟨_, ps_par3 hc hN hi hj hl hij hil hjl hx hy hz p hw hs, SSok.par [i, j, l] hP ha fun D σ H q => ?_⟩
  unfold tPar3
  have e : (fun vs H1 => vs.length = [i, j, l].length ∧ D.nx (setAll [i, j, l] vs σ) H1) = (fun vs H1 => ∃ u v w, vs = [u, v, w] ∧ D.nx (((σ.set i (some u)).set j (some v)).set l (some w)) H1) := by
    funext vs H1
    apply propext
    constructor
    · rintro ⟨hl, q⟩
      match vs, hl with
      | [u, v, w], _ => exact ⟨u, v, w, rfl, q⟩
    · rintro ⟨u, v, w, rfl, q⟩
      exact ⟨rfl, q⟩
  rw [← e]
  exact q
end
end FL

set_option maxHeartbeats 2000000
/-! FLS: reckoning with the semantics. -/
namespace FL
open PySem L2 Classical

theorem oAdd_int (i j : Int) : oAdd (.d (.int i)) (.d (.int j)) = .ok (.int (i + j)) := rfl
theorem oSub_int (i j : Int) : oSub (.d (.int i)) (.d (.int j)) = .ok (.int (i - j)) := rfl
theorem oMul_int {i j : Int} (h : CMulD i j) : oMul (.d (.int i)) (.d (.int j)) = .ok (.int (i * j)) := if_pos h
theorem oFdiv_int {i j : Int} (h : CFdiv i j) : oFdiv (.d (.int i)) (.d (.int j)) = .ok (.int (fdivI i j)) := if_pos h
theorem oMod_int {i j : Int} (h : j ≠ 0) : oMod (.d (.int i)) (.d (.int j)) = .ok (.int (modI i j)) := if_pos h
theorem oPow_int {i j : Int} (h : CPowD i j) : oPow (.d (.int i)) (.d (.int j)) = .ok (.int (i ^ j.toNat)) := if_pos h
theorem oLt_int (i j : Int) : oLt (.d (.int i)) (.d (.int j)) = .ok (.bl (decide (i < j))) := rfl
theorem oLe_int (i j : Int) : oLe (.d (.int i)) (.d (.int j)) = .ok (.bl (decide (i ≤ j))) := rfl
theorem oGt_int (i j : Int) : oGt (.d (.int i)) (.d (.int j)) = .ok (.bl (decide (j < i))) := rfl
theorem oGe_int (i j : Int) : oGe (.d (.int i)) (.d (.int j)) = .ok (.bl (decide (j ≤ i))) := rfl
theorem plain_int (i : Int) : (toPy (.int i)).plain = true ∧ (toPy (.int i)).depth ≤ 60 := by
  constructor
  · simp [toPy, PyData.plain]
  · simp [toPy, PyData.depth]
/-- data that == tells at once -/
def flatD0 : D → Bool
  | .non => true | .bl _ => true | .int _ => true | .str _ => true
  | _ => false
theorem flat0_plain : ∀ {x : D}, flatD0 x = true → (toPy x).plain = true ∧ (toPy x).depth ≤ 60
  | .non, _ => by simp [toPy, PyData.plain, PyData.depth]
  | .bl _, _ => by simp [toPy, PyData.plain, PyData.depth]
  | .int _, _ => by simp [toPy, PyData.plain, PyData.depth]
  | .str _, _ => by simp [toPy, PyData.plain, PyData.depth]
theorem toPys_map : ∀ xs : List D, toPys xs = xs.map toPy
  | [] => rfl
  | x :: xs => by simp [toPys, toPys_map xs]
/-- plain, and at most k deep -/
def Pl (k : Nat) (x : D) : Prop := (toPy x).plain = true ∧ (toPy x).depth ≤ k
theorem pl_flat {x : D} {k : Nat} (h : flatD0 x = true) : Pl k x := by
  refine ⟨(flat0_plain h).1, ?_⟩
  cases x <;> simp [flatD0] at h <;> simp [toPy, PyData.depth]
theorem oEq_pl {m1 m2 : M} (h1 : Pl 60 (fz m1)) (h2 : Pl 60 (fz m2)) : oEq m1 m2 = .ok (.bl (eqD (fz m1) (fz m2))) := if_pos ⟨h1.1, h2.1, Nat.le_trans (Nat.min_le_left _ _) h1.2⟩
theorem oNe_pl {m1 m2 : M} (h1 : Pl 60 (fz m1)) (h2 : Pl 60 (fz m2)) : oNe m1 m2 = .ok (.bl (!eqD (fz m1) (fz m2))) := if_pos ⟨h1.1, h2.1, Nat.le_trans (Nat.min_le_left _ _) h1.2⟩
theorem beq_int (i j : Int) : (i == j) = decide (i = j) := by
  by_cases h : i = j
  · subst h; simp
  · simp [h]
theorem oEq_int (i j : Int) : oEq (.d (.int i)) (.d (.int j)) = .ok (.bl (decide (i = j))) := by
  rw [oEq_pl (pl_flat rfl) (pl_flat rfl)]
  simp [eqD, fz, toPy, PyData.eqv, beq_int]
theorem oNe_int (i j : Int) : oNe (.d (.int i)) (.d (.int j)) = .ok (.bl (!decide (i = j))) := by
  rw [oNe_pl (pl_flat rfl) (pl_flat rfl)]
  simp [eqD, fz, toPy, PyData.eqv, beq_int]
theorem modI_pos {i j : Int} (h : 0 < j) : modI i j = i % j := if_pos h
theorem fdivI_pos {i j : Int} (h : 0 < j) : fdivI i j = i / j := if_pos h

/-! ### loops, step by step -/
theorem ssWhile_go {c : SB} {b : SS} {env e e2 : Env} {fl : Fl} (hc : c env = .ok (true, e)) (hb : b e = .ok (fl, e2)) (hf : fl = .nx ∨ fl = .ct) : ssWhile c b env = ssWhile c b e2 := by
  have key : ∀ n, wl c b (n + 1) env = wl c b n e2 := fun n => by
    show (match c env with
      | .ok (true, e) => match b e with
        | .ok (.nx, e2) => wl c b n e2
        | .ok (.ct, e2) => wl c b n e2
        | .ok (.brk, e2) => .ok (.nx, e2)
        | .ok (.ret m, e2) => .ok (.ret m, e2)
        | .exc x e2 => .exc x e2
        | .bad => .bad
      | .ok (false, e) => .ok (.nx, e)
      | .exc x e => .exc x e
      | .bad => .bad) = _
    rw [hc]
    simp only [hb]
    rcases hf with rfl | rfl <;> rfl
  by_cases ex : ∃ n, wl c b n e2 ≠ .bad
  · obtain ⟨n, hn⟩ := ex
    rw [ssWhile_of n rfl hn, ssWhile_of (n + 1) (key n) hn]
  · have ex2 : ¬ ∃ n, wl c b n env ≠ .bad := by
      rintro ⟨n, hn⟩
      cases n with
      | zero => exact hn rfl
      | succ n => rw [key] at hn; exact ex ⟨n, hn⟩
    unfold ssWhile
    rw [dif_neg ex, dif_neg ex2]
theorem ssWhile_end {c : SB} {b : SS} {env e : Env} (hc : c env = .ok (false, e)) : ssWhile c b env = .ok (.nx, e) := by
  refine ssWhile_of 1 ?_ (fun z => nomatch z)
  show (match c env with
      | .ok (true, e) => match b e with
        | .ok (.nx, e2) => wl c b 0 e2
        | .ok (.ct, e2) => wl c b 0 e2
        | .ok (.brk, e2) => .ok (.nx, e2)
        | .ok (.ret m, e2) => .ok (.ret m, e2)
        | .exc x e2 => .exc x e2
        | .bad => .bad
      | .ok (false, e) => .ok (.nx, e)
      | .exc x e => .exc x e
      | .bad => .bad) = _
  rw [hc]
theorem ssWhile_ret {c : SB} {b : SS} {env e e2 : Env} {m : M} (hc : c env = .ok (true, e)) (hb : b e = .ok (.ret m, e2)) : ssWhile c b env = .ok (.ret m, e2) := by
  refine ssWhile_of 1 ?_ (fun z => nomatch z)
  show (match c env with
      | .ok (true, e) => match b e with
        | .ok (.nx, e2) => wl c b 0 e2
        | .ok (.ct, e2) => wl c b 0 e2
        | .ok (.brk, e2) => .ok (.nx, e2)
        | .ok (.ret m, e2) => .ok (.ret m, e2)
        | .exc x e2 => .exc x e2
        | .bad => .bad
      | .ok (false, e) => .ok (.nx, e)
      | .exc x e => .exc x e
      | .bad => .bad) = _
  rw [hc]
  simp only [hb]
theorem ssWhile_brk {c : SB} {b : SS} {env e e2 : Env} (hc : c env = .ok (true, e)) (hb : b e = .ok (.brk, e2)) : ssWhile c b env = .ok (.nx, e2) := by
  refine ssWhile_of 1 ?_ (fun z => nomatch z)
  show (match c env with
      | .ok (true, e) => match b e with
        | .ok (.nx, e2) => wl c b 0 e2
        | .ok (.ct, e2) => wl c b 0 e2
        | .ok (.brk, e2) => .ok (.nx, e2)
        | .ok (.ret m, e2) => .ok (.ret m, e2)
        | .exc x e2 => .exc x e2
        | .bad => .bad
      | .ok (false, e) => .ok (.nx, e)
      | .exc x e => .exc x e
      | .bad => .bad) = _
  rw [hc]
  simp only [hb]
end FL

set_option maxHeartbeats 2000000
/-! FLT: plain law: fractions in lowest terms, sizes. -/
namespace FL
open PySem L2 Classical

theorem gcd_step {a b : Int} (hb : 0 < b) : Int.gcd b (a % b) = Int.gcd a b := by
  apply Nat.dvd_antisymm
  · apply Int.natCast_dvd_natCast.mp
    apply Int.dvd_coe_gcd
    · have h1 : (Int.gcd b (a % b) : Int) ∣ b := Int.gcd_dvd_left ..
      have h2 : (Int.gcd b (a % b) : Int) ∣ a % b := Int.gcd_dvd_right ..
      have h3 : a = b * (a / b) + a % b := (Int.mul_ediv_add_emod a b).symm
      exact (Int.dvd_iff_emod_eq_zero.mp (show (Int.gcd b (a % b) : Int) ∣ b * (a / b) + a % b from Int.dvd_add (Int.dvd_mul_of_dvd_left h1) h2) |> fun z => Int.dvd_of_emod_eq_zero (by rw [← h3] at z; exact z))
    · exact Int.gcd_dvd_left ..
  · apply Int.natCast_dvd_natCast.mp
    apply Int.dvd_coe_gcd
    · exact Int.gcd_dvd_right ..
    · have h1 : (Int.gcd a b : Int) ∣ a := Int.gcd_dvd_left ..
      have h2 : (Int.gcd a b : Int) ∣ b := Int.gcd_dvd_right ..
      have h3 : a % b = a - b * (a / b) := by have := Int.mul_ediv_add_emod a b; omega
      rw [h3]
      exact Int.dvd_sub h1 (Int.dvd_mul_of_dvd_left h2)
theorem gcd_abs (a b : Int) : Int.gcd (if a < 0 then -a else a) (if b < 0 then -b else b) = Int.gcd a b := by
  have e : ∀ x : Int, (if x < 0 then -x else x).natAbs = x.natAbs := fun x => by split <;> omega
  unfold Int.gcd
  rw [e, e]
theorem gcd_zero_right {a : Int} (h : 0 ≤ a) : (Int.gcd a 0 : Int) = a := by
  rw [Int.gcd_zero_right]; omega
def gI (a b : Int) : Int := (Int.gcd a b : Int)
theorem gI_pos {a b : Int} (h : b ≠ 0) : 0 < gI a b := by have := Int.gcd_pos_of_ne_zero_right a h; unfold gI; omega
theorem gI_dvdL (a b : Int) : gI a b ∣ a := Int.gcd_dvd_left ..
theorem gI_dvdR (a b : Int) : gI a b ∣ b := Int.gcd_dvd_right ..
theorem gI_le {a b : Int} (h : b ≠ 0) : (gI a b).natAbs ≤ b.natAbs := Nat.le_of_dvd (by omega) (Int.natAbs_dvd_natAbs.mpr (gI_dvdR a b))
def lowT (t b : Int) : Int := t / gI t b
def lowB (t b : Int) : Int := b / gI t b
theorem lowT_mul {t b : Int} : lowT t b * gI t b = t := Int.ediv_mul_cancel (gI_dvdL t b)
theorem lowB_mul {t b : Int} : lowB t b * gI t b = b := Int.ediv_mul_cancel (gI_dvdR t b)
theorem low_cross {t b : Int} : lowT t b * b = t * lowB t b := by
  have h1 := lowT_mul (t := t) (b := b)
  have h2 := lowB_mul (t := t) (b := b)
  calc lowT t b * b = lowT t b * (lowB t b * gI t b) := by rw [h2]
    _ = (lowT t b * gI t b) * lowB t b := by rw [Int.mul_comm (lowB t b), ← Int.mul_assoc]
    _ = t * lowB t b := by rw [h1]
theorem lowB_pos {t b : Int} (h : 0 < b) : 0 < lowB t b := by
  have h1 := gI_pos (a := t) (b := b) (by omega)
  have h2 := lowB_mul (t := t) (b := b)
  refine Int.not_le.mp fun q => ?_
  have := Int.mul_le_mul_of_nonneg_right q (Int.le_of_lt h1)
  omega
theorem gI_scale {t b k : Int} (h : 0 < k) : gI (t * k) (b * k) = gI t b * k := by
  unfold gI
  rw [Int.gcd_mul_right]
  rw [Int.natCast_mul, Int.natAbs_of_nonneg (Int.le_of_lt h)]
theorem low_scale {t b k : Int} (h : 0 < k) : lowT (t * k) (b * k) = lowT t b ∧ lowB (t * k) (b * k) = lowB t b := by
  unfold lowT lowB
  rw [gI_scale h]
  exact ⟨Int.mul_ediv_mul_of_pos_left _ _ h, Int.mul_ediv_mul_of_pos_left _ _ h⟩
theorem low_eq {t b t' b' : Int} (h : 0 < b) (h' : 0 < b') (e : t * b' = t' * b) : lowT t b = lowT t' b' ∧ lowB t b = lowB t' b' := by
  have h1 := low_scale (t := t) (b := b) h'
  have h2 := low_scale (t := t') (b := b') h
  rw [e, Int.mul_comm b b'] at h1
  exact ⟨h1.1.symm.trans h2.1, h1.2.symm.trans h2.2⟩
theorem low_gcd {t b : Int} (h : b ≠ 0) : Int.gcd (lowT t b) (lowB t b) = 1 := by
  have hg := gI_pos (a := t) h
  have e := Int.gcd_mul_right (lowT t b) (gI t b) (lowB t b)
  rw [lowT_mul, lowB_mul] at e
  have e2 : (gI t b).natAbs = Int.gcd t b := by unfold gI; simp
  rw [e2] at e
  have hg2 : 0 < Int.gcd t b := by unfold gI at hg; omega
  have e3 : 1 * Int.gcd t b = Int.gcd (lowT t b) (lowB t b) * Int.gcd t b := by omega
  exact (Nat.eq_of_mul_eq_mul_right hg2 e3).symm
theorem natAbs_ediv {a b : Int} (h : b ∣ a) : (a / b).natAbs ≤ a.natAbs := by
  rw [Int.natAbs_ediv_of_dvd h]
  exact Nat.div_le_self _ _
theorem lowT_le {t b : Int} : (lowT t b).natAbs ≤ t.natAbs := natAbs_ediv (gI_dvdL t b)
theorem lowB_le {t b : Int} : (lowB t b).natAbs ≤ b.natAbs := natAbs_ediv (gI_dvdR t b)
theorem fdiv_neg {a g : Int} (hg : 0 < g) (h : g ∣ a) : fdivI a (0 - g) = (-a) / g := by
  unfold fdivI
  rw [if_neg (by omega)]
  obtain ⟨c, rfl⟩ := h
  have e1 : g * c = (-c) * (0 - g) := by
    rw [Int.zero_sub, Int.mul_neg, Int.neg_mul, Int.neg_neg, Int.mul_comm]
  have e2 : -(g * c) = (-c) * g := by rw [Int.neg_mul, Int.mul_comm]
  rw [e2, Int.mul_ediv_cancel _ (by omega), e1, Int.mul_fdiv_cancel _ (by omega)]
theorem gI_neg (t b : Int) : gI (-t) (-b) = gI t b := by unfold gI; rw [Int.gcd_neg, Int.neg_gcd]
/-- what fraction gives -/
def fracT (t b : Int) : Int := if b < 0 then lowT (-t) (-b) else lowT t b
def fracB (t b : Int) : Int := if b < 0 then lowB (-t) (-b) else lowB t b
theorem frac_pos {t b : Int} (h : 0 < b) : fracT t b = lowT t b ∧ fracB t b = lowB t b := by
  unfold fracT fracB
  rw [if_neg (by omega), if_neg (by omega)]
  exact ⟨rfl, rfl⟩

/-! ### sizes -/
theorem log_lt {n k : Nat} (h : n < 2 ^ k) (hk : 0 < k) : n.log2 < k := PySem.Flt.log2_lt_of hk h
theorem mulD {i j : Int} {a b : Nat} (ha : i.natAbs < 2 ^ a) (hb : j.natAbs < 2 ^ b) (h0 : 0 < a := by omega) (h1 : 0 < b := by omega) (h : a + b ≤ 130000000 := by omega) : CMulD i j := by
  have := log_lt ha h0
  have := log_lt hb h1
  show i.natAbs.log2 + j.natAbs.log2 < 130000000
  omega
theorem mulDl {i j : Int} {b : Nat} (ha : i.natAbs.log2 < 1048577) (hb : j.natAbs < 2 ^ b) (h1 : 0 < b := by omega) (h : b ≤ 100000000 := by omega) : CMulD i j := by
  have := log_lt hb h1
  show i.natAbs.log2 + j.natAbs.log2 < 130000000
  omega
theorem fdivD {j : Int} {i : Int} {b : Nat} (h : j ≠ 0) (hb : j.natAbs < 2 ^ b) (h0 : 0 < b := by omega) (h9 : b ≤ 9000 := by omega) : CFdiv i j := ⟨h, Nat.lt_of_lt_of_le (log_lt hb h0) h9⟩
theorem mul_lt {i j : Int} {a b : Nat} (ha : i.natAbs < 2 ^ a) (hb : j.natAbs < 2 ^ b) : (i * j).natAbs < 2 ^ (a + b) := by
  rw [Int.natAbs_mul, Nat.pow_add]
  exact Nat.mul_lt_mul'' ha hb
theorem add_lt {i j : Int} {a : Nat} (ha : i.natAbs < 2 ^ a) (hb : j.natAbs < 2 ^ a) : (i + j).natAbs < 2 ^ (a + 1) := by
  rw [Nat.pow_succ]; omega
theorem sub_lt {i j : Int} {a : Nat} (ha : i.natAbs < 2 ^ a) (hb : j.natAbs < 2 ^ a) : (i - j).natAbs < 2 ^ (a + 1) := by
  rw [Nat.pow_succ]; omega
theorem up_lt {i : Int} {a b : Nat} (ha : i.natAbs < 2 ^ a) (h : a ≤ b := by omega) : i.natAbs < 2 ^ b := Nat.lt_of_lt_of_le ha (Nat.pow_le_pow_right (by decide) h)
end FL
namespace FL
open PySem L2 Classical
theorem oEq_pair (a b c d : Int) : oEq (.d (.tup [.int a, .int b])) (.d (.tup [.int c, .int d])) = .ok (.bl (decide (a = c) && decide (b = d))) := by
  have h : ∀ a b : Int, Pl 60 (fz (.d (.tup [.int a, .int b]))) := fun a b => by
    simp [Pl, fz, toPy, toPys, PyData.plain, PyData.plainAll, PyData.depth, PyData.depthAll]
  rw [oEq_pl (h a b) (h c d)]
  simp [eqD, fz, toPy, toPys, PyData.eqv, PyData.eqvAll, beq_int]
theorem two_pow_le {a b : Nat} (h : a ≤ b := by omega) : 2 ^ a ≤ 2 ^ b := Nat.pow_le_pow_right (by decide) h
end FL
namespace FL
open PySem L2 Classical
/-! ### slices, comprehensions, for -/
theorem cutL_take {α : Type} (xs : List α) {k : Int} (h : 0 ≤ k) : cutL xs none (some k) = xs.take k.toNat := by
  unfold cutL HT.sIx
  simp only []
  rw [if_neg (by omega)]
  rw [List.drop_zero, Nat.sub_zero]
  rcases Nat.le_total k.toNat xs.length with q | q
  · rw [Nat.min_eq_left q]
  · rw [Nat.min_eq_right q, List.take_of_length_le (Nat.le_refl _), List.take_of_length_le q]
theorem cutL_drop {α : Type} (xs : List α) {k : Int} (h : 0 ≤ k) : cutL xs (some k) none = xs.drop k.toNat := by
  unfold cutL HT.sIx
  simp only []
  rw [if_neg (by omega)]
  rcases Nat.le_total k.toNat xs.length with q | q
  · rw [Nat.min_eq_left q, List.take_of_length_le (by simp)]
  · rw [Nat.min_eq_right q]
    simp [List.drop_eq_nil_of_le q]
theorem cutL_mid {α : Type} (xs : List α) {j k : Int} (h : 0 ≤ j) (hk : 0 ≤ k) : cutL xs (some j) (some k) = (xs.take k.toNat).drop j.toNat := by
  unfold cutL HT.sIx
  simp only []
  rw [if_neg (by omega), if_neg (by omega)]
  rw [← List.drop_take]
  rcases Nat.le_total k.toNat xs.length with q | q <;> rcases Nat.le_total j.toNat xs.length with r | r
  · rw [Nat.min_eq_left q, Nat.min_eq_left r]
  · rw [Nat.min_eq_left q, Nat.min_eq_right r, List.drop_eq_nil_of_le (by simp; omega), List.drop_eq_nil_of_le (by simp; omega)]
  · rw [Nat.min_eq_right q, Nat.min_eq_left r, List.take_of_length_le (Nat.le_refl _), List.take_of_length_le q]
  · rw [Nat.min_eq_right q, Nat.min_eq_right r, List.take_of_length_le (Nat.le_refl _), List.take_of_length_le q, List.drop_eq_nil_of_le (Nat.le_refl _), List.drop_eq_nil_of_le r]
theorem map_unD (xs : List D) : (xs.map M.d).map unD = xs := by
  induction xs with
  | nil => rfl
  | cons x xs ih => simp [unD, ih]
theorem all_isD (xs : List D) : (xs.map M.d).all isD = true := by
  induction xs with
  | nil => rfl
  | cons x xs ih => simp [isD]
theorem slM_scr (xs : List D) (lo hi : Option Int) : slM (.d (.scr xs)) lo hi = .ok (.lst ((cutL xs lo hi).map .d)) := by
  simp only [slM, M.seq, all_isD, map_unD, if_true]
theorem slM_lst (xs : List D) (lo hi : Option Int) : slM (.d (.lst xs)) lo hi = .ok (.lst ((cutL xs lo hi).map .d)) := by
  simp only [slM, M.seq, all_isD, map_unD, if_true]
theorem slM_own (xs : List D) (lo hi : Option Int) : slM (.lst (xs.map .d)) lo hi = .ok (.lst ((cutL xs lo hi).map .d)) := by
  simp only [slM, M.seq, all_isD, map_unD, if_true]
theorem fzs_d (xs : List D) : fzs (xs.map .d) = xs := by
  induction xs with
  | nil => rfl
  | cons x xs ih => simp [fzs, fz, ih]
theorem lcl_map {own : List Nat} {g : SG} {c : SB} {f : SE} {env : Env} {α : Type} (dd : α → D) (φ : α → M) : ∀ (xs : List α) (acc : List M),
    (∀ x ∈ xs, ∃ e1 e2 e3, g (.d (dd x)) env = .ok e1 ∧ c e1 = .ok (true, e2) ∧ f e2 = .ok (φ x, e3) ∧ killAll own e3 = env) → lcl own g c f (xs.map dd) acc env = .ok (acc ++ xs.map φ, env)
  | [], acc, _ => by simp [lcl]
  | x :: xs, acc, h => by
    obtain ⟨e1, e2, e3, h1, h2, h3, h4⟩ := h x (by simp)
    simp only [List.map_cons, lcl, h1, h2, h3, h4]
    rw [lcl_map dd φ xs (acc ++ [φ x]) fun y hy => h y (by simp [hy])]
    simp
theorem fl_all {g : SG} {b : SS} {α : Type} (dd : α → D) (I : List α → Env → Prop) (h : ∀ x rest env, I (x :: rest) env → ∃ e1 e2 t, g (.d (dd x)) env = .ok e1 ∧ b e1 = .ok (t, e2) ∧ (t = .nx ∨ t = .ct) ∧ I rest e2) :
    ∀ (xs : List α) (env : Env), I xs env → ∃ e', fl g b (xs.map dd) env = .ok (.nx, e') ∧ I [] e'
  | [], env, i => ⟨env, by simp [fl], i⟩
  | x :: xs, env, i => by
    obtain ⟨e1, e2, t, h1, h2, h3, h4⟩ := h x xs env i
    obtain ⟨e', h5, h6⟩ := fl_all dd I h xs e2 h4
    refine ⟨e', ?_, h6⟩
    rw [List.map_cons]
    unfold fl
    simp only [h1, h2]
    rcases h3 with rfl | rfl
    · exact h5
    · exact h5
end FL
namespace FL
theorem fzs_map_d {α : Type} (f : α → D) (xs : List α) : fzs (xs.map fun x => .d (f x)) = xs.map f := by
  induction xs with
  | nil => rfl
  | cons x xs ih => simp [fzs, fz, ih]
end FL
namespace FL
theorem fzs_comp {α : Type} (f : α → D) (xs : List α) : fzs (xs.map (M.d ∘ f)) = xs.map f := fzs_map_d f xs
end FL

set_option maxHeartbeats 2000000
/-! FLO: lists changed in place. -/
namespace FL
open PySem L2 Classical

theorem RepMs.split {G : Gx} {Z H : Hp} : ∀ {xs ys : List M} {T : Rg} {vs : List V}, RepMs G Z H (xs ++ ys) T vs → ∃ T1 T2 us ws, vs = us ++ ws ∧ (∀ b, T1 b → T b) ∧ (∀ b, T2 b → T b) ∧ (∀ b, T1 b → ¬ T2 b) ∧ RepMs G Z H xs T1 us ∧ RepMs G Z H ys T2 ws
  | [], ys, T, vs, r => ⟨fun _ => False, T, [], vs, rfl, fun _ z => z.elim, fun _ z => z, fun _ z => z.elim, by simp [RepMs], r⟩
  | x :: xs, ys, T, vs, r => by
    simp only [List.cons_append, RepMs] at r
    obtain ⟨v, vr, A, B, rfl, a, b, d, rx, rr⟩ := r
    obtain ⟨T1, T2, us, ws, rfl, t1, t2, d12, r1, r2⟩ := RepMs.split rr
    refine ⟨fun c => A c ∨ T1 c, T2, v :: us, ws, rfl, fun c z => z.elim (a c) fun z => b c (t1 c z), fun c z => b c (t2 c z), fun c z w => z.elim (fun z => d c z (t2 c w)) fun z => d12 c z w, ?_, r2⟩
    simp only [RepMs]
    exact ⟨v, us, A, T1, rfl, fun c z => .inl z, fun c z => .inr z, fun c z w => d c z (t1 c w), rx, r1⟩
theorem RepMs.one {G : Gx} {Z H : Hp} {m : M} {T : Rg} {v : V} (r : RepM G Z H m T v) : RepMs G Z H [m] T [v] := by
  simp only [RepMs]
  exact ⟨v, [], T, fun _ => False, rfl, fun _ z => z, fun _ z => z.elim, fun _ _ z => z, r, rfl⟩
theorem Stp.upd {Z H : Hp} {R : Rg} {a : Addr} {o : HO} (zh : Same Z H) (ra : R a) (za : Z a = none) : Stp Z H R Z (upd H a o) R :=
  ⟨Same.refl _, fun b u e => by rw [upd_ne (fun z => by rw [z, za] at e; cases e)]; exact zh b u e, fun b u e nr => by rw [upd_ne (fun z => nr (by rw [z]; exact ra))]; exact e, fun b q => .inl q, fun b q => .inl q⟩
theorem upd_al {H : Hp} {a b : Addr} {o : HO} (h : H b ≠ none) : upd H a o b ≠ none := by
  by_cases e : b = a
  · subst e; rw [upd_same]; exact fun z => nomatch z
  · rw [upd_ne e]; exact h
theorem upd_al' {H : Hp} {a : Addr} {o : HO} : upd H a o a ≠ none := by rw [upd_same]; exact fun z => nomatch z
/-- the owned list at a is written -/
theorem lst_set {G : Gx} {Z H : Hp} {ms : List M} {vs : List V} {T0 : Rg} {a : Addr} (nT : ¬ T0 a) (r : RepMs G Z H ms T0 vs) : RepM G Z (upd H a (.lst vs)) (.lst ms) (fun b => T0 b ∨ b = a) (.ref a) := by
  simp only [RepM]
  exact ⟨a, vs, T0, rfl, .inr rfl, nT, fun b z => .inl z, upd_same, RepMs.mono (Same.refl _) _ _ _ _ (fun _ z => z) (fun b o sb e => by rw [upd_ne (fun z => nT (by rw [← z]; exact sb))]; exact e) r⟩

abbrev MM := M → List M → Res (M × M)
def MMok (G : Gx) (r : V → List V → Hp → VK → Prop) (op : MM) : Prop := ∀ (Z H : Hp) (m : M) (T : Rg) (v : V) (ms : List M) (Ts : Rg) (vs : List V) (Q : VK), Same Z H → Hld G Z H (fun _ => False) m T v → RepMs G Z H ms Ts vs → (∀ a, Ts a → H a ≠ none) → (∀ a, Ts a → Z a = none) → (∀ a, Ts a → ¬ T a) →
  match op m ms with
  | .ok (x, m') => (∀ u H' T' Tx, Stp Z H (fun a => T a ∨ Ts a) Z H' (fun a => T' a ∨ Tx a) → Hld G Z H' (fun _ => False) m' T' v → Hld G Z H' T' x Tx u → Q u H') → r v vs H Q
  | _ => True
def isLst : M → Bool
  | .lst _ => true
  | _ => false
theorem ty_lst {G : Gx} {Z H : Hp} {m : M} {T : Rg} {v : V} (e : isLst m = true) (r : RepM G Z H m T v) : tyV G.K "list" v H := by
  cases m with
  | lst ms =>
    simp only [RepM] at r
    obtain ⟨a, vs, T0, rfl, _, _, _, h, _⟩ := r
    exact .inl ⟨rfl, vs, SqL.of h⟩
  | _ => simp [isLst] at e
def sMeth (isT : M → Bool) (i : Nat) (op : MM) (fs : SA) : SE := fun env => match getE env i with
  | .ok m0 => if isT m0 = true then (match fs env with
    | .ok (ms, e1) => match getE e1 i with
      | .ok m => match op m ms with
        | .ok (x, m') => .ok (x, e1.set i (some m'))
        | _ => .bad
      | _ => .bad
    | .exc x e => .exc x e
    | .bad => .bad) else .bad
  | _ => .bad
section
variable {G : Gx} {X : Cx} {W : WX'} {fs : SA} {bk : Bk} {e : Expr} {es : List Expr} {r : V → List V → Hp → VK → Prop} {op : MM} {isT : M → Bool} {T id : String} {name x : Str} {p apos cpos : Pos} {i : Nat}
theorem meth_end {Z H : Hp} {σ : St} {env : Env} {S : Rs} {m : M} {ms : List M} {vs : List V} {Ts : Rs} {Q : VK} {R : Rg} {Z0 H0 : Hp} {y m' : M} (hop : MMok G r op) (s0 : Stp Z0 H0 R Z H (fun a => U S a ∨ U Ts a)) (gd : Good G Z H σ env S) (row : Good G Z H (vs.map some) (ms.map some) Ts) (d : ∀ a, U Ts a → ¬ U S a) (e2 : getE env i = .ok m) (eo : op m ms = .ok (y, m'))
    (q : ∀ v Z' H' S' T, Stp Z0 H0 R Z' H' (fun a => U S' a ∨ T a) → Good G Z' H' σ (env.set i (some m')) S' → Hld G Z' H' (U S') y T v → Q v H') : ∀ v, σ[i]? = some (some v) → r v vs H Q := by
  intro v hv
  obtain ⟨v', hv', g1, h1⟩ := gd.take (getE_ok e2)
  have : v' = v := by rw [hv] at hv'; cases hv'; rfl
  subst this
  have h2 := hop Z H m (S i) v' ms (U Ts) vs Q gd.zh ⟨h1.rep, h1.al, h1.zf, fun _ _ z => z⟩ row.row row.al' row.zf' (fun a z w => d a z ⟨i, w⟩)
  rw [eo] at h2
  refine h2 fun u H' T' Tx s1 l1 l2 => ?_
  obtain ⟨g2, d2⟩ := g1.move s1 fun a z w => w.elim (fun w => h1.dj a w z) fun w => d a w (Rs.wipe_le z)
  have g3 := g2.back (i := i) (m := m') (T := T') (v := v') ⟨l1.rep, l1.al, l1.zf, fun a z w => d2 a w (.inl z)⟩ hv
  have e1 : (env.set i none).set i (some m') = env.set i (some m') := List.set_set ..
  rw [e1] at g3
  refine q u Z H' _ Tx ?_ g3 ⟨l2.rep, l2.al, l2.zf, fun a z w => (Rs.set_sub w).elim (fun w => d2 a w (.inr z)) (fun w => l2.dj a z w)⟩
  refine s0.trans (((s1.frame (U (S.set i fun _ => False))).from fun a z => ?_).weak fun a z => ?_)
  · rcases z with (z | z) | z
    · exact .inl ⟨i, z⟩
    · exact .inr z
    · exact .inl (Rs.wipe_le z)
  · rcases z with z | z
    · exact (Rs.set_sub z).elim .inr fun z => .inl (.inl z)
    · exact .inl (.inr z)
theorem xe_meth (i : Nat) (hK : G.K = X.K) (pa : PlainAttrs T) (slot : Slot T name id) (hty : typeOf (.builtin id) = pure (.type "method_descriptor")) (hm : MtR X id r) (hop : MMok G r op) (hT : ∀ {Z H m S v}, isT m = true → RepM G Z H m S v → tyV G.K T v H) (ha : PAs' G X W (e :: es) bk fs)
    (hN : X.N[i]? = some x := by rfl) (hv : Vis X.env.scope x := by first | exact Or.inl rfl | exact Or.inr (Or.inl rfl) | exact Or.inr (Or.inr rfl)) (hd : (x == ("__debug__" : Str)) = false := by decide) (hcd : (x == ("__classdict__" : Str)) = false := by decide)
    (hbase : attributeBase (.Name x p) name X.env (eval (.Name x p) X.env) = eval (.Name x p) X.env := by rfl)
    (hfew : ((backTo cpos (starEach (e :: es) X.env)).all (fun x => !x.1) && (backToKw cpos (keywordEach [] X.env)).all (fun x => x.1.isSome)
      && decide ((e :: es).length + ([] : List Keyword).length + (if ([] : List Keyword).isEmpty then 0 else 1) < 30)) = true := by rfl)
    (hline : (apos.endLine == cpos.line) = true := by rfl) (hs : starEach (e :: es) X.env = (false, eval e X.env) :: starEach es X.env := by rfl) (hplain : (backTo cpos (starEach es X.env)).any (·.1) = false := by rfl) :
    PEs G X W (.Call (.Attribute (.Name x p) name apos) (e :: es) [] cpos) (sMeth isT i op fs) := by
  obtain ⟨t, pt, ha⟩ := ha.ex
  refine ⟨_, pe_bm pa slot hty hm (pe_var hN hv hd hcd) pt hbase hfew hline hs hplain, SEok.mk' fun Z H σ env S Q gd q => ?_⟩
  unfold sMeth at q
  rcases getE_cases env i with ⟨m0, e0⟩ | e0
  case inr => rw [e0] at q; exact q.elim
  rw [e0] at q
  simp only at q
  by_cases ht : isT m0 = true
  case neg => rw [if_neg ht] at q; exact q.elim
  rw [if_pos ht] at q
  obtain ⟨v, hv0, rv⟩ := gd.rep _ _ (getE_ok e0)
  have h1 := ha Z H σ env S (fun xs H2 => r v xs H2 Q) gd
  refine ⟨v, hv0, ?_⟩
  rw [← hK]
  refine ⟨hT ht rv, ?_⟩
  cases e1 : fs env with
  | bad => rw [e1] at q; exact q.elim
  | exc x e' => rw [e1] at q h1; exact h1 q
  | ok pr =>
    obtain ⟨ms, env1⟩ := pr
    rw [e1] at q h1
    simp only at q h1
    rcases getE_cases env1 i with ⟨m, e2⟩ | e2
    case inr => rw [e2] at q; exact q.elim
    rw [e2] at q
    simp only at q
    cases e3 : op m ms with
    | bad => rw [e3] at q; exact q.elim
    | exc x e' => rw [e3] at q; exact q.elim
    | ok pr =>
      obtain ⟨y, m'⟩ := pr
      rw [e3] at q
      exact h1 fun vs Z1 H1 S1 Ts s1 g1 row d kk => meth_end hop s1 g1 row d e2 e3 q v hv0
theorem xe_meth0 (i : Nat) (hK : G.K = X.K) (pa : PlainAttrs T) (slot : Slot T name id) (hty : typeOf (.builtin id) = pure (.type "method_descriptor")) (hm : MtR X id r) (hop : MMok G r op) (hT : ∀ {Z H m S v}, isT m = true → RepM G Z H m S v → tyV G.K T v H)
    (hN : X.N[i]? = some x := by rfl) (hv : Vis X.env.scope x := by first | exact Or.inl rfl | exact Or.inr (Or.inl rfl) | exact Or.inr (Or.inr rfl)) (hd : (x == ("__debug__" : Str)) = false := by decide) (hcd : (x == ("__classdict__" : Str)) = false := by decide)
    (hbase : attributeBase (.Name x p) name X.env (eval (.Name x p) X.env) = eval (.Name x p) X.env := by rfl) (hline : (apos.endLine == cpos.line) = true := by rfl) :
    PEs G X W (.Call (.Attribute (.Name x p) name apos) [] [] cpos) (sMeth isT i op saNil) := by
  refine ⟨_, pe_bm0 pa slot hty hm (pe_var hN hv hd hcd) hbase hline, SEok.mk' fun Z H σ env S Q gd q => ?_⟩
  unfold sMeth at q
  rcases getE_cases env i with ⟨m0, e0⟩ | e0
  case inr => rw [e0] at q; exact q.elim
  rw [e0] at q
  simp only at q
  by_cases ht : isT m0 = true
  case neg => rw [if_neg ht] at q; exact q.elim
  rw [if_pos ht] at q
  obtain ⟨v, hv0, rv⟩ := gd.rep _ _ (getE_ok e0)
  refine ⟨v, hv0, ?_⟩
  rw [← hK]
  refine ⟨hT ht rv, ?_⟩
  simp only [saNil, e0] at q
  cases e3 : op m0 [] with
  | bad => rw [e3] at q; exact q.elim
  | exc x e' => rw [e3] at q; exact q.elim
  | ok pr =>
    obtain ⟨y, m'⟩ := pr
    rw [e3] at q
    exact meth_end (ms := []) (vs := []) (Ts := fun _ _ => False) hop ((Stp.refl gd.zh).weak fun a z => z.elim (fun z => z) fun ⟨_, z⟩ => z.elim) gd ⟨gd.zh, fun i m e => by simp at e, fun i j a h => h.elim, fun i a h => h.elim, fun i a h => h.elim, rfl⟩ (fun a ⟨_, z⟩ => z.elim) e0 e3 q v hv0
end

/-! ### the methods -/
def mAppend : MM := fun m ms => match m, ms with
  | .lst xs, [y] => if xs.length < sizeLine then .ok (.d .non, .lst (xs ++ [y])) else .bad
  | _, _ => .bad
def mExtend : MM := fun m ms => match m, ms with
  | .lst xs, [y] => match lstItems y with
    | some ys => if xs.length + ys.length ≤ sizeLine then .ok (.d .non, .lst (xs ++ ys)) else .bad
    | none => .bad
  | _, _ => .bad
def mPop : MM := fun m ms => match m, ms with
  | .lst xs, [] => match xs.getLast? with
    | some y => .ok (y, .lst xs.dropLast)
    | none => .bad
  | _, _ => .bad
def mClear : MM := fun m ms => match m, ms with
  | .lst _, [] => .ok (.d .non, .lst [])
  | _, _ => .bad
def mInsert : MM := fun m ms => match m, ms with
  | .lst xs, [.d (.int i), y] => if xs.length < sizeLine ∧ 0 ≤ i ∧ i < 2 ^ 63 then .ok (.d .non, .lst (xs.take i.toNat ++ [y] ++ xs.drop i.toNat)) else .bad
  | _, _ => .bad
section
variable {G : Gx}
theorem lst_own {Z H : Hp} {xs : List M} {T : Rg} {v : V} (l : Hld G Z H (fun _ => False) (.lst xs) T v) : ∃ a vs T0, v = .ref a ∧ T a ∧ ¬ T0 a ∧ (∀ b, T0 b → T b) ∧ H a = some (.lst vs) ∧ RepMs G Z H xs T0 vs ∧ Z a = none := by
  have r := l.rep
  simp only [RepM] at r
  obtain ⟨a, vs, T0, rfl, sa, nt, ts, h, rr⟩ := r
  exact ⟨a, vs, T0, rfl, sa, nt, ts, h, rr, l.zf a sa⟩
/-- the list at a becomes ms, made of parts of what there was -/
theorem lst_become {Z H : Hp} {ms : List M} {vs : List V} {T Ts T1 : Rg} {a : Addr} (zh : Same Z H) (sa : T a) (za : Z a = none) (nT : ¬ T1 a) (r : RepMs G Z H ms T1 vs) (sub : ∀ b, T1 b → T b ∨ Ts b) (al : ∀ b, T b → H b ≠ none) (al2 : ∀ b, Ts b → H b ≠ none) (zf : ∀ b, T b → Z b = none) (zf2 : ∀ b, Ts b → Z b = none) {Tx : Rg} (sx : ∀ b, Tx b → T b ∨ Ts b) :
    Stp Z H (fun b => T b ∨ Ts b) Z (upd H a (.lst vs)) (fun b => (T1 b ∨ b = a) ∨ Tx b) ∧ Hld G Z (upd H a (.lst vs)) (fun _ => False) (.lst ms) (fun b => T1 b ∨ b = a) (.ref a) := by
  refine ⟨(Stp.upd zh (.inl sa) za).weak fun b z => ?_, lst_set nT r, fun b z => ?_, fun b z => ?_, fun _ _ z => z⟩
  · rcases z with (z | rfl) | z
    · exact sub b z
    · exact .inl sa
    · exact sx b z
  · rcases z with z | rfl
    · exact upd_al ((sub b z).elim (al b) (al2 b))
    · exact upd_al'
  · rcases z with z | rfl
    · exact (sub b z).elim (zf b) (zf2 b)
    · exact za
theorem mm_append : MMok G rAppend mAppend := fun Z H m T v ms Ts vs Q zh l r al zf dj => by
  unfold mAppend
  split
  · rename_i e
    intro q
    split at e
    · rename_i xs y
      split at e
      · rename_i hl
        cases e
        obtain ⟨a, us, T0, rfl, sa, nt, ts, h, rr, za⟩ := lst_own l
        simp only [RepMs] at r
        obtain ⟨v1, vr, A, B, rfl, ta, tb, dd, ry, rn⟩ := r
        subst rn
        have r2 : RepMs G Z H (xs ++ [y]) (fun b => T0 b ∨ A b) (us ++ [v1]) := RepMs.app rr (RepMs.one ry) (fun _ z => .inl z) (fun _ z => .inr z) (fun b z w => dj b (ta b w) (ts b z))
        refine ⟨a, us, v1, rfl, rfl, h, by rw [← rr.len]; exact hl, ?_⟩
        obtain ⟨s, l2⟩ := lst_become (Ts := Ts) (Tx := fun _ => False) zh sa za (fun z => z.elim nt fun z => dj a (ta a z) sa) r2 (fun b z => z.elim (fun z => .inl (ts b z)) fun z => .inr (ta b z)) l.al al l.zf zf (fun _ z => z.elim)
        exact q .non _ _ (fun _ => False) s l2 (Hld.data (by simp [RepD]))
      · cases e
    · cases e
  · trivial
theorem mm_extend : MMok G rExtend mExtend := fun Z H m T v ms Ts vs Q zh l r al zf dj => by
  unfold mExtend
  split
  · rename_i e
    intro q
    split at e
    · rename_i xs y
      split at e
      · rename_i ys ey
        split at e
        · rename_i hl
          cases e
          obtain ⟨a, us, T0, rfl, sa, nt, ts, h, rr, za⟩ := lst_own l
          simp only [RepMs] at r
          obtain ⟨v1, vr, A, B, rfl, ta, tb, dd, ry, rn⟩ := r
          subst rn
          obtain ⟨b, ws, rfl, hb, r3⟩ := lstItems_rep zh ry ey
          have r2 : RepMs G Z H (xs ++ ys) (fun b => T0 b ∨ A b) (us ++ ws) := RepMs.app rr r3 (fun _ z => .inl z) (fun _ z => .inr z) (fun b z w => dj b (ta b w) (ts b z))
          refine ⟨a, b, us, ws, rfl, rfl, h, hb, by rw [← rr.len, ← r3.len]; exact hl, ?_⟩
          obtain ⟨s, l2⟩ := lst_become (Ts := Ts) (Tx := fun _ => False) zh sa za (fun z => z.elim nt fun z => dj a (ta a z) sa) r2 (fun b z => z.elim (fun z => .inl (ts b z)) fun z => .inr (ta b z)) l.al al l.zf zf (fun _ z => z.elim)
          exact q .non _ _ (fun _ => False) s l2 (Hld.data (by simp [RepD]))
        · cases e
      · cases e
    · cases e
  · trivial
theorem mm_clear : MMok G rClear mClear := fun Z H m T v ms Ts vs Q zh l r al zf dj => by
  unfold mClear
  split
  · rename_i e
    intro q
    split at e
    · rename_i xs
      cases e
      obtain ⟨a, us, T0, rfl, sa, nt, ts, h, rr, za⟩ := lst_own l
      simp only [RepMs] at r
      subst r
      refine ⟨a, us, rfl, rfl, h, ?_⟩
      obtain ⟨s, l2⟩ := lst_become (ms := []) (vs := []) (T1 := fun _ => False) (Ts := Ts) (Tx := fun _ => False) zh sa za (fun z => z) (by simp [RepMs]) (fun b z => z.elim) l.al al l.zf zf (fun _ z => z.elim)
      exact q .non _ _ (fun _ => False) s l2 (Hld.data (by simp [RepD]))
    · cases e
  · trivial
theorem mm_pop : MMok G rPop mPop := fun Z H m T v ms Ts vs Q zh l r al zf dj => by
  unfold mPop
  split
  · rename_i e
    intro q
    split at e
    · rename_i xs
      split at e
      · rename_i y ey
        cases e
        obtain ⟨a, us, T0, rfl, sa, nt, ts, h, rr, za⟩ := lst_own l
        simp only [RepMs] at r
        subst r
        obtain ⟨ys, rfl⟩ := List.getLast?_eq_some_iff.mp ey
        rw [List.dropLast_concat] at q
        obtain ⟨T1, T2, u1, w1, rfl, t1, t2, d12, r1, r2⟩ := rr.split
        simp only [RepMs] at r2
        obtain ⟨v1, vr, A, B, rfl, ta, tb, dd, ry, rn⟩ := r2
        subst rn
        refine ⟨a, u1 ++ [v1], v1, rfl, rfl, h, by simp, ?_⟩
        rw [List.dropLast_concat]
        obtain ⟨s, l2⟩ := lst_become (Ts := Ts) (Tx := A) zh sa za (fun z => nt (t1 a z)) r1 (fun b z => .inl (ts b (t1 b z))) l.al al l.zf zf (fun b z => .inl (ts b (t2 b (ta b z))))
        refine q v1 _ _ A s l2 ⟨RepM.mono (Same.refl _) _ _ _ _ (fun _ z => z) (fun b o sb e => by rw [upd_ne (fun z => nt (by rw [← z]; exact t2 b (ta b sb)))]; exact e) ry, fun b z => upd_al (l.al b (ts b (t2 b (ta b z)))), fun b z => l.zf b (ts b (t2 b (ta b z))), fun b z w => ?_⟩
        rcases w with w | rfl
        · exact d12 b w (ta b z)
        · exact nt (t2 b (ta b z))
      · cases e
    · cases e
  · trivial
def rInsert : V → List V → Hp → VK → Prop := fun x vs H Q => ∃ (l : Addr) (xs : List V) (i : Int) (y : V), x = .ref l ∧ vs = [.int i, y] ∧ H l = some (.lst xs) ∧ xs.length < sizeLine ∧ 0 ≤ i ∧ i < 2 ^ 63 ∧
    Q .non (upd H l (.lst (xs.take i.toNat ++ [y] ++ xs.drop i.toNat)))
theorem RepMs.takeDrop {Z H : Hp} {xs : List M} {T : Rg} {vs : List V} (n : Nat) (r : RepMs G Z H xs T vs) : ∃ T1 T2, (∀ b, T1 b → T b) ∧ (∀ b, T2 b → T b) ∧ (∀ b, T1 b → ¬ T2 b) ∧ RepMs G Z H (xs.take n) T1 (vs.take n) ∧ RepMs G Z H (xs.drop n) T2 (vs.drop n) := by
  have hr := r
  rw [← List.take_append_drop n xs] at hr
  obtain ⟨T1, T2, us, ws, e, t1, t2, d, r1, r2⟩ := hr.split
  have l1 := r1.len
  have l0 := r.len
  have e1 : us = vs.take n := by
    rw [e]
    rw [List.length_take] at l1
    rcases Nat.le_total n xs.length with h | h
    · rw [Nat.min_eq_left h] at l1
      rw [l1, List.take_left]
    · have l2 := r2.len
      rw [List.drop_eq_nil_of_le h] at l2
      have : ws = [] := List.length_eq_zero_iff.mp l2.symm
      subst this
      rw [List.append_nil, List.take_of_length_le (by omega)]
  have e2 : ws = vs.drop n := by
    rw [e]
    rw [List.length_take] at l1
    rcases Nat.le_total n xs.length with h | h
    · rw [Nat.min_eq_left h] at l1
      rw [l1, List.drop_left]
    · have l2 := r2.len
      rw [List.drop_eq_nil_of_le h] at l2
      have : ws = [] := List.length_eq_zero_iff.mp l2.symm
      subst this
      rw [List.append_nil, List.drop_eq_nil_of_le (by omega)]
  subst e1 e2
  exact ⟨T1, T2, t1, t2, d, r1, r2⟩
theorem mm_insert : MMok G rInsert mInsert := fun Z H m T v ms Ts vs Q zh l r al zf dj => by
  unfold mInsert
  split
  · rename_i e
    intro q
    split at e
    · rename_i xs i y
      split at e
      · rename_i hl
        cases e
        obtain ⟨a, us, T0, rfl, sa, nt, ts, h, rr, za⟩ := lst_own l
        simp only [RepMs] at r
        obtain ⟨v0, vr, A0, B0, rfl, ta0, tb0, dd0, ri, v1, vr1, A, B, rfl, ta, tb, dd, ry, rn⟩ := r
        subst rn
        have := rep_int ri
        subst this
        obtain ⟨T1, T2, t1, t2, d12, r1, r2⟩ := rr.takeDrop i.toNat
        have ry' : ∀ b, A b → ¬ T0 b := fun b z w => dj b (tb0 b (ta b z)) (ts b w)
        have r3 : RepMs G Z H (xs.take i.toNat ++ [y] ++ xs.drop i.toNat) (fun b => (T1 b ∨ A b) ∨ T2 b) (us.take i.toNat ++ [v1] ++ us.drop i.toNat) :=
          RepMs.app (RepMs.app r1 (RepMs.one ry) (S := fun b => T1 b ∨ A b) (fun _ z => .inl z) (fun _ z => .inr z) (fun b z w => ry' b w (t1 b z))) r2 (fun _ z => .inl z) (fun _ z => .inr z) (fun b z w => z.elim (fun z => d12 b z w) fun z => ry' b z (t2 b w))
        refine ⟨a, us, i, v1, rfl, rfl, h, by rw [← rr.len]; exact hl.1, hl.2.1, hl.2.2, ?_⟩
        obtain ⟨s, l2⟩ := lst_become (Ts := Ts) (Tx := fun _ => False) zh sa za (fun z => by
          rcases z with (z | z) | z
          · exact nt (t1 a z)
          · exact dj a (tb0 a (ta a z)) sa
          · exact nt (t2 a z)) r3 (fun b z => by
          rcases z with (z | z) | z
          · exact .inl (ts b (t1 b z))
          · exact .inr (tb0 b (ta b z))
          · exact .inl (ts b (t2 b z))) l.al al l.zf zf (fun _ z => z.elim)
        exact q .non _ _ (fun _ => False) s l2 (Hld.data (by simp [RepD]))
      · cases e
    · cases e
  · trivial
end
end FL

set_option maxHeartbeats 2000000
/-! FLP: texts' methods, zip, enumerate, reversed, list(..), tuple(..), xs[i] = e. -/
namespace FL
open PySem L2 Classical

/-! ### a text times a number -/
abbrev MulC (a : Str) (n : Int) : Prop := -1000 ≤ n ∧ n ≤ 1000 ∧ a.length ≤ 1000
theorem MulC.ok {a : Str} {n : Int} (h : MulC a n) : PySem.MulOk a n := by
  obtain ⟨h1, h2, h3⟩ := h
  refine ⟨?_, fun h _ => ?_, fun h _ => ?_⟩
  · rw [decide_eq_false (by omega), decide_eq_false (by omega)]; rfl
  · have : (1000 : Int) ≤ (2 ^ 63 - 1) / n := by
      have h4 : 0 < n := by omega
      have h5 : (2 ^ 63 - 1 : Int) / n ≥ (2 ^ 63 - 1) / 1000 := by
        rw [ge_iff_le, Int.le_ediv_iff_mul_le h4]
        have : (2 ^ 63 - 1 : Int) / 1000 * n ≤ (2 ^ 63 - 1 : Int) / 1000 * 1000 := Int.mul_le_mul_of_nonneg_left h2 (by decide)
        omega
      omega
    omega
  · unfold Builtin.Str.tooLong
    refine decide_eq_false ?_
    have h5 : a.length * n.toNat ≤ 1000 * 1000 := Nat.mul_le_mul h3 (by omega)
    have := sizeLine_eq
    omega
def oMulS : DOp := fun m1 m2 => match m1, m2 with
  | .d (.str a), .d (.int n) => if MulC a n then .ok (.str (PySem.Txt.mul a n)) else .bad
  | _, _ => .bad
def rMulS : R2 := fun x y H Q => ∃ a n, x = .str a ∧ y = .int n ∧ PySem.MulOk a n ∧ Q (.str (PySem.Txt.mul a n)) H
section
variable {G : Gx} {X : Cx}
theorem opr_mulS : OpR X (binaryOp .Mult) rMulS := by
  intro pins s σ H x y v u Q I rx ry h
  obtain ⟨a, n, rfl, rfl, hc, q⟩ := h
  obtain ⟨t, rfl⟩ := rx
  obtain ⟨t', rfl⟩ := ry
  exact PySem.SB.mul hc fun t'' k => ⟨.str _, H, I.tok _, ⟨_, rfl⟩, q⟩
theorem vop_mulS : VOP G rMulS oMulS := fun Z H m1 T1 v1 m2 T2 v2 Q zh r1 r2 => by
  unfold oMulS
  split
  · rename_i e
    intro q
    split at e
    · rename_i a n
      split at e
      · rename_i hc
        cases e
        have := rep_str r1
        have := rep_int r2
        subst_vars
        exact ⟨a, n, rfl, rfl, hc.ok, q _ strD⟩
      · cases e
    · cases e
  · trivial
end

/-! ### methods of texts -/
def BMO (G : Gx) (r : V → List V → Hp → VK → Prop) (op : LOp) : Prop := ∀ (Z H : Hp) (a : Str) (ms : List M) (vs : List V) (Q : VK), Same Z H → RepVs G Z H ms vs →
  match op (.d (.str a) :: ms) with
  | .ok x => (∀ u, RepD G Z x u → Q u H) → r (.str a) vs H Q
  | _ => True
def vSm (op : LOp) (g : VE) (f : VA) : VE := fun env => match g env, f env with
  | .ok (.d (.str a)), .ok ms => match op (.d (.str a) :: ms) with
    | .ok x => .ok (.d x)
    | _ => .bad
  | _, _ => .bad
def sSm (op : LOp) (f : SE) (fs : SA) : SE := fun env => match f env with
  | .ok (.d (.str a), e1) => match fs e1 with
    | .ok (ms, e2) => match op (.d (.str a) :: ms) with
      | .ok x => .ok (.d x, e2)
      | _ => .bad
    | .exc x e => .exc x e
    | .bad => .bad
  | .exc x e => .exc x e
  | _ => .bad
section
variable {G : Gx} {X : Cx} {W : WX'} {o e : Expr} {es : List Expr} {g : VE} {f : VA} {fo : SE} {fs : SA} {bk : Bk} {op : LOp} {r : V → List V → Hp → VK → Prop} {name : Str} {id : String} {apos cpos : Pos}
theorem xv_sm (slot : Slot "str" name id) (hty : typeOf (.builtin id) = pure (.type "method_descriptor")) (hm : MtR X id r) (hb : BMO G r op) (ho : PVs G X o g) (ha : PVAs G X (e :: es) f)
    (hbase : attributeBase o name X.env (eval o X.env) = eval o X.env := by rfl)
    (hfew : ((backTo cpos (starEach (e :: es) X.env)).all (fun x => !x.1) && (backToKw cpos (keywordEach [] X.env)).all (fun x => x.1.isSome)
      && decide ((e :: es).length + ([] : List Keyword).length + (if ([] : List Keyword).isEmpty then 0 else 1) < 30)) = true := by rfl)
    (hline : (apos.endLine == cpos.line) = true := by rfl) (hs : starEach (e :: es) X.env = (false, eval e X.env) :: starEach es X.env := by rfl) (hplain : (backTo cpos (starEach es X.env)).any (·.1) = false := by rfl) :
    PVs G X (.Call (.Attribute o name apos) (e :: es) [] cpos) (vSm op g f) := by
  obtain ⟨to, po, ho⟩ := ho.ex
  obtain ⟨t, pt, ha⟩ := ha.ex
  refine ⟨_, pe_bm F.plainAttrs_str slot hty hm po pt hbase hfew hline hs hplain, fun Z H σ env S Q gd => ?_⟩
  unfold vSm
  have h1 := ho Z H σ env S (fun x H1 => tyV X.K "str" x H1 ∧ t σ H1 fun xs H2 => r x xs H2 Q) gd
  split
  · rename_i m e2
    intro q
    split at e2
    · rename_i a ms e3 e4
      split at e2
      · rename_i x e5
        cases e2
        rw [e3] at h1
        refine h1 fun v T _ rv => ?_
        have := rep_str rv
        subst this
        refine ⟨rfl, ?_⟩
        have h2 := ha Z H σ env S (fun xs H2 => r (.str a) xs H2 Q) gd
        rw [e4] at h2
        refine h2 fun vs rs => ?_
        have h3 := hb Z H a ms vs Q gd.zh rs
        rw [e5] at h3
        exact h3 fun u ru => q u (fun _ => False) (fun _ z => z.elim) ru.toM
      · cases e2
    · cases e2
  · trivial
theorem xe_sm (slot : Slot "str" name id) (hty : typeOf (.builtin id) = pure (.type "method_descriptor")) (hm : MtR X id r) (hb : BMO G r op) (ho : PEs G X W o fo) (ha : PAs' G X W (e :: es) bk fs)
    (hbase : attributeBase o name X.env (eval o X.env) = eval o X.env := by rfl)
    (hfew : ((backTo cpos (starEach (e :: es) X.env)).all (fun x => !x.1) && (backToKw cpos (keywordEach [] X.env)).all (fun x => x.1.isSome)
      && decide ((e :: es).length + ([] : List Keyword).length + (if ([] : List Keyword).isEmpty then 0 else 1) < 30)) = true := by rfl)
    (hline : (apos.endLine == cpos.line) = true := by rfl) (hs : starEach (e :: es) X.env = (false, eval e X.env) :: starEach es X.env := by rfl) (hplain : (backTo cpos (starEach es X.env)).any (·.1) = false := by rfl) :
    PEs G X W (.Call (.Attribute o name apos) (e :: es) [] cpos) (sSm op fo fs) := by
  obtain ⟨to, po, ho⟩ := ho.ex
  obtain ⟨t, pt, ha⟩ := ha.ex
  refine ⟨_, pe_bm F.plainAttrs_str slot hty hm po pt hbase hfew hline hs hplain, SEok.mk' fun Z H σ env S Q gd q => ?_⟩
  unfold sSm at q
  refine ho.use gd ?_
  cases e1 : fo env with
  | bad => rw [e1] at q; exact q.elim
  | exc x e' => rw [e1] at q; exact q
  | ok p =>
    obtain ⟨m, env1⟩ := p
    rw [e1] at q
    cases m with
    | d x =>
      cases x with
      | str a =>
        simp only at q
        intro v Z1 H1 S1 T1 s1 g1 l1
        have := rep_str l1.rep
        subst this
        refine ⟨rfl, ?_⟩
        have s1' : Stp Z H (U S) Z1 H1 (U S1) := s1.weak fun _ z => .inl z
        have h2 := ha Z1 H1 σ env1 S1 (fun xs H2 => r (.str a) xs H2 Q) g1
        cases e2 : fs env1 with
        | bad => rw [e2] at q; exact q.elim
        | exc x e' => rw [e2] at q h2; exact h2 fun cls d Z' H' S' hx s' g' => q cls d Z' H' S' hx (s1'.trans s') g'
        | ok p =>
          obtain ⟨ms, env2⟩ := p
          rw [e2] at q h2
          simp only at q
          refine h2 fun vs Z2 H2 S2 Ts s2 g2 row d kk => ?_
          have h3 := hb Z2 H2 a ms vs Q g2.zh row.row.vs
          cases e5 : op (.d (.str a) :: ms) with
          | ok x =>
            rw [e5] at q h3
            exact h3 fun u ru => q u Z2 H2 S2 (fun _ => False) ((s1'.trans s2).weak fun _ z => .inl (z.elim (fun z => z) fun z => z.elim)) g2 (Hld.data ru)
          | exc _ _ => rw [e5] at q; exact q.elim
          | bad => rw [e5] at q; exact q.elim
      | _ => exact q.elim
    | _ => exact q.elim
end
def bZfill : LOp
  | [.d (.str a), .d (.int i)] => if PadOk i = true then .ok (.str (Txt.zfill a i)) else .bad
  | _ => .bad
theorem bmo_zfill {G : Gx} : BMO G (fun x xs H Q => ∃ (a : Str) (i : Int), x = .str a ∧ xs = [.int i] ∧ PadOk i = true ∧ Q (.str (Txt.zfill a i)) H) bZfill := fun Z H a ms vs Q zh r => by
  unfold bZfill
  split
  · rename_i e
    intro q
    split at e
    · rename_i a' i ee
      injection ee with e1 e2
      injection e1 with e1
      injection e1 with e1
      subst e1 e2
      split at e
      · rename_i hp
        cases e
        cases r with
        | cons h t =>
          cases t
          obtain ⟨T, h⟩ := h
          rw [rep_int h]
          exact ⟨_, i, rfl, rfl, hp, q _ strD⟩
      · cases e
    · cases e
  · trivial

/-! ### what is handed in is frozen -/
theorem row_frozen {G : Gx} {Z H : Hp} {σ : St} {env : Env} {S T : Rs} {ms : List M} {vs : List V} (g : Good G Z H σ env S) (row : Good G Z H (vs.map some) (ms.map some) T) (d : ∀ a, U T a → ¬ U S a) :
    RepDs G (Fzp Z H (U T)) (fzs ms) vs ∧ Good G (Fzp Z H (U T)) H σ env S ∧ Stp Z H (fun a => U S a ∨ U T a) (Fzp Z H (U T)) H (U S) := by
  have sT : Stp Z H (U T) (Fzp Z H (U T)) H (fun _ => False) := ⟨frz_old g.zh, frz_sub g.zh, fun _ _ e _ => e, fun _ z => z.elim, fun a z => by
    by_cases ta : U T a
    · exact .inr (.inl ta)
    · rw [frz_out ta] at z; exact .inl z⟩
  refine ⟨RepMs.frz (frz_old g.zh) _ _ _ (fun a o sa e => by rw [frz_in sa]; exact e) row.row, (g.move sT fun a z w => d a w z).1, ((sT.frame (U S)).from fun a z => z.elim .inr .inl).weak fun a z => .inr z⟩
/-- the items of a list or a tuple -/
def itemsLT : D → Option (Bool × List D)
  | .lst xs => some (false, xs)
  | .scr xs => some (false, xs)
  | .tup xs => some (true, xs)
  | _ => none
theorem itemsLT_rep {G : Gx} {Z H : Hp} {x : D} {v : V} {b : Bool} {xs : List D} (zh : Same Z H) (r : RepD G Z x v) (e : itemsLT x = some (b, xs)) : ∃ a vs, v = .ref a ∧ (b = true → SqT G.K Z a vs) ∧ (b = false → SqL G.K Z a vs) ∧ RepDs G Z xs vs := by
  cases x with
  | lst ys => simp only [itemsLT] at e; cases e; simp only [RepD] at r; obtain ⟨a, vs, rfl, h, rr⟩ := r; exact ⟨a, vs, rfl, fun z => (nomatch z), fun _ => SqL.of h, rr⟩
  | scr ys => simp only [itemsLT] at e; cases e; simp only [RepD] at r; obtain ⟨a, vs, rfl, h, rr⟩ := r; exact ⟨a, vs, rfl, fun z => (nomatch z), fun _ => h, rr⟩
  | tup ys => simp only [itemsLT] at e; cases e; simp only [RepD] at r; obtain ⟨a, vs, rfl, h, rr⟩ := r; exact ⟨a, vs, rfl, fun _ => h, fun z => (nomatch z), rr⟩
  | _ => simp [itemsLT] at e

/-! ### zip, enumerate, reversed -/
def pairD (x y : D) : D := .tup [x, y]
def siZip (fs : SA) : SI := fun env => match fs env with
  | .ok ([m1, m2], e) => match itemsLT (fz m1), itemsLT (fz m2) with
    | some (b1, xs), some (b2, ys) => if b1 = b2 then .ok (List.zipWith pairD xs ys, e) else .bad
    | _, _ => .bad
  | .exc x e => .exc x e
  | _ => .bad
theorem zw_get {α β γ : Type} {f : α → β → γ} : ∀ {xs : List α} {ys : List β} {i : Nat} {d : γ}, (List.zipWith f xs ys)[i]? = some d → ∃ x y, xs[i]? = some x ∧ ys[i]? = some y ∧ d = f x y
  | [], _, i, d, e => by simp at e
  | _ :: _, [], i, d, e => by simp at e
  | x :: xs, y :: ys, 0, d, e => by simp at e; exact ⟨x, y, rfl, rfl, e.symm⟩
  | x :: xs, y :: ys, i + 1, d, e => by
    simp at e
    obtain ⟨a, b, h1, h2, h3⟩ := zw_get (f := f) (xs := xs) (ys := ys) (i := i) (d := d) (by simpa using e)
    exact ⟨a, b, by simpa using h1, by simpa using h2, h3⟩
theorem yields_zip {G : Gx} {Z : Hp} {a b : Addr} {vs ws : List V} {xs ys : List D} (q : ∀ Z1 H1, Same Z Z1 → Same Z1 H1 → SqL G.K H1 a vs) (q2 : ∀ Z1 H1, Same Z Z1 → Same Z1 H1 → SqL G.K H1 b ws) (r : RepDs G Z xs vs) (r2 : RepDs G Z ys ws) :
    Yields G (fun Z1 _ _ => Same Z Z1) (Itz G.K a b) (List.zipWith pairD xs ys) where
  stay := fun Z1 H1 R Z2 H2 R2 h s => h.trans s.z
  stop := fun Z1 H1 R i h zh hl => ⟨vs, ws, q Z1 H1 h zh, q2 Z1 H1 h zh, by
    rw [List.length_zipWith] at hl
    rw [← r.len, ← r2.len]
    omega⟩
  item := fun Z1 H1 R i d h zh e => by
    obtain ⟨x, y, ex, ey, rfl⟩ := zw_get e
    obtain ⟨v, hv, rv⟩ := r.get ex
    obtain ⟨w, hw, rw'⟩ := r2.get ey
    refine ⟨⟨vs, ws, v, w, q Z1 H1 h zh, q2 Z1 H1 h zh, hv, hw⟩, fun u H' hy => ?_⟩
    obtain ⟨T, v', w', rfl, hT, rfl, k1, k2⟩ := hy
    have e1 := k1 vs (q Z1 H1 h zh)
    have e2 := k2 ws (q2 Z1 H1 h zh)
    rw [hv] at e1; cases e1
    rw [hw] at e2; cases e2
    have st := Stp.newZ (o := .tup [v, w]) zh hT (fun _ => False)
    refine ⟨_, st, ?_⟩
    simp only [pairD, RepD, RepDs]
    exact ⟨T, [v, w], rfl, SqT.of upd_same, v, [w], rfl, RepD.mono (h.trans st.z) _ _ rv, w, [], rfl, RepD.mono (h.trans st.z) _ _ rw', rfl⟩
theorem yields_zipT {G : Gx} {Z : Hp} {a b : Addr} {vs ws : List V} {xs ys : List D} (q : ∀ Z1 H1, Same Z Z1 → Same Z1 H1 → SqT G.K H1 a vs) (q2 : ∀ Z1 H1, Same Z Z1 → Same Z1 H1 → SqT G.K H1 b ws) (r : RepDs G Z xs vs) (r2 : RepDs G Z ys ws) :
    Yields G (fun Z1 _ _ => Same Z Z1) (RZ.ItzT G.K a b) (List.zipWith pairD xs ys) where
  stay := fun Z1 H1 R Z2 H2 R2 h s => h.trans s.z
  stop := fun Z1 H1 R i h zh hl => ⟨vs, ws, q Z1 H1 h zh, q2 Z1 H1 h zh, by
    rw [List.length_zipWith] at hl
    rw [← r.len, ← r2.len]
    omega⟩
  item := fun Z1 H1 R i d h zh e => by
    obtain ⟨x, y, ex, ey, rfl⟩ := zw_get e
    obtain ⟨v, hv, rv⟩ := r.get ex
    obtain ⟨w, hw, rw'⟩ := r2.get ey
    refine ⟨⟨vs, ws, v, w, q Z1 H1 h zh, q2 Z1 H1 h zh, hv, hw⟩, fun u H' hy => ?_⟩
    obtain ⟨T, v', w', rfl, hT, rfl, k1, k2⟩ := hy
    have e1 := k1 vs (q Z1 H1 h zh)
    have e2 := k2 ws (q2 Z1 H1 h zh)
    rw [hv] at e1; cases e1
    rw [hw] at e2; cases e2
    have st := Stp.newZ (o := .tup [v, w]) zh hT (fun _ => False)
    refine ⟨_, st, ?_⟩
    simp only [pairD, RepD, RepDs]
    exact ⟨T, [v, w], rfl, SqT.of upd_same, v, [w], rfl, RepD.mono (h.trans st.z) _ _ rv, w, [], rfl, RepD.mono (h.trans st.z) _ _ rw', rfl⟩

section
variable {G : Gx} {X : Cx} {W : WX'} {e e2 : Expr} {elts : List Expr} {kk : Nat} {tpos p pos : Pos} {fs : SA} {bk : Bk} {f : SE} {tg : Expr}
theorem xi_zip (hK : G.K = X.K) (hm : X.mg "zip" = none) (ha : PAs' G X W [e, e2] bk fs) (hg : Gl X "zip" := by rfl) (hs : starEach [e, e2] X.env = (false, eval e X.env) :: starEach [e2] X.env := by rfl) (hpl : (backTo pos (starEach [e2] X.env)).any (·.1) = false := by rfl) :
    PIs G X W (.Tuple elts kk tpos) (.Call (.Name "zip" p) [e, e2] [] pos) (siZip fs) := by
  obtain ⟨t, q, h⟩ := ha.ex
  have p1 : PI X (.Tuple elts kk tpos) (.Call (.Name "zip" p) [e, e2] [] pos) (RZ.iZipA G.K t) := by rw [hK]; exact RZ.pi_zipA hg hm q hs hpl
  refine ⟨_, p1, fun Z H σ env S R gd => ?_⟩
  unfold siZip
  have h1 := h Z H σ env S (fun vs H1 => ∃ a b xs ys, vs = [V.ref a, V.ref b] ∧ ((SqL G.K H1 a xs ∧ SqL G.K H1 b ys ∧ R (Itz G.K a b) H1) ∨ (SqT G.K H1 a xs ∧ SqT G.K H1 b ys ∧ R (RZ.ItzT G.K a b) H1))) gd
  cases e1 : fs env with
  | bad => trivial
  | exc x e' => rw [e1] at h1; exact h1
  | ok pr =>
    obtain ⟨ms, env1⟩ := pr
    rw [e1] at h1
    match ms with
    | [] => trivial
    | [_] => trivial
    | _ :: _ :: _ :: _ => trivial
    | [m1, m2] =>
      simp only
      cases e3 : itemsLT (fz m1) with
      | none => trivial
      | some q1 =>
        obtain ⟨b1, xs⟩ := q1
        cases e4 : itemsLT (fz m2) with
        | none => trivial
        | some q2 =>
          obtain ⟨b2, ys⟩ := q2
          simp only
          by_cases hb : b1 = b2
          case neg => rw [if_neg hb]; trivial
          rw [if_pos hb]
          subst hb
          intro k
          refine h1 fun vs Z' H' S' T s' g' row d kk => ?_
          obtain ⟨rd, g2, s2⟩ := row_frozen g' row d
          simp only [fzs, RepDs] at rd
          obtain ⟨v1, r1, rfl, q1, v2, r2, rfl, q2, rfl⟩ := rd
          obtain ⟨a, us, rfl, t1, l1, rr1⟩ := itemsLT_rep g2.zh q1 e3
          obtain ⟨b, ws, rfl, t2, l2, rr2⟩ := itemsLT_rep g2.zh q2 e4
          refine ⟨a, b, us, ws, rfl, ?_⟩
          cases b1 with
          | false => exact .inl ⟨g2.zh.seq (l1 rfl), g2.zh.seq (l2 rfl), k _ _ H' S' (s'.trans s2) g2 (yields_zip (fun Z1 H1 h1 h2 => h2.seq (h1.seq (l1 rfl))) (fun Z1 H1 h1 h2 => h2.seq (h1.seq (l2 rfl))) rr1 rr2)⟩
          | true => exact .inr ⟨Same.seqT g2.zh (t1 rfl), Same.seqT g2.zh (t2 rfl), k _ _ H' S' (s'.trans s2) g2 (yields_zipT (fun Z1 H1 h1 h2 => Same.seqT h2 (Same.seqT h1 (t1 rfl))) (fun Z1 H1 h1 h2 => Same.seqT h2 (Same.seqT h1 (t2 rfl))) rr1 rr2)⟩
def enumD : Nat → List D → List D
  | _, [] => []
  | n, x :: xs => .tup [.int (n : Int), x] :: enumD (n + 1) xs
theorem enum_len : ∀ (n : Nat) (xs : List D), (enumD n xs).length = xs.length
  | _, [] => rfl
  | n, x :: xs => by simp [enumD, enum_len (n + 1) xs]
theorem enum_get : ∀ {n : Nat} {xs : List D} {i : Nat} {d : D}, (enumD n xs)[i]? = some d → ∃ x, xs[i]? = some x ∧ d = .tup [.int ((n + i : Nat) : Int), x]
  | n, [], i, d, e => by simp [enumD] at e
  | n, x :: xs, 0, d, e => by simp [enumD] at e; exact ⟨x, rfl, e.symm⟩
  | n, x :: xs, i + 1, d, e => by
    obtain ⟨y, h1, h2⟩ := enum_get (n := n + 1) (xs := xs) (i := i) (d := d) (by simpa [enumD] using e)
    exact ⟨y, by simpa using h1, by rw [h2]; congr 3; omega⟩
def siEnum (fs : SA) : SI := fun env => match fs env with
  | .ok ([m], e) => match itemsLT (fz m) with
    | some (false, xs) => .ok (enumD 0 xs, e)
    | _ => .bad
  | .exc x e => .exc x e
  | _ => .bad
theorem xi_enum (hK : G.K = X.K) (hm : X.mg "enumerate" = none) (ha : PAs' G X W [e] bk fs) (hg : Gl X "enumerate" := by rfl) (hs : starEach [e] X.env = [(false, eval e X.env)] := by rfl) :
    PIs G X W (.Tuple elts kk tpos) (.Call (.Name "enumerate" p) [e] [] pos) (siEnum fs) := by
  obtain ⟨t, q, h⟩ := ha.ex
  have p1 : PI X (.Tuple elts kk tpos) (.Call (.Name "enumerate" p) [e] [] pos) (iEnum G.K t) := by rw [hK]; exact pi_enum hg hm q hs
  refine ⟨_, p1, fun Z H σ env S R gd => ?_⟩
  unfold siEnum
  have h1 := h Z H σ env S (fun vs H1 => ∃ a xs, vs = [V.ref a] ∧ SqL G.K H1 a xs ∧ R (Ite G.K a) H1) gd
  cases e1 : fs env with
  | bad => trivial
  | exc x e' => rw [e1] at h1; exact h1
  | ok pr =>
    obtain ⟨ms, env1⟩ := pr
    rw [e1] at h1
    match ms with
    | [] => trivial
    | _ :: _ :: _ => trivial
    | [m1] =>
      simp only
      cases e3 : itemsLT (fz m1) with
      | none => trivial
      | some q1 =>
        obtain ⟨b1, xs⟩ := q1
        cases b1 with
        | true => trivial
        | false =>
          intro k
          refine h1 fun vs Z' H' S' T s' g' row d kk => ?_
          obtain ⟨rd, g2, s2⟩ := row_frozen g' row d
          simp only [fzs, RepDs] at rd
          obtain ⟨v1, r1, rfl, q1, rfl⟩ := rd
          obtain ⟨a, us, rfl, t1, l1, rr1⟩ := itemsLT_rep g2.zh q1 e3
          refine ⟨a, us, rfl, g2.zh.seq (l1 rfl), k _ _ H' S' (s'.trans s2) g2 ⟨fun Z1 H1 R Z2 H2 R2 h s => h.trans s.z, fun Z1 H1 R i h zh hl => ⟨us, zh.seq (h.seq (l1 rfl)), by rw [enum_len] at hl; rw [← rr1.len]; exact hl⟩, fun Z1 H1 R i d h zh ee => ?_⟩⟩
          obtain ⟨y, ey, rfl⟩ := enum_get ee
          obtain ⟨v, hv, rv⟩ := rr1.get ey
          refine ⟨⟨us, v, zh.seq (h.seq (l1 rfl)), hv⟩, fun u H2 hy => ?_⟩
          obtain ⟨T, v', rfl, hT, rfl, k1⟩ := hy
          have e1 := k1 us (zh.seq (h.seq (l1 rfl)))
          rw [hv] at e1; cases e1
          have st := Stp.newZ (o := .tup [.int (i : Nat), v]) zh hT (fun _ => False)
          refine ⟨_, st, ?_⟩
          simp only [RepD, RepDs, Nat.zero_add]
          exact ⟨T, [.int (i : Nat), v], rfl, SqT.of upd_same, _, [v], rfl, rfl, v, [], rfl, RepD.mono (h.trans st.z) _ _ rv, rfl⟩
def siRev (f : SE) : SI := fun env => match f env with
  | .ok (m, e) => match itemsLT (fz m) with
    | some (_, xs) => .ok (xs.reverse, e)
    | none => .bad
  | .exc x e => .exc x e
  | .bad => .bad
theorem rev_get {α : Type} {xs : List α} {i : Nat} {d : α} (e : xs.reverse[i]? = some d) : i < xs.length ∧ xs[xs.length - 1 - i]? = some d := by
  have hi : i < xs.length := by
    have := (List.getElem?_eq_some_iff.mp e).1
    simpa using this
  rw [List.getElem?_reverse hi] at e
  exact ⟨hi, e⟩
theorem xi_rev (hK : G.K = X.K) (hm : X.mg "reversed" = none) (ha : PEs G X W e f) (hg : Gl X "reversed" := by rfl) (hs : starEach [e] X.env = (false, eval e X.env) :: starEach [] X.env := by rfl) :
    PIs G X W tg (.Call (.Name "reversed" p) [e] [] pos) (siRev f) := by
  obtain ⟨t, q, h⟩ := ha.ex
  have p1 : PI X tg (.Call (.Name "reversed" p) [e] [] pos) (RT.iRevA G.K t) := by rw [hK]; exact RT.pi_revA hg hm q hs
  refine ⟨_, p1, fun Z H σ env S R gd => ?_⟩
  unfold siRev
  cases e1 : f env with
  | bad => trivial
  | exc x e' => exact fun k => h.use gd (by rw [e1]; exact k)
  | ok pr =>
    obtain ⟨m, env1⟩ := pr
    simp only
    cases e3 : itemsLT (fz m) with
    | none => trivial
    | some q1 =>
      obtain ⟨b1, xs⟩ := q1
      intro k
      refine h.use gd ?_
      rw [e1]
      intro v Z' H' S' T s' g' l
      obtain ⟨rz, sz⟩ := l.frozen g'.zh
      have sT : Stp Z' H' T (Fzp Z' H' T) H' T := ⟨sz.z, sz.zh, fun _ _ e _ => e, fun _ z => .inl z, fun a z => by
        by_cases ta : T a
        · exact .inr (.inl ta)
        · rw [frz_out ta] at z; exact .inl z⟩
      have g2 := (g'.move sT fun a z w => l.dj a w z).1
      obtain ⟨a, us, rfl, t1, l1, rr⟩ := itemsLT_rep g2.zh rz e3
      refine ⟨a, us, rfl, ?_⟩
      cases b1 with
      | false =>
        refine .inl ⟨g2.zh.seq (l1 rfl), k _ _ H' S' (s'.trans (sz.weak fun _ z => z)) g2 ⟨fun Z1 H1 R Z2 H2 R2 h s => h.trans s.z, fun Z1 H1 R i h zh hl => by show us.length ≤ i; rw [← rr.len]; simpa using hl, fun Z1 H1 R i d h zh ee => ?_⟩⟩
        obtain ⟨hi, ed⟩ := rev_get ee
        obtain ⟨v, hv, rv⟩ := rr.get ed
        rw [rr.len] at hv hi
        refine ⟨⟨hi, us, v, zh.seq (h.seq (l1 rfl)), hv⟩, fun u H2 hy => ?_⟩
        obtain ⟨rfl, k1⟩ := hy
        have e1 := k1 us (zh.seq (h.seq (l1 rfl)))
        rw [hv] at e1; cases e1
        exact ⟨Z1, Stp.refl zh, RepD.mono h _ _ rv⟩
      | true =>
        refine .inr ⟨Same.seqT g2.zh (t1 rfl), k _ _ H' S' (s'.trans (sz.weak fun _ z => z)) g2 ⟨fun Z1 H1 R Z2 H2 R2 h s => h.trans s.z, fun Z1 H1 R i h zh hl => by show us.length ≤ i; rw [← rr.len]; simpa using hl, fun Z1 H1 R i d h zh ee => ?_⟩⟩
        obtain ⟨hi, ed⟩ := rev_get ee
        obtain ⟨v, hv, rv⟩ := rr.get ed
        rw [rr.len] at hv hi
        refine ⟨⟨hi, us, v, Same.seqT zh (Same.seqT h (t1 rfl)), hv⟩, fun u H2 hy => ?_⟩
        obtain ⟨rfl, k1⟩ := hy
        have e1 := k1 us (Same.seqT zh (Same.seqT h (t1 rfl)))
        rw [hv] at e1; cases e1
        exact ⟨Z1, Stp.refl zh, RepD.mono h _ _ rv⟩

/-! ### list(..), tuple(..) -/
def sListOf (f : SE) : SE := fun env => match f env with
  | .ok (m, e) => match itemsLT (fz m) with
    | some (_, xs) => .ok (.lst (xs.map .d), e)
    | none => .bad
  | .exc x e => .exc x e
  | .bad => .bad
def sTupOf (f : SE) : SE := fun env => match f env with
  | .ok (m, e) => match itemsLT (fz m) with
    | some (_, xs) => .ok (.d (.tup xs), e)
    | none => .bad
  | .exc x e => .exc x e
  | .bad => .bad
theorem xe_listOf (hK : G.K = X.K) (hm : X.mg "list" = none) (ha : PEs G X W e f) (hv : bootBuiltins "list" = some (.type "list") := by decide +kernel) (hg : Gl X "list" := by rfl) (hst : starEach [e] X.env = (false, eval e X.env) :: starEach [] X.env := by rfl) (hpl : (backTo pos (starEach [] X.env)).any (·.1) = false := by rfl) :
    PEs G X W (.Call (.Name "list" p) [e] [] pos) (sListOf f) := by
  obtain ⟨t, q, h⟩ := ha.ex
  refine ⟨_, pe_callTy call_list_of hg hm hv (pa_cons q pa_nil hst) (by decide) (by decide) hst hpl, SEok.mk' fun Z H σ env S Q gd k => ?_⟩
  unfold sListOf at k
  refine h.use gd ?_
  cases e1 : f env with
  | bad => rw [e1] at k; exact k.elim
  | exc x e' => rw [e1] at k; exact k
  | ok pr =>
    obtain ⟨m, env1⟩ := pr
    rw [e1] at k
    simp only at k
    cases e3 : itemsLT (fz m) with
    | none => rw [e3] at k; exact k.elim
    | some q1 =>
      obtain ⟨b1, xs⟩ := q1
      rw [e3] at k
      intro v Z' H' S' T s' g' l
      obtain ⟨rz, sz⟩ := l.frozen g'.zh
      have sT : Stp Z' H' T (Fzp Z' H' T) H' T := ⟨sz.z, sz.zh, fun _ _ e _ => e, fun _ z => .inl z, fun a z => by
        by_cases ta : T a
        · exact .inr (.inl ta)
        · rw [frz_out ta] at z; exact .inl z⟩
      have g2 := (g'.move sT fun a z w => l.dj a w z).1
      obtain ⟨a, us, rfl, t1, l1, rr⟩ := itemsLT_rep g2.zh rz e3
      have hq : SqL X.K H' a us ∨ SqT X.K H' a us := by
        rw [← hK]
        cases b1 with
        | false => exact .inl (g2.zh.seq (l1 rfl))
        | true => exact .inr (Same.seqT g2.zh (t1 rfl))
      refine ⟨a, us, rfl, hq, fun p hp => ?_⟩
      have pS : ¬ U S' p := fun z => g2.al' p z hp
      have st := Stp.new (o := .lst us) g2.zh hp (U S')
      exact k (.ref p) _ _ S' (fun a => a = p) (s'.trans (sz.trans st)) (g2.move (Stp.new (o := .lst us) g2.zh hp (fun _ => False)) fun _ _ z => z).1 (lst_newD g2.zh rr hp pS)
theorem xe_tupOf (hK : G.K = X.K) (hm : X.mg "tuple" = none) (ha : PEs G X W e f) (hv : bootBuiltins "tuple" = some (.type "tuple") := by decide +kernel) (hg : Gl X "tuple" := by rfl) (hst : starEach [e] X.env = (false, eval e X.env) :: starEach [] X.env := by rfl) (hpl : (backTo pos (starEach [] X.env)).any (·.1) = false := by rfl) :
    PEs G X W (.Call (.Name "tuple" p) [e] [] pos) (sTupOf f) := by
  obtain ⟨t, q, h⟩ := ha.ex
  refine ⟨_, pe_callTy call_tuple_of hg hm hv (pa_cons q pa_nil hst) (by decide) (by decide) hst hpl, SEok.mk' fun Z H σ env S Q gd k => ?_⟩
  unfold sTupOf at k
  refine h.use gd ?_
  cases e1 : f env with
  | bad => rw [e1] at k; exact k.elim
  | exc x e' => rw [e1] at k; exact k
  | ok pr =>
    obtain ⟨m, env1⟩ := pr
    rw [e1] at k
    simp only at k
    cases e3 : itemsLT (fz m) with
    | none => rw [e3] at k; exact k.elim
    | some q1 =>
      obtain ⟨b1, xs⟩ := q1
      rw [e3] at k
      intro v Z' H' S' T s' g' l
      obtain ⟨rz, sz⟩ := l.frozen g'.zh
      have sT : Stp Z' H' T (Fzp Z' H' T) H' T := ⟨sz.z, sz.zh, fun _ _ e _ => e, fun _ z => .inl z, fun a z => by
        by_cases ta : T a
        · exact .inr (.inl ta)
        · rw [frz_out ta] at z; exact .inl z⟩
      have g2 := (g'.move sT fun a z w => l.dj a w z).1
      obtain ⟨a, us, rfl, t1, l1, rr⟩ := itemsLT_rep g2.zh rz e3
      refine ⟨a, us, rfl, ?_⟩
      cases b1 with
      | false =>
        refine .inl ⟨by rw [← hK]; exact g2.zh.seq (l1 rfl), fun p hp => ?_⟩
        have st := Stp.newZ (o := .tup us) g2.zh hp (U S')
        refine k (.ref p) _ _ S' (fun _ => False) ((s'.trans (sz.trans st)).weak fun _ z => z.elim (fun z => z) fun z => z.elim) (g2.move (Stp.newZ (o := .tup us) g2.zh hp (fun _ => False)) fun _ _ z => z).1 (Hld.data ?_)
        simp only [RepD]
        exact ⟨p, us, rfl, SqT.of upd_same, RepDs.mono st.z _ _ rr⟩
      | true =>
        refine .inr ⟨by rw [← hK]; exact Same.seqT g2.zh (t1 rfl), ?_⟩
        refine k (.ref a) _ _ S' (fun _ => False) ((s'.trans sz).weak fun _ z => z.elim (fun z => z) fun z => z.elim) g2 (Hld.data ?_)
        simp only [RepD]
        exact ⟨a, us, rfl, t1 rfl, rr⟩
end

/-! ### xs[i] = e -/
theorem RepMs.set {G : Gx} {Z H : Hp} : ∀ {xs : List M} {T A : Rg} {vs : List V} {y : M} {v : V} (j : Nat), RepMs G Z H xs T vs → RepM G Z H y A v → (∀ b, A b → ¬ T b) → RepMs G Z H (xs.set j y) (fun b => T b ∨ A b) (vs.set j v)
  | [], T, A, vs, y, v, j, r, ry, d => by simp only [RepMs] at r; subst r; simp [RepMs]
  | x :: xs, T, A, vs, y, v, 0, r, ry, d => by
    simp only [RepMs] at r
    obtain ⟨v0, vr, T1, T2, rfl, t1, t2, d12, rx, rr⟩ := r
    simp only [List.set_cons_zero, RepMs]
    exact ⟨v, vr, A, T2, rfl, fun b z => .inr z, fun b z => .inl (t2 b z), fun b z w => d b z (t2 b w), ry, rr⟩
  | x :: xs, T, A, vs, y, v, j + 1, r, ry, d => by
    simp only [RepMs] at r
    obtain ⟨v0, vr, T1, T2, rfl, t1, t2, d12, rx, rr⟩ := r
    simp only [List.set_cons_succ, RepMs]
    exact ⟨v0, vr.set j v, T1, fun b => T2 b ∨ A b, rfl, fun b z => .inl (t1 b z), fun b z => z.elim (fun z => .inl (t2 b z)) .inr, fun b z w => w.elim (d12 b z) fun w => d b w (t1 b z), rx, RepMs.set j rr ry fun b z w => d b z (t2 b w)⟩
def ssSetI (i : Nat) (gi : VE) (f : SE) : SS := fun env => match f env with
  | .ok (m, e) => match getE e i, gi e with
    | .ok (.lst xs), .ok (.d (.int k)) => match ixN xs.length k with
      | some j => .ok (.nx, e.set i (some (.lst (xs.set j m))))
      | none => .bad
    | _, _ => .bad
  | .exc x e => .exc x e
  | .bad => .bad
theorem xs_setI {G : Gx} {X : Cx} {W : WX'} {P : Px} {x : Str} {ie e : Expr} {gi : VE} {f : SE} {p ps pos : Pos} (i : Nat) (hi : PVs G X ie gi) (he : PEs G X W e f)
    (hN : X.N[i]? = some x := by rfl) (hv : Vis X.env.scope x := by first | exact Or.inl rfl | exact Or.inr (Or.inl rfl) | exact Or.inr (Or.inr rfl)) (hd : (x == ("__debug__" : Str)) = false := by decide) (hcd : (x == ("__classdict__" : Str)) = false := by decide)
    (ha : ∀ v, assign (.Subscript (.Name x p) ie ps) X.env v = (do
      let ov ← holding [v] (eval (.Name x p) X.env)
      let iv ← holding [v, ov] (eval ie X.env)
      standAt ps
      holding [v, ov, iv] (setItem ov iv v)
      release [v, ov, iv] []) := by intro _; rfl)
    (hs : swapsWithSole [.Subscript (.Name x p) ie ps] e pos.line X.env = pure false := by rfl) (hw : swappedStores [.Subscript (.Name x p) ie ps] e X.env = pure none := by rfl)
    (h1 : (assignEach [.Subscript (.Name x p) ie ps] X.env).map (·.2) = [assign (.Subscript (.Name x p) ie ps) X.env] := by rfl) :
    PS' G X W P (.Assign [.Subscript (.Name x p) ie ps] e pos) (ssSetI i gi f) := by
  obtain ⟨t, q, h⟩ := he.ex
  obtain ⟨ti, qi, hi⟩ := hi.ex
  refine ⟨_, ps_asg q (pg_sub (pe_var hN hv hd hcd) qi set_list ha) hs hw h1, fun D Z H σ env S gd k => ?_⟩
  unfold ssSetI at k
  refine h.use gd ?_
  cases e1 : f env with
  | bad => rw [e1] at k; exact k.elim
  | exc x' e' => rw [e1] at k; exact fun cls d Z' H' S' hx s' g' => k cls d σ Z' H' S' hx Fix.refl s' g'
  | ok pr =>
    obtain ⟨m, env1⟩ := pr
    rw [e1] at k
    simp only at k
    intro v Z' H' S' T s' g' l
    rcases getE_cases env1 i with ⟨mx, e2⟩ | e2
    case inr => rw [e2] at k; exact k.elim
    rw [e2] at k
    cases mx with
    | lst xs =>
      cases e3 : gi env1 with
      | ok mi =>
        rw [e3] at k
        cases mi with
        | d di =>
          cases di with
          | int kk =>
            simp only at k
            cases e4 : ixN xs.length kk with
            | none => rw [e4] at k; exact k.elim
            | some j =>
              rw [e4] at k
              obtain ⟨w, hw, g1, l1⟩ := g'.take (getE_ok e2)
              refine ⟨w, hw, ?_⟩
              have h2 := hi Z' H' σ env1 S' (fun iv H2 => rSetL w iv v H2 fun H3 => D.nx σ H3) g'
              rw [e3] at h2
              refine h2 fun iv _ _ ri => ?_
              have := rep_int ri
              subst this
              obtain ⟨a, us, T0, rfl, sa, nt, ts, ho, rr, za⟩ := lst_own (G := G) (v := w) ⟨l1.rep, l1.al, l1.zf, fun _ _ z => z⟩
              have d0 : ∀ b, T b → ¬ S' i b := fun b z w => l.dj b z ⟨i, w⟩
              have r2 : RepMs G Z' H' (xs.set j m) (fun b => T0 b ∨ T b) (us.set j v) := RepMs.set j rr l.rep fun b z w => d0 b z (ts b w)
              refine ⟨a, us, kk, j, rfl, rfl, ho, by rw [← rr.len]; exact e4, ?_⟩
              obtain ⟨s, l2⟩ := lst_become (Ts := T) (Tx := fun _ => False) g'.zh sa za (fun z => z.elim nt fun z => d0 a z sa) r2 (fun b z => z.elim (fun z => .inl (ts b z)) .inr) l1.al l.al l1.zf l.zf (fun _ z => z.elim)
              obtain ⟨g2, d2⟩ := g1.move s fun b z w => w.elim (fun w => l1.dj b w z) fun w => l.dj b w (Rs.wipe_le z)
              have g3 := g2.back (i := i) (m := .lst (xs.set j m)) (v := .ref a) ⟨l2.rep, l2.al, l2.zf, fun b z w => d2 b w (.inl z)⟩ hw
              rw [show (env1.set i none).set i (some (M.lst (xs.set j m))) = env1.set i (some (.lst (xs.set j m))) from List.set_set ..] at g3
              refine k σ Z' _ _ Fix.refl (s'.trans (((s.frame (U (S'.set i fun _ => False))).from fun b z => ?_).weak fun b z => ?_)) g3
              · rcases z with (z | z) | z
                · exact .inl ⟨i, z⟩
                · exact .inr z
                · exact .inl (Rs.wipe_le z)
              · exact (Rs.set_sub z).elim .inr fun z => .inl (.inl z)
          | _ => exact k.elim
        | _ => exact k.elim
      | exc _ _ => rw [e3] at k; exact k.elim
      | bad => rw [e3] at k; exact k.elim
    | _ => exact k.elim
end FL

set_option maxHeartbeats 2000000
/-! FLQ: loops over lists that stay their name's own. -/
namespace FL
open PySem L2 Classical

def putB (i : Nat) (m : M) : Res (Fl × Env) → Res (Fl × Env)
  | .ok (f, e) => .ok (f, e.set i (some m))
  | .exc x e => .exc x (e.set i (some m))
  | .bad => .bad
theorem SPost.lend {G : Gx} {W : WX'} {P : Px} {D : Ends} {Z H : Hp} {R R0 : Rg} {σ : St} {i : Nat} {m : M} {T : Rg} {v : V} {r : Res (Fl × Env)} (l : Hld G Z H R0 m T v) (hv : σ[i]? = some (some v)) (sub : ∀ a, R0 a ∨ T a → R a)
    (p : SPost G W P D Z H R σ (putB i m r)) : SPost G W (fun k => P k ∨ k = i) D Z H R0 σ r := by
  have fx : ∀ {σ' : St}, Fix (fun k => P k ∨ k = i) σ σ' → Fix P σ σ' ∧ σ'[i]? = some (some v) := fun f => ⟨⟨fun j hj => f.1 j (.inl hj), f.2⟩, by rw [f.1 i (.inr rfl)]; exact hv⟩
  have sub1 : ∀ {S' : Rs} {a : Addr}, U (S'.set i T) a → U S' a ∨ T a := fun z => Rs.set_sub z
  have bk : ∀ {σ' : St} {Z' H' : Hp} {S' : Rs} {e : Env}, σ'[i]? = some (some v) → Stp Z H R0 Z' H' (U S') → Good G Z' H' σ' e S' → Good G Z' H' σ' (e.set i (some m)) (S'.set i T) := fun h1 h2 h3 => h3.back (l.step h2) h1
  have st : ∀ {Z' H' : Hp} {S' : Rs}, Stp Z H R0 Z' H' (U S') → Stp Z H R Z' H' (U (S'.set i T)) := fun h => ((h.frame T).from sub).weak fun a z => sub1 z
  cases r with
  | bad => exact p.elim
  | exc x e =>
    intro cls d σ' Z' H' S' hx f s g
    obtain ⟨f1, f2⟩ := fx f
    exact p cls d σ' Z' H' _ hx f1 (st s) (bk f2 s g)
  | ok q =>
    obtain ⟨fl', e⟩ := q
    cases fl' with
    | nx => intro σ' Z' H' S' f s g; obtain ⟨f1, f2⟩ := fx f; exact p σ' Z' H' _ f1 (st s) (bk f2 s g)
    | brk => intro σ' Z' H' S' f s g; obtain ⟨f1, f2⟩ := fx f; exact p σ' Z' H' _ f1 (st s) (bk f2 s g)
    | ct => intro σ' Z' H' S' f s g; obtain ⟨f1, f2⟩ := fx f; exact p σ' Z' H' _ f1 (st s) (bk f2 s g)
    | ret x =>
      intro u σ' Z' H' S' Tr f s g h
      obtain ⟨f1, f2⟩ := fx f
      have sw : Stp Z H R0 Z' H' (U S') := s.weak fun a z => .inl z
      have dT : ∀ a, Tr a → ¬ T a := fun a z w => (s.rg a (.inr z)).elim (fun q => l.dj a w q) fun q => l.al a w q
      refine p u σ' Z' H' _ Tr f1 (((s.frame T).from sub).weak fun a z => ?_) (bk f2 sw g) ⟨h.rep, h.al, h.zf, fun a z w => (sub1 w).elim (h.dj a z) (dT a z)⟩
      rcases z with z | z
      · exact (sub1 z).elim (fun z => .inl (.inl z)) .inr
      · exact .inl (.inr z)
/-- the items, all frozen, of a list or a tuple that stays -/
def brw : M → Option (Bool × List D)
  | .d x => itemsLT x
  | .lst ms => if ms.all isD = true then some (false, ms.map unD) else none
  | _ => none
theorem brw_rep {G : Gx} {Z H : Hp} {m : M} {T : Rg} {v : V} {b : Bool} {xs : List D} (zh : Same Z H) (r : RepM G Z H m T v) (e : brw m = some (b, xs)) :
    ∃ a vs, v = .ref a ∧ RepDs G Z xs vs ∧ ∀ Z1 H1, Same Z Z1 → Same Z1 H1 → (∀ c o, T c → H c = some o → H1 c = some o) → (b = true → SqT G.K H1 a vs) ∧ (b = false → SqL G.K H1 a vs) := by
  cases m with
  | d x =>
    simp only [RepM] at r
    obtain ⟨a, vs, rfl, t, l, rr⟩ := itemsLT_rep zh r e
    exact ⟨a, vs, rfl, rr, fun Z1 H1 h1 h2 _ => ⟨fun q => Same.seqT h2 (Same.seqT h1 (t q)), fun q => h2.seq (h1.seq (l q))⟩⟩
  | lst ms =>
    simp only [brw] at e
    split at e
    · rename_i hd
      cases e
      simp only [RepM] at r
      obtain ⟨a, vs, T0, rfl, sa, nt, ts, h, rr⟩ := r
      exact ⟨a, vs, rfl, allD_rep rr hd, fun Z1 H1 h1 h2 k => ⟨fun q => (nomatch q), fun _ => SqL.of (k a _ sa h)⟩⟩
    · cases e
  | _ => simp [brw] at e
def ssForB (i : Nat) (g : SG) (b : SS) : SS := fun env => match getE env i with
  | .ok m => match brw m with
    | some (_, xs) => putB i m (fl g b xs (env.set i none))
    | none => .bad
  | _ => .bad
def ssForZ (i j : Nat) (g : SG) (b : SS) : SS := fun env => match getE env i, getE env j with
  | .ok m1, .ok m2 => match brw m1, brw m2 with
    | some (b1, xs), some (b2, ys) => if b1 = b2 ∧ i ≠ j then putB i m1 (putB j m2 (fl g b (List.zipWith pairD xs ys) ((env.set i none).set j none))) else .bad
    | _, _ => .bad
  | _, _ => .bad
/-- what must stand while a loop walks over what T holds -/
def FrB (Z0 H0 : Hp) (T : Rg) (Z H : Hp) (R : Rg) : Prop := Same Z0 Z ∧ (∀ c o, T c → H0 c = some o → H c = some o) ∧ (∀ c, T c → ¬ R c) ∧ ∀ c, T c → H c ≠ none
theorem FrB.stay {Z0 H0 : Hp} {T : Rg} {Z H : Hp} {R : Rg} {Z' H' : Hp} {R' : Rg} (f : FrB Z0 H0 T Z H R) (s : Stp Z H R Z' H' R') : FrB Z0 H0 T Z' H' R' := by
  refine ⟨f.1.trans s.z, fun c o t e => s.kp c o (f.2.1 c o t e) (f.2.2.1 c t), fun c t q => (s.rg c q).elim (f.2.2.1 c t) (f.2.2.2 c t), fun c t q => ?_⟩
  cases e : H c with
  | none => exact f.2.2.2 c t e
  | some o => rw [s.kp c o e (f.2.2.1 c t)] at q; cases q
section
variable {G : Gx} {X : Cx} {W : WX'} {P : Px} {g : SG} {b : SS} {pos p : Pos}
theorem xs_forB {te : Expr} {body : List Stmt} {x : Str} (i : Nat) (hK : G.K = X.K) (hp : PassesOwn (model X.prog X.w) X.A X.env X.xe) (hc : X.calm = true) (hg : PGs' G X (fun k => P k ∨ k = i) te g) (hb : PSs' G X W (fun k => P k ∨ k = i) body b)
    (hN : X.N[i]? = some x := by rfl) (hv : Vis X.env.scope x := by first | exact Or.inl rfl | exact Or.inr (Or.inl rfl) | exact Or.inr (Or.inr rfl)) (hd : (x == ("__debug__" : Str)) = false := by decide) (hcd : (x == ("__classdict__" : Str)) = false := by decide)
    (hs : ∀ y, foldedSetIterable (.Name x p) X.env y = pure y := by intro _; rfl) : PS' G X W P (.For te (.Name x p) body [] pos) (ssForB i g b) := by
  obtain ⟨u, q, hg⟩ := hg.ex
  obtain ⟨w, r, hb⟩ := hb.ex
  have h1 : PI X te (.Name x p) (iList G.K (tVar i)) := by rw [hK]; exact pi_list (pe_var hN hv hd hcd)
  have h2 : PI X te (.Name x p) (iTup G.K (tVar i)) := by rw [hK]; exact pi_tup (pe_var hN hv hd hcd)
  refine ⟨_, ps_for hp hc (PI.or h1 h2) q r hs, fun D Z H σ env S gd k => ?_⟩
  unfold ssForB at k
  rcases getE_cases env i with ⟨m, e⟩ | e
  case inr => rw [e] at k; exact k.elim
  rw [e] at k
  simp only at k
  cases e3 : brw m with
  | none => rw [e3] at k; exact k.elim
  | some pr =>
    obtain ⟨bb, xs⟩ := pr
    rw [e3] at k
    obtain ⟨v, hv, g1, l1⟩ := gd.take (getE_ok e)
    obtain ⟨a, vs, rfl, rr, sq⟩ := brw_rep gd.zh l1.rep e3
    have kk := k.lend l1 hv (fun c z => z.elim Rs.wipe_le fun z => ⟨i, z⟩)
    have f0 : FrB Z H (S i) Z H (U (S.set i fun _ => False)) := ⟨Same.refl _, fun _ _ _ z => z, l1.dj, l1.al⟩
    cases bb with
    | false =>
      refine .inl ⟨.ref a, hv, a, rfl, ⟨vs, (sq Z H (Same.refl _) gd.zh fun _ _ _ z => z).2 rfl⟩, ?_⟩
      refine for_turns (Fr := FrB Z H (S i)) ⟨fun Z1 H1 R Z2 H2 R2 h s => h.stay s, fun Z1 H1 R n h zh hl => ⟨vs, (sq Z1 H1 h.1 zh h.2.1).2 rfl, by rw [← rr.len]; exact hl⟩, fun Z1 H1 R n d h zh ee => ?_⟩ hg hb Z _ _ g1 f0 kk
      obtain ⟨w, hw, rw'⟩ := rr.get ee
      refine ⟨⟨vs, w, (sq Z1 H1 h.1 zh h.2.1).2 rfl, hw⟩, fun y H' hy => ?_⟩
      obtain ⟨rfl, hx⟩ := hy
      have := hx vs ((sq Z1 _ h.1 zh h.2.1).2 rfl)
      rw [hw] at this; cases this
      exact ⟨Z1, Stp.refl zh, RepD.mono h.1 _ _ rw'⟩
    | true =>
      refine .inr ⟨.ref a, hv, a, rfl, ⟨vs, (sq Z H (Same.refl _) gd.zh fun _ _ _ z => z).1 rfl⟩, ?_⟩
      refine for_turns (Fr := FrB Z H (S i)) ⟨fun Z1 H1 R Z2 H2 R2 h s => h.stay s, fun Z1 H1 R n h zh hl => ⟨vs, (sq Z1 H1 h.1 zh h.2.1).1 rfl, by rw [← rr.len]; exact hl⟩, fun Z1 H1 R n d h zh ee => ?_⟩ hg hb Z _ _ g1 f0 kk
      obtain ⟨w, hw, rw'⟩ := rr.get ee
      refine ⟨⟨vs, w, (sq Z1 H1 h.1 zh h.2.1).1 rfl, hw⟩, fun y H' hy => ?_⟩
      obtain ⟨rfl, hx⟩ := hy
      have := hx vs ((sq Z1 _ h.1 zh h.2.1).1 rfl)
      rw [hw] at this; cases this
      exact ⟨Z1, Stp.refl zh, RepD.mono h.1 _ _ rw'⟩
theorem xs_forZ {body : List Stmt} {elts : List Expr} {kk : Nat} {tpos p1 p2 pc : Pos} {x y : Str} (i j : Nat) (hK : G.K = X.K) (hm : X.mg "zip" = none) (hp : PassesOwn (model X.prog X.w) X.A X.env X.xe) (hc : X.calm = true) (hg : PGs' G X (fun k => (P k ∨ k = i) ∨ k = j) (.Tuple elts kk tpos) g) (hb : PSs' G X W (fun k => (P k ∨ k = i) ∨ k = j) body b)
    (hN : X.N[i]? = some x := by rfl) (hv : Vis X.env.scope x := by first | exact Or.inl rfl | exact Or.inr (Or.inl rfl) | exact Or.inr (Or.inr rfl)) (hd : (x == ("__debug__" : Str)) = false := by decide) (hcd : (x == ("__classdict__" : Str)) = false := by decide)
    (hN2 : X.N[j]? = some y := by rfl) (hv2 : Vis X.env.scope y := by first | exact Or.inl rfl | exact Or.inr (Or.inl rfl) | exact Or.inr (Or.inr rfl)) (hd2 : (y == ("__debug__" : Str)) = false := by decide) (hcd2 : (y == ("__classdict__" : Str)) = false := by decide)
    (hgz : Gl X "zip" := by rfl) (hs1 : starEach [.Name x p1, .Name y p2] X.env = (false, eval (.Name x p1) X.env) :: starEach [.Name y p2] X.env := by rfl) (hs2 : starEach [.Name y p2] X.env = (false, eval (.Name y p2) X.env) :: starEach [] X.env := by rfl) (hpl : (backTo pc (starEach [.Name y p2] X.env)).any (·.1) = false := by rfl)
    (hs : ∀ z, foldedSetIterable (.Call (.Name "zip" p) [.Name x p1, .Name y p2] [] pc) X.env z = pure z := by intro _; rfl) : PS' G X W P (.For (.Tuple elts kk tpos) (.Call (.Name "zip" p) [.Name x p1, .Name y p2] [] pc) body [] pos) (ssForZ i j g b) := by
  obtain ⟨u, q, hg⟩ := hg.ex
  obtain ⟨w, r, hb⟩ := hb.ex
  have h1 : PI X (.Tuple elts kk tpos) (.Call (.Name "zip" p) [.Name x p1, .Name y p2] [] pc) (RZ.iZipA G.K (tCons (tVar i) (tCons (tVar j) tNil))) := by
    rw [hK]
    exact RZ.pi_zipA hgz hm (pa_cons (pe_var hN hv hd hcd) (pa_cons (pe_var hN2 hv2 hd2 hcd2) pa_nil hs2) hs1) hs1 hpl
  refine ⟨_, ps_for hp hc h1 q r hs, fun D Z H σ env S gd k => ?_⟩
  unfold ssForZ at k
  rcases getE_cases env i with ⟨m1, e1⟩ | e1
  case inr => rw [e1] at k; exact k.elim
  rcases getE_cases env j with ⟨m2, e2⟩ | e2
  case inr => rw [e1, e2] at k; exact k.elim
  rw [e1, e2] at k
  simp only at k
  cases e3 : brw m1 with
  | none => rw [e3] at k; exact k.elim
  | some pr =>
    obtain ⟨b1, xs⟩ := pr
    cases e4 : brw m2 with
    | none => rw [e3, e4] at k; exact k.elim
    | some pr =>
      obtain ⟨b2, ys⟩ := pr
      rw [e3, e4] at k
      simp only at k
      split at k
      case isFalse => exact k.elim
      rename_i hh
      obtain ⟨rfl, hij⟩ := hh
      obtain ⟨v1, hv1, g1, l1⟩ := gd.take (getE_ok e1)
      have e2' : (env.set i none)[j]? = some (some m2) := by rw [List.getElem?_set_ne hij]; exact getE_ok e2
      obtain ⟨v2, hv2, g2, l2⟩ := g1.take e2'
      have k1 := k.lend l1 hv1 (fun c z => z.elim Rs.wipe_le fun z => ⟨i, z⟩)
      have k2 := k1.lend l2 hv2 (fun c z => z.elim Rs.wipe_le fun z => ⟨j, z⟩)
      have hSj : ∀ c, (S.set i fun _ => False) j c → S j c := fun c z => by rw [Rs.set_ne (Ne.symm hij)] at z; exact z
      obtain ⟨a, vs, rfl, rr, sq⟩ := brw_rep gd.zh l1.rep e3
      obtain ⟨c, ws, rfl, rr2, sq2⟩ := brw_rep gd.zh l2.rep e4
      have f0 : FrB Z H (fun z => S i z ∨ (S.set i fun _ => False) j z) Z H (U ((S.set i fun _ => False).set j fun _ => False)) :=
        ⟨Same.refl _, fun _ _ _ z => z, fun z t w => t.elim (fun t => l1.dj z t (Rs.wipe_le w)) fun t => l2.dj z t w, fun z t => t.elim (l1.al z) (l2.al z)⟩
      have s1 : ∀ Z1 H1 R, FrB Z H (fun z => S i z ∨ (S.set i fun _ => False) j z) Z1 H1 R → Same Z1 H1 → (b1 = true → SqT G.K H1 a vs) ∧ (b1 = false → SqL G.K H1 a vs) := fun Z1 H1 R h zh => sq Z1 H1 h.1 zh fun z o t => h.2.1 z o (.inl t)
      have s2 : ∀ Z1 H1 R, FrB Z H (fun z => S i z ∨ (S.set i fun _ => False) j z) Z1 H1 R → Same Z1 H1 → (b1 = true → SqT G.K H1 c ws) ∧ (b1 = false → SqL G.K H1 c ws) := fun Z1 H1 R h zh => sq2 Z1 H1 h.1 zh fun z o t => h.2.1 z o (.inr t)
      refine ⟨.ref a, hv1, .ref c, hv2, a, c, vs, ws, rfl, ?_⟩
      have len : ∀ n, (List.zipWith pairD xs ys).length ≤ n → vs.length ≤ n ∨ ws.length ≤ n := fun n hl => by
        rw [List.length_zipWith] at hl
        rw [← rr.len, ← rr2.len]
        omega
      cases b1 with
      | false =>
        refine .inl ⟨(s1 _ _ _ f0 gd.zh).2 rfl, (s2 _ _ _ f0 gd.zh).2 rfl, ?_⟩
        refine for_turns (Fr := FrB Z H _) ⟨fun Z1 H1 R Z2 H2 R2 h s => h.stay s, fun Z1 H1 R n h zh hl => ⟨vs, ws, (s1 _ _ _ h zh).2 rfl, (s2 _ _ _ h zh).2 rfl, len n hl⟩, fun Z1 H1 R n d h zh ee => ?_⟩ hg hb Z _ _ g2 f0 k2
        obtain ⟨x1, y1, ex, ey, rfl⟩ := zw_get ee
        obtain ⟨v, hv, rv⟩ := rr.get ex
        obtain ⟨w, hw, rw'⟩ := rr2.get ey
        refine ⟨⟨vs, ws, v, w, (s1 _ _ _ h zh).2 rfl, (s2 _ _ _ h zh).2 rfl, hv, hw⟩, fun u' H' hy => ?_⟩
        obtain ⟨T, v', w', rfl, hT, rfl, k3, k4⟩ := hy
        have e5 := k3 vs ((s1 _ _ _ h zh).2 rfl)
        have e6 := k4 ws ((s2 _ _ _ h zh).2 rfl)
        rw [hv] at e5; cases e5
        rw [hw] at e6; cases e6
        have st := Stp.newZ (o := .tup [v, w]) zh hT (fun _ => False)
        refine ⟨_, st, ?_⟩
        simp only [pairD, RepD, RepDs]
        exact ⟨T, [v, w], rfl, SqT.of upd_same, v, [w], rfl, RepD.mono (h.1.trans st.z) _ _ rv, w, [], rfl, RepD.mono (h.1.trans st.z) _ _ rw', rfl⟩
      | true =>
        refine .inr ⟨(s1 _ _ _ f0 gd.zh).1 rfl, (s2 _ _ _ f0 gd.zh).1 rfl, ?_⟩
        refine for_turns (Fr := FrB Z H _) ⟨fun Z1 H1 R Z2 H2 R2 h s => h.stay s, fun Z1 H1 R n h zh hl => ⟨vs, ws, (s1 _ _ _ h zh).1 rfl, (s2 _ _ _ h zh).1 rfl, len n hl⟩, fun Z1 H1 R n d h zh ee => ?_⟩ hg hb Z _ _ g2 f0 k2
        obtain ⟨x1, y1, ex, ey, rfl⟩ := zw_get ee
        obtain ⟨v, hv, rv⟩ := rr.get ex
        obtain ⟨w, hw, rw'⟩ := rr2.get ey
        refine ⟨⟨vs, ws, v, w, (s1 _ _ _ h zh).1 rfl, (s2 _ _ _ h zh).1 rfl, hv, hw⟩, fun u' H' hy => ?_⟩
        obtain ⟨T, v', w', rfl, hT, rfl, k3, k4⟩ := hy
        have e5 := k3 vs ((s1 _ _ _ h zh).1 rfl)
        have e6 := k4 ws ((s2 _ _ _ h zh).1 rfl)
        rw [hv] at e5; cases e5
        rw [hw] at e6; cases e6
        have st := Stp.newZ (o := .tup [v, w]) zh hT (fun _ => False)
        refine ⟨_, st, ?_⟩
        simp only [pairD, RepD, RepDs]
        exact ⟨T, [v, w], rfl, SqT.of upd_same, v, [w], rfl, RepD.mono (h.1.trans st.z) _ _ rv, w, [], rfl, RepD.mono (h.1.trans st.z) _ _ rw', rfl⟩
end
end FL

set_option maxHeartbeats 2000000
/-! FLU: plain law: texts. -/
namespace FL
open PySem L2 Classical
/-- a text by its signs -/
def sl (l : List Nat) : Str := ⟨l.toArray⟩
theorem sl_len (l : List Nat) : (sl l).length = l.length := by simp [sl, Str.length]
theorem sl_cps (l : List Nat) : (sl l).cps.toList = l := by simp [sl]
theorem sl_app (a b : List Nat) : sl a ++ sl b = sl (a ++ b) := by
  show (⟨(sl a).cps ++ (sl b).cps⟩ : Str) = _
  simp [sl]
theorem sl_eta (z : Str) : sl z.cps.toList = z := by cases z; simp [sl]
theorem sl_inj {a b : List Nat} (h : sl a = sl b) : a = b := by have := congrArg (fun z : Str => z.cps.toList) h; simpa [sl] using this
theorem slOf (s : String) : Str.ofString s = sl (s.toList.map Char.toNat) := by rw [Str.ofString_eq_toList]; rfl
def fS (l : List Nat) : M := .d (.str (sl l))
def chD (c : Nat) : D := .str (sl [c])
theorem itemsD_str (l : List Nat) : itemsD (.str (sl l)) = some (l.map chD) := by simp [itemsD, sl, chD]
theorem oAdd_str {a b : List Nat} (h : a.length + b.length ≤ 16777216) : oAdd (.d (.str (sl a))) (.d (.str (sl b))) = .ok (.str (sl (a ++ b))) := by
  have h' : (sl a).length + (sl b).length ≤ sizeLine := by rw [sl_len, sl_len, sizeLine_eq]; exact h
  have e : oAdd (.d (.str (sl a))) (.d (.str (sl b))) = if (sl a).length + (sl b).length ≤ sizeLine then .ok (.str (sl a ++ sl b)) else .bad := by
    simp only [oAdd, dOr, dI, dS]
  rw [e, if_pos h', sl_app]
theorem beq_str (a b : List Nat) : (sl a == sl b) = decide (a = b) := by
  by_cases h : a = b
  · subst h; simp
  · have : sl a ≠ sl b := fun z => h (sl_inj z)
    simp [h, this]
theorem oEq_str (a b : List Nat) : oEq (.d (.str (sl a))) (.d (.str (sl b))) = .ok (.bl (decide (a = b))) := by
  rw [oEq_pl (pl_flat rfl) (pl_flat rfl)]
  simp [eqD, fz, toPy, PyData.eqv, beq_str]
theorem oNe_str (a b : List Nat) : oNe (.d (.str (sl a))) (.d (.str (sl b))) = .ok (.bl (!decide (a = b))) := by
  rw [oNe_pl (pl_flat rfl) (pl_flat rfl)]
  simp [eqD, fz, toPy, PyData.eqv, beq_str]
theorem oIn_sign (c : Nat) (l : List Nat) : oIn (.d (.str (sl [c]))) (.d (.str (sl l))) = .ok (.bl (decide (c ∈ l))) := by
  simp only [oIn, inM, M.seq, sl_cps]
theorem mIdx_str {l : List Nat} {i : Int} {c : Nat} (hl : l.length ≤ 16777216) (h : atI l i = some c) : mIdx (.d (.str (sl l))) (.d (.int i)) = .ok (.d (.str (sl [c]))) := by
  have h' : (sl l).length ≤ sizeLine := by rw [sl_len, sizeLine_eq]; exact hl
  simp only [mIdx, M.seq, if_pos h', sl_cps, h]
  rfl
theorem atI_nat {α : Type} {l : List α} {n : Nat} (h : n < l.length) : atI l (n : Int) = l[n]? := by
  unfold atI ixN
  rw [if_pos (by omega), if_pos (by omega)]
  simp
theorem atI_pos {α : Type} {l : List α} {i : Int} (h0 : 0 ≤ i) (h : i < l.length) : atI l i = l[i.toNat]? := by
  unfold atI ixN
  rw [if_pos h0, if_pos h]
  rfl
theorem atI_last {α : Type} {l : List α} {x : α} : atI (l ++ [x]) (-1) = some x := by
  unfold atI ixN
  rw [if_neg (by omega), if_pos (by simp; omega)]
  have : ((-1 : Int) + ((l ++ [x]).length : Nat)).toNat = l.length := by simp; omega
  rw [this]
  simp
theorem ixN_last {n : Nat} : ixN (n + 1) (-1) = some n := by
  unfold ixN
  rw [if_neg (by omega), if_pos (by omega)]
  congr 1
  omega
theorem fl_one {g : SG} {b : SS} {x : D} {xs : List D} {env e1 e2 : Env} (h1 : g (.d x) env = .ok e1) (h2 : b e1 = .ok (.nx, e2)) : fl g b (x :: xs) env = fl g b xs e2 := by
  show (match g (.d x) env with
    | .ok e => match b e with
      | .ok (.nx, e2) => fl g b xs e2
      | .ok (.ct, e2) => fl g b xs e2
      | .ok (.brk, e2) => .ok (.nx, e2)
      | .ok (.ret m, e2) => .ok (.ret m, e2)
      | .exc x e2 => .exc x e2
      | .bad => .bad
    | _ => .bad) = _
  rw [h1]
  simp only [h2]
theorem mulS_space {n : Int} (h0 : 0 ≤ n) (h : n ≤ 1000) : oMulS (.d (.str (sl [32]))) (.d (.int n)) = .ok (.str (sl (List.replicate n.toNat 32))) := by
  have hc : MulC (sl [32]) n := ⟨by omega, h, by rw [sl_len]; decide⟩
  have e : PySem.Txt.mul (sl [32]) n = sl (List.replicate n.toNat 32) := by
    unfold PySem.Txt.mul
    by_cases h1 : n < 1
    · have : n = 0 := by omega
      subst this
      rfl
    · rw [if_neg h1]
      by_cases h2 : n = 1
      · subst h2; rfl
      · have : (n == 1 || (sl [32]).length == 0) = false := by simp [h2, sl_len]
        rw [this]
        simp only [Bool.false_eq_true, if_false]
        have key : ∀ (k : Nat) (acc : Array Nat), (List.replicate k (sl [32]).cps).foldl (· ++ ·) acc = acc ++ (List.replicate k 32).toArray := by
          intro k
          induction k with
          | zero => intro acc; simp
          | succ k ih =>
            intro acc
            rw [List.replicate_succ, List.foldl_cons, ih]
            apply Array.ext'
            simp [sl, List.replicate_succ]
        rw [key]
        simp [sl]
  unfold oMulS
  simp only [if_pos hc, e]
/-- signs of a number -/
theorem num_signs {n : Int} (h : 0 ≤ n) : ∃ l : List Nat, Str.ofString (toString n) = sl l ∧ l ≠ [] ∧ ∀ c ∈ l, 48 ≤ c ∧ c ≤ 57 := by
  obtain ⟨m, rfl⟩ := Int.eq_ofNat_of_zero_le h
  refine ⟨(Nat.toDigits 10 m).map Char.toNat, ?_, ?_, ?_⟩
  · rw [← PySem.W.KIN.signs_num, sl_eta]
  · simp
  · intro c hc
    obtain ⟨ch, hch, rfl⟩ := List.mem_map.mp hc
    exact PyProof.Rows.digit_range (Nat.isDigit_of_mem_toDigits (by decide) (by decide) hch)
end FL
namespace FL
open PySem L2 Classical
theorem pl_flats {xs : List D} (h : ∀ x ∈ xs, flatD0 x = true) : PyData.plainAll (toPys xs) = true ∧ PyData.depthAll (toPys xs) ≤ 1 := by
  induction xs with
  | nil => simp [toPys, PyData.plainAll, PyData.depthAll]
  | cons x xs ih =>
    obtain ⟨h1, h2⟩ := ih fun y hy => h y (by simp [hy])
    have h3 := h x (by simp)
    have h4 : (toPy x).plain = true ∧ (toPy x).depth ≤ 1 := by cases x <;> simp [flatD0] at h3 <;> simp [toPy, PyData.plain, PyData.depth]
    simp only [toPys, PyData.plainAll, PyData.depthAll, h1, h4.1, Bool.and_self, true_and]
    omega
theorem pl_list {xs : List D} (h : ∀ x ∈ xs, flatD0 x = true) : Pl 60 (.lst xs) ∧ Pl 60 (.tup xs) := by
  obtain ⟨h1, h2⟩ := pl_flats h
  refine ⟨⟨?_, ?_⟩, ⟨?_, ?_⟩⟩ <;> simp only [toPy, PyData.plain, PyData.depth, h1] <;> omega
theorem eqv_flat : ∀ {x : D}, flatD0 x = true → PyData.eqv (toPy x) (toPy x) = true
  | .non, _ => by simp [toPy, PyData.eqv]
  | .bl _, _ => by simp [toPy, PyData.eqv]
  | .int _, _ => by simp [toPy, PyData.eqv]
  | .str _, _ => by simp [toPy, PyData.eqv]
theorem eqv_flats {xs : List D} (h : ∀ x ∈ xs, flatD0 x = true) : PyData.eqvAll (toPys xs) (toPys xs) = true := by
  induction xs with
  | nil => simp [toPys, PyData.eqvAll]
  | cons x xs ih => simp [toPys, PyData.eqvAll, eqv_flat (h x (by simp)), ih fun y hy => h y (by simp [hy])]
theorem oEq_same {xs : List D} (h : ∀ x ∈ xs, flatD0 x = true) {m1 m2 : M} (h1 : fz m1 = .lst xs) (h2 : fz m2 = .lst xs) : oEq m1 m2 = .ok (.bl true) := by
  rw [oEq_pl (by rw [h1]; exact (pl_list h).1) (by rw [h2]; exact (pl_list h).1), h1, h2]
  simp [eqD, toPy, PyData.eqv, eqv_flats h]
theorem brw_own {α : Type} (f : α → D) (xs : List α) : brw (.lst (xs.map fun x => .d (f x))) = some (false, xs.map f) := by
  have h1 : (xs.map fun x => M.d (f x)).all isD = true := by
    induction xs with
    | nil => rfl
    | cons x xs ih => simp [isD]
  have h2 : (xs.map fun x => M.d (f x)).map unD = xs.map f := by
    induction xs with
    | nil => rfl
    | cons x xs ih => simp [unD]
  simp only [brw, h1, h2, if_true]
theorem zip_same (f : List Nat → D) : ∀ xs : List (List Nat), List.zipWith pairD (xs.map f) (xs.map f) = xs.map fun x => pairD (f x) (f x)
  | [] => rfl
  | x :: xs => by simp [zip_same f xs]
end FL
namespace FL
theorem ssSeq_nx {f g : SS} {env e : Env} (h : f env = .ok (.nx, e)) : ssSeq f g env = g e := by unfold ssSeq; rw [h]
theorem ssSeq_ret {f g : SS} {env e : Env} {m : M} (h : f env = .ok (.ret m, e)) : ssSeq f g env = .ok (.ret m, e) := by unfold ssSeq; rw [h]
theorem runF_ret {N n : Nat} {pr : List Nat} {b : SS} {ms : List M} {m : M} {e : Env} (h : b (ms.map some ++ List.replicate (N - n) none) = .ok (.ret m, e)) : runF N n pr b ms = .ok (m, (killAll pr e).take n) := by unfold runF; rw [h]
theorem runF_nx {N n : Nat} {pr : List Nat} {b : SS} {ms : List M} {e : Env} (h : b (ms.map some ++ List.replicate (N - n) none) = .ok (.nx, e)) : runF N n pr b ms = .ok (.d .non, (killAll pr e).take n) := by unfold runF; rw [h]
end FL
namespace FL
open PySem L2 Classical
/-- the script's cells up to the k-th -/
theorem siQ_scr {ns : List Int} {env : Env} {k : Int} (h : 0 ≤ k) : siQ (sSl (vN 0) voNo (voI (vC (.int k)))) (some (.d (.scr (ns.map D.int))) :: env) = .ok ((ns.take k.toNat).map D.int, some (.d (.scr (ns.map D.int))) :: env) := by
  have e1 : sSl (vN 0) voNo (voI (vC (.int k))) (some (.d (.scr (ns.map D.int))) :: env) = .ok (.lst (((ns.take k.toNat).map D.int).map .d), some (.d (.scr (ns.map D.int))) :: env) := by
    simp only [sSl, vN, getE, voNo, voI, vC, List.getElem?_cons_zero, slM_scr, cutL_take _ h, ← List.map_take]
  unfold siQ
  rw [e1]
  simp only [fz, fzs_d, itemsD]
theorem ssFor_scr {ns : List Int} {env : Env} {k : Int} {g : SG} {b : SS} (h : 0 ≤ k) : ssFor (siQ (sSl (vN 0) voNo (voI (vC (.int k))))) g b (some (.d (.scr (ns.map D.int))) :: env) = fl g b ((ns.take k.toNat).map D.int) (some (.d (.scr (ns.map D.int))) :: env) := by
  unfold ssFor
  rw [siQ_scr h]
end FL
namespace FL
open PySem L2 Classical
/-! ### sizes told by a power that is never reckoned -/
theorem big_of {x : Int} (h : x.natAbs.log2 < 1048576) : ∃ n, n ≤ 1048576 ∧ 0 < n ∧ x.natAbs < 2 ^ n := ⟨x.natAbs.log2 + 1, by omega, by omega, Nat.lt_log2_self⟩
theorem bigs_of {ns : List Int} (h : ∀ z ∈ ns, z.natAbs.log2 < 1048576) : ∃ n, n ≤ 1048576 ∧ 0 < n ∧ ∀ z ∈ ns, z.natAbs < 2 ^ n := by
  obtain ⟨n, hn⟩ : ∃ n, n = 1048576 := ⟨_, rfl⟩
  refine ⟨n, by omega, by omega, fun z hz => ?_⟩
  have := h z hz
  rw [← hn] at this
  exact Nat.lt_of_lt_of_le Nat.lt_log2_self (Nat.pow_le_pow_right (by decide) this)
theorem div_lt {x j : Int} {n : Nat} (h : x.natAbs < 2 ^ n) (hj : 0 < j) : (x / j).natAbs < 2 ^ (n + 1) := by
  rw [Nat.pow_succ]
  have : (x / j).natAbs ≤ x.natAbs + 1 := by
    rcases Int.le_total 0 x with q | q
    · have h1 := Int.ediv_nonneg q (Int.le_of_lt hj)
      have h2 := Int.ediv_le_self j q
      omega
    · have h1 : x / j ≤ 0 := Int.ediv_nonpos_of_nonpos_of_neg q hj
      have h2 : x ≤ x / j := by
        have e := Int.mul_ediv_add_emod x j
        have e2 := Int.emod_nonneg x (show j ≠ 0 by omega)
        have e3 := Int.emod_lt_of_pos x hj
        have e4 : j * (x / j) ≤ 1 * (x / j) := Int.mul_le_mul_of_nonpos_right (by omega) h1
        have e5 : x - j < j * (x / j) := by omega
        refine Int.not_lt.mp fun q2 => ?_
        have e6 : x / j + 1 ≤ x := by omega
        have e7 : j * (x / j + 1) ≤ 1 * (x / j + 1) := Int.mul_le_mul_of_nonpos_right (by omega) (by omega)
        rw [Int.mul_add] at e7
        omega
      omega
  have : 1 ≤ 2 ^ n := Nat.one_le_two_pow
  omega
def sumI : List Int → Int
  | [] => 0
  | x :: xs => x + sumI xs
theorem sum_lt {n : Nat} : ∀ {xs : List Int}, (∀ x ∈ xs, x.natAbs < 2 ^ n) → (sumI xs).natAbs < 2 ^ (n + xs.length)
  | [], _ => by simp [sumI, Nat.two_pow_pos]
  | x :: xs, h => by
    have h1 := sum_lt fun y hy => h y (List.mem_cons_of_mem x hy)
    have h2 := h x (by simp)
    have h3 : 2 ^ n ≤ 2 ^ (n + xs.length) := Nat.pow_le_pow_right (by decide) (by omega)
    simp only [sumI, List.length_cons]
    rw [← Nat.add_assoc, Nat.pow_succ]
    omega
theorem zip_pairs : ∀ xs ys : List Int, List.zipWith pairD (xs.map D.int) (ys.map D.int) = (List.zip xs ys).map fun p => pairD (.int p.1) (.int p.2)
  | [], _ => by simp
  | _ :: _, [] => by simp
  | x :: xs, y :: ys => by simp [zip_pairs xs ys]
theorem frac_mul {t b : Int} (h : b ≠ 0) : fracT t b * b = t * fracB t b ∧ 0 < fracB t b ∧ Int.gcd (fracT t b) (fracB t b) = 1 := by
  unfold fracT fracB
  split
  · rename_i hn
    have h1 := low_cross (t := -t) (b := -b)
    refine ⟨?_, lowB_pos (by omega), low_gcd (by omega)⟩
    rw [Int.mul_neg, Int.neg_mul] at h1
    omega
  · exact ⟨low_cross, lowB_pos (by omega), low_gcd h⟩
theorem frac_lt {t b : Int} {n m : Nat} (ht : t.natAbs < 2 ^ n) (hb : b.natAbs < 2 ^ m) : (fracT t b).natAbs < 2 ^ n ∧ (fracB t b).natAbs < 2 ^ m := by
  unfold fracT fracB
  split
  · have h1 := lowT_le (t := -t) (b := -b)
    have h2 := lowB_le (t := -t) (b := -b)
    rw [Int.natAbs_neg] at h1 h2
    exact ⟨by omega, by omega⟩
  · have h1 := lowT_le (t := t) (b := b)
    have h2 := lowB_le (t := t) (b := b)
    exact ⟨by omega, by omega⟩
end FL
namespace FL
open PySem L2 Classical
theorem sumI_sum : ∀ xs : List Int, xs.sum = sumI xs
  | [] => rfl
  | x :: xs => by simp [sumI, sumI_sum xs]
theorem intsOf_map : ∀ xs : List Int, intsOf (xs.map fun x => M.d (.int x)) = some xs
  | [] => rfl
  | x :: xs => by simp [intsOf, intsOf_map xs]
/-- a slice of the script as a value -/
theorem sSl_scr {ns : List Int} {env : Env} {lo hi : Env → Res (Option Int)} {l h : Option Int} (e1 : lo (some (.d (.scr (ns.map D.int))) :: env) = .ok l) (e2 : hi (some (.d (.scr (ns.map D.int))) :: env) = .ok h) :
    sSl (vN 0) lo hi (some (.d (.scr (ns.map D.int))) :: env) = .ok (.lst ((cutL ns l h).map fun x => .d (.int x)), some (.d (.scr (ns.map D.int))) :: env) := by
  have hc : cutL (ns.map D.int) l h = (cutL ns l h).map D.int := by unfold cutL; simp
  simp only [sSl, vN, getE, List.getElem?_cons_zero, e1, e2, slM_scr, hc, List.map_map]
  rfl
end FL

set_option maxHeartbeats 2000000
/-! FLV: a caught exception that is kept; isinstance of it. -/
namespace FL
open PySem L2 Classical PySem.Spec PyProof.Rows

/-- an object that the entry didn't know, untracked till now, is tracked -/
theorem Inv.track {X : Cx} {pins : List (Addr × Obj)} {σ : L2.St} {H : Hp} {s : Shared} {a : Addr} {o : HO} (I : L2.Inv X pins σ H s) (n0 : X.s_0.heap.get? a = none) (na : H a = none) (np : ∀ p ∈ X.pn ++ pins, p.1 ≠ a) (nL : X.env.locals ≠ a) (nC : ∀ x c, X.env.cells.lookup x = some c → c ≠ a)
    (new : ObjOk X.prog X.w (upd H a o) s.heap a o) : L2.Inv X pins σ (upd H a o) s := by
  refine ⟨I.ok, I.os, I.bare, ⟨I.base.keep, I.base.slot, fun b u e n hx => ?_, I.base.there, fun b xs e => ?_, fun b u v e => ?_, fun b ps e => ?_⟩, I.loc, I.cell, ?_, fun x c e => ?_, fun p hp => ?_, HOk.laidN I.hok (fun _ _ z => z) na new, I.len⟩
  · rw [upd_ne (fun z => by rw [z, n0] at e; cases e)]; exact I.base.free b u e n hx
  · have q := I.base.tups b xs e
    rw [upd_ne (ne_of_none q na)]; exact q
  · have q := I.base.frzs b u v e
    rw [upd_ne (ne_of_none q na)]; exact q
  · obtain ⟨m, q⟩ := I.base.tbls b ps e
    exact ⟨m, by rw [upd_ne (ne_of_none q na)]; exact q⟩
  · rw [upd_ne nL]; exact I.free
  · rw [upd_ne (nC x c e)]; exact I.freeC x c e
  · obtain ⟨h1, h2, h3⟩ := I.pin p hp
    exact ⟨h1, by rw [upd_ne (np p hp)]; exact h2, h3⟩
theorem ek_ok {P : Program} {w : World} {H : Hp} {h : Heap} {a : Addr} {cls : Value} {oe : Obj} {vs : Array Value} (e : h.get? a = some oe) (z : Zc cls none oe) (d : oe.data = .fields vs) : ObjOk P w H h a (EK cls a) :=
  ⟨⟨oe, vs, e, z.1, z.2, d⟩, ⟨oe, e⟩, fun _ _ ⟨o, v, q, r⟩ k => ⟨o, v, k o q, r⟩⟩
/-- what 'except x as n: y = n' wishes of an exception of the body -/
def wKeep (K : PySem.W.Frag) (c : Value) (i j : Nat) (Wout : WX) (D : Ends) : WX := fun cls d σ H =>
  ∃ b, PySem.W.exmOne K cls c = some b ∧ (b = true → d = none ∧ ∀ a, H a = none → D.nx ((σ.set j (some (.ref a))).set i none) (upd H a (EK cls a))) ∧ (b = false → Wout cls d σ H)
section
variable {X : Cx} {x n y : Str} {c : Value} {i j : Nat} {body : List Stmt} {np pos pos' ps pn2 py : Pos} {tb : WX → TS} {Wout : WX}
theorem ps_try_keep (hs : X.stack = X.env :: X.outer) (hf : X.env.frame = some X.env.locals) (hex : X.ex = []) (hN : X.N.Nodup) (hi : X.N[i]? = some n) (hj : X.N[j]? = some y) (hij : i ≠ j) (hln : X.env.kindOf n = some .local) (hly : X.env.kindOf y = some .local) (hc : Names X x c) (tk : Takes X Wout)
    (hnd : (n == ("__debug__" : Str)) = false) (hncd : (n == ("__classdict__" : Str)) = false)
    (hb : ∀ (W : WX) (pn : List (Addr × Obj)) (xe : Value → Shared → Prop), Takes (X.tr pn xe) W → PassesOwn (model X.prog X.w) X.A X.env xe → PSs (X.tr pn xe) body (tb W))
    (hsw : ∀ (X' : Cx), X'.env = X.env → swapsWith (.Name n pn2) (some (.Name y py)) ps.line X'.env = pure false) :
    PS X (.Try body [.ExceptHandler (some (.Name x np)) (some n) [.Assign [.Name y py] (.Name n pn2) ps] pos'] [] [] pos) (fun D σ H => tb (wKeep X.K c i j Wout D) D σ H) := by
  refine ⟨fun pins s σ H D I h => ?_⟩
  have ok := I.ok
  have hfr : X.A.frames = some (X.env :: X.outer) := by rw [ok.frames, hs]
  have hloc : Loc X.env.scope n := .inl hln
  refine wpAny_Try_except ?_
  refine wpAny_mono ((hb (wKeep X.K c i j Wout D) (X.pn ++ pins) (fun e s₁ => wpAny (model X.prog X.w) X.A (noteFrame e X.env) (fun _ s₂ => wpAny (model X.prog X.w) X.A (setFlight e none) (fun _ s₃ =>
    wpAny (model X.prog X.w) X.A (handleBy e X.env [.ExceptHandler (some (.Name x np)) (some n) [.Assign [.Name y py] (.Name n pn2) ps] pos']) (SP X pins D) X.xe s₃) X.xe s₂) X.xe s₁) (fun u s' xx => ?_) PassesOwn.looking).run [] s σ H D (I.toTry _) h) (fun f s1 hsp => ?_) (fun e s1 he => he)
  · obtain ⟨a, B, sI, pins', σ', H', cls, d, rfl, J', nb, up, sky, na, os, ag, b, hb1, hyes, hno⟩ := xx
    have J : L2.Inv X pins σ' H' sI := J'.ofTry ok
    have sky' : Sky B (X.env :: X.outer) a (Zc cls d) X.env.locals s'.heap := by rw [← hs]; exact sky
    show wpAny (model X.prog X.w) X.A (noteFrame (.ref a) X.env) _ _ _
    refine Sky.land Zc.steady hfr hf sky' fun h3 fl3 up3 => ?_
    have J3 : L2.Inv X pins σ' H' { s' with heap := h3 } := J.landed nb fl3.1 (up.trans up3) os ag
    obtain ⟨oe3, vs3, he3, hz3, hd3⟩ := fl3.there
    have notFr : ∀ {h : Heap} {o : Obj} {vs : Array Value}, h.FunFrames B (X.env :: X.outer) → h.get? a = some o → o.data = .fields vs → a ∉ frs (X.env :: X.outer) := fun {h o vs} ff e dd hm => by
      obtain ⟨_, o', e', hnf⟩ := ff.mem hm
      rw [e] at e'; cases e'
      exact hnf _ dd
    have nfr := notFr fl3.2.2.1 he3 hd3
    have nL : a ≠ X.env.locals := fun z => nfr (List.mem_filterMap.mpr ⟨X.env, List.mem_cons_self, by rw [hf, z]⟩)
    have nF : a ∉ X.fs := fun hm => by
      obtain ⟨e, he, q⟩ := List.mem_filterMap.mp hm
      exact nfr (List.mem_filterMap.mpr ⟨e, List.mem_cons_of_mem _ he, q⟩)
    have S3 := J3.suite he3 hd3 na nL nF
    -- a is new
    have sIa : sI.heap.get? a = none := by
      cases e : sI.heap.get? a with
      | none => rfl
      | some o =>
        have := nb a o e (by rw [hs]; exact nfr)
        rw [fl3.2.1] at this
        cases this
    have n0 : X.s_0.heap.get? a = none := by
      cases e : X.s_0.heap.get? a with
      | none => rfl
      | some o =>
        obtain ⟨o', e'⟩ := J.base.there a o e (by rw [hex]; exact fun z => nomatch z)
        rw [sIa] at e'
        cases e'
    have nP : ∀ p ∈ X.pn ++ pins, p.1 ≠ a := fun p hp z => by
      have := (J.pin p hp).1
      rw [z, sIa] at this
      cases this
    have nC : ∀ x c, X.env.cells.lookup x = some c → c ≠ a := fun x c e z => by
      obtain ⟨v, o, ho, _⟩ := J.cell x c e
      rw [z, sIa] at ho
      cases ho
    refine wpAny_handleBy_cons (codeAny_handlers_test ?_) (by intro q; cases q)
    have LT : PySem.W.Looks (model X.prog X.w) h3 (typeOf (.ref a)) cls := fun A Q E s k q => wpAny_typeOf_ref (k _ _ he3) (by rw [hz3.1]; exact q)
    have LM := PySem.W.exm_one (M := model X.prog X.w) (J3.kIn) LT hb1
    have test : ∀ {Q : Value → Shared → Prop} {E : Value → Shared → Prop}, Q c { s' with heap := h3 } → wpAny (model X.prog X.w) (X.A.mark (some (.ref a))) (eval (.Name x np) X.env) Q E { s' with heap := h3 } := fun {Q E} q => by
      obtain ⟨hg, hdbg, hm | ⟨hm, hv, hnn⟩⟩ := hc
      · exact ld_glob (X := X.suite a ((a, oe3) :: (X.pn ++ pins))) S3 hg hm q hdbg
      · exact ld_blt (X := X.suite a ((a, oe3) :: (X.pn ++ pins))) S3 hg hm hv q hnn hdbg
    refine test (LM.here ?_)
    cases b with
    | true =>
      obtain ⟨rfl, hyes'⟩ := hyes rfl
      refine codeAny_handlers_suite_as ?_
      refine HandSPX.lands_againZ fl3 fun h4 fl4 up4 => ?_
      have J4 : L2.Inv X pins σ' H' { s' with heap := h4 } := J.landed nb fl4.1 ((up.trans up3).trans up4) os ag
      obtain ⟨oe4, vs4, he4, hz4, hd4⟩ := fl4.there
      have S4 := J4.suite he4 hd4 na nL nF
      refine store_ok (X := X.suite a ((a, oe4) :: (X.pn ++ pins))) (v := .ref a) S4 hN hi hloc rfl (fun s5 S5 => ?_) (.inr hln)
      have hsu : PSs (X.suite a ((a, oe4) :: (X.pn ++ pins))) [.Assign [.Name y py] (.Name n pn2) ps] (tAsg (tVar i) (gName j)) :=
        pss_one (ps_set (X := X.suite a ((a, oe4) :: (X.pn ++ pins))) hN hj (.inl hly) (pe_var (X := X.suite a ((a, oe4) :: (X.pn ++ pins))) hi (.inl hln) hnd hncd) (hsw _ rfl) (.inr hly))
      have hi' : (σ'.set i (some (.ref a)))[i]? = some (some (.ref a)) := by
        rw [List.getElem?_set_self]
        rw [J.len]
        exact (List.getElem?_eq_some_iff.mp hi).1
      refine wpAny_mono (hsu.run [] s5 _ H' { nx := fun σ6 H6 => σ6 = (σ'.set i (some (.ref a))).set j (some (.ref a)) ∧ H6 = H', rt := fun _ _ => False } S5 ⟨.ref a, hi', rfl, rfl⟩) (fun f s6 hsp => ?_) (fun _ _ z => False.elim z)
      cases f with
      | next =>
        obtain ⟨σ6, H6, S6, rfl, rfl⟩ := hsp
        have pin := (S6.pin (a, oe4) (List.mem_append_left _ List.mem_cons_self)).1
        have T6 := Inv.track (o := EK cls a) (S6.unsuite ok) n0 na nP (Ne.symm nL) nC (ek_ok pin hz4 hd4)
        refine gone_ok T6 hN hi hln fun s7 J7 => ⟨_, _, J7, ?_⟩
        have e : (((σ'.set i (some (.ref a))).set j (some (.ref a))).set i none) = (σ'.set j (some (.ref a))).set i none := by
          rw [List.set_comm _ _ hij, List.set_set]
        rw [e]
        exact hyes' a na
      | brk => obtain ⟨σ6, H6, S6, z⟩ := hsp; exact z.elim
      | cont => obtain ⟨σ6, H6, S6, z⟩ := hsp; exact z.elim
      | ret u => obtain ⟨v6, σ6, H6, S6, r6, z⟩ := hsp; exact z.elim
    | false =>
      show wpAny _ X.A (handleBy (.ref a) X.env []) _ _ _
      refine wpAny_handleBy_nil ?_
      obtain ⟨k1, k2, k3, oe, vs, T, oT, ts', he, hz, hd, h1, hr⟩ := id fl3
      unfold PySem.passOn
      refine wpAny_bind (wpAny_field he hd h1 ?_)
      rw [if_neg (show ¬ ((Value.ref T == Value.none) = true) from by simp)]
      have fin : wpAny (model X.prog X.w) X.A (setFlight (.ref a) X.env.frame) (fun _ s4 => wpAny (model X.prog X.w) X.A (throw (.ref a) : Sem Flow) (SP X pins D) X.xe s4) X.xe { s' with heap := h3 } := by
        rw [hf]
        refine HandSPX.setFlight_upZ fl3 fun h4 hh4 up4 => wpAny_throw (tk _ _ ?_)
        exact ⟨a, B, sI, pins, σ', H', cls, d, rfl, J, nb, (up.trans up3).trans up4, .inr (.inr (by rw [hs]; exact hh4)), na, os, ag, hno rfl⟩
      first
        | exact wpAny_bind (wpAny_pure (wpAny_bind fin))
        | exact wpAny_bind fin
  · cases f with
    | next =>
      obtain ⟨σ', H', J', q⟩ := hsp
      exact wpAny_execs_nil ⟨σ', H', J'.ofTry ok, q⟩
    | brk =>
      obtain ⟨σ', H', J', q⟩ := hsp
      exact ⟨σ', H', J'.ofTry ok, q⟩
    | cont =>
      obtain ⟨σ', H', J', q⟩ := hsp
      exact ⟨σ', H', J'.ofTry ok, q⟩
    | ret u =>
      obtain ⟨v, σ', H', J', r, q⟩ := hsp
      exact ⟨v, σ', H', J'.ofTry ok, r, q⟩
end
end FL
namespace FL
open PySem L2 Classical
/-! ### statements: the reading that is just the semantics -/
def SSem (G : Gx) (W : WX') (P : Px) (f : SS) : TS := fun D σ H => ∃ Z env S, Good G Z H σ env S ∧ SPost G W P D Z H (U S) σ (f env)
theorem PSs'.sem {G : Gx} {X : Cx} {W : WX'} {P : Px} {sts : List Stmt} {f : SS} (h : PSs' G X W P sts f) : PSs X sts (SSem G W P f) := by
  obtain ⟨t, p, h⟩ := h.ex
  refine ⟨fun pins s σ H D I q => p.run pins s σ H D I ?_⟩
  obtain ⟨Z, env, S, g, q⟩ := q
  exact h D Z H σ env S g q
theorem Good.killσ {G : Gx} {Z H : Hp} {σ : L2.St} {env : Env} {S : Rs} {i : Nat} (g : Good G Z H σ (env.set i none) S) : Good G Z H (σ.set i none) (env.set i none) S := by
  refine ⟨g.zh, fun k m e => ?_, g.dj, g.al, g.zf, by have := g.len; rw [List.length_set] at this ⊢; rw [List.length_set]; exact this⟩
  by_cases hk : i = k
  · subst hk
    by_cases hl : i < env.length
    · rw [List.getElem?_set_self hl] at e; cases e
    · rw [List.getElem?_eq_none (by rw [List.length_set]; omega)] at e; cases e
  · rw [List.getElem?_set_ne hk]
    exact g.rep k m e
/-- whom an except clause takes: the class's name, or nobody known -/
abbrev Tab := String → Option Bool
def ssTryK (i j : Nat) (tab : Tab) (f : SS) : SS := fun env => match f env with
  | .exc x e => match tab x.C, x.row with
    | some true, none => if i < e.length ∧ j < e.length then .ok (.nx, (e.set j (some (.d (.exc x.C)))).set i none) else .bad
    | _, _ => .bad
  | r => r
section
variable {G : Gx} {X : Cx} {W : WX'} {P : Px} {x n y : Str} {c : Value} {body : List Stmt} {np pos pos' ps pn2 py : Pos} {f : SS} {tab : Tab}
theorem xs_tryK (i j : Nat) (hK : G.K = X.K) (hs : X.stack = X.env :: X.outer) (hf : X.env.frame = some X.env.locals) (hex : X.ex = []) (hN : X.N.Nodup) (tk : Takes X W) (hc : Names X x c) (ht : ∀ C b, tab C = some b → PySem.W.exmOne G.K (.ref (G.ad C)) c = some b)
    (hb : ∀ (W' : WX') (pn : List (Addr × Obj)) (xe : Value → Shared → Prop), Takes (X.tr pn xe) W' → PassesOwn (model X.prog X.w) X.A X.env xe → PSs' G (X.tr pn xe) W' P body f)
    (hi : X.N[i]? = some n := by rfl) (hj : X.N[j]? = some y := by rfl) (hij : i ≠ j := by decide) (hln : X.env.kindOf n = some .local := by rfl) (hly : X.env.kindOf y = some .local := by rfl) (hPi : ¬ P i := by decide) (hPj : ¬ P j := by decide)
    (hnd : (n == ("__debug__" : Str)) = false := by decide) (hncd : (n == ("__classdict__" : Str)) = false := by decide)
    (hsw : ∀ (X' : Cx), X'.env = X.env → swapsWith (.Name n pn2) (some (.Name y py)) ps.line X'.env = pure false := by intro _ e; rw [e]; rfl) :
    PS' G X W P (.Try body [.ExceptHandler (some (.Name x np)) (some n) [.Assign [.Name y py] (.Name n pn2) ps] pos'] [] [] pos) (ssTryK i j tab f) := by
  refine ⟨_, ps_try_keep (tb := fun W' => SSem G W' P f) hs hf hex hN hi hj hij hln hly hc tk hnd hncd (fun W' pn xe tk' hp => (hb W' pn xe tk' hp).sem) hsw, fun D Z H σ env S gd p => ?_⟩
  refine ⟨Z, env, S, gd, ?_⟩
  unfold ssTryK at p
  cases e : f env with
  | bad => rw [e] at p; exact p.elim
  | ok r =>
    rw [e] at p
    obtain ⟨fl', e1⟩ := r
    cases fl' <;> exact p
  | exc xx e1 =>
    rw [e] at p
    intro cls d σ' Z' H' S' hx fx s' g'
    cases et : tab xx.C with
    | none => simp only [et] at p; exact p.elim
    | some b =>
      cases er : xx.row with
      | some m => simp only [et, er] at p; cases b <;> exact p.elim
      | none =>
        cases b with
        | false => simp only [et, er] at p; exact p.elim
        | true =>
          simp only [et, er] at p
          split at p
          case isFalse => exact p.elim
          rename_i hl
          have hx' : cls = .ref (G.ad xx.C) ∧ d = none := by
            obtain ⟨h1, h2⟩ := hx
            rw [er] at h2
            exact ⟨h1, h2⟩
          obtain ⟨rfl, rfl⟩ := hx'
          refine ⟨true, by rw [← hK]; exact ht _ _ et, fun _ => ⟨rfl, fun a ha => ?_⟩, fun z => nomatch z⟩
          have st := Stp.newZ (o := EK (.ref (G.ad xx.C)) a) g'.zh ha (U S')
          have g2 := (g'.move (Stp.newZ (o := EK (.ref (G.ad xx.C)) a) g'.zh ha (fun _ => False)) fun _ _ z => z).1
          have g3 := g2.put (i := j) (m := .d (.exc xx.C)) (T := fun _ => False) (v := .ref a) (Hld.data (by simp only [RepD]; exact ⟨a, rfl, upd_same⟩)) hl.2
          have g4 := g3.kill i
          refine p _ _ _ _ ?_ ((s'.trans st).weak fun b z => ?_) (Good.killσ g4)
          · refine fx.trans ⟨fun k hk => ?_, by rw [List.length_set, List.length_set]⟩
            rw [List.getElem?_set_ne (fun (z : i = k) => hPi (by rw [z]; exact hk)), List.getElem?_set_ne (fun (z : j = k) => hPj (by rw [z]; exact hk))]
          · exact (Rs.set_sub (Rs.wipe_le z)).elim id fun z => z.elim
end

/-! ### isinstance of a caught exception -/
def vIsx (tab : Tab) (g : VE) : VE := fun env => match g env with
  | .ok (.d (.exc C)) => match tab C with
    | some b => .ok (.d (.bl b))
    | none => .bad
  | _ => .bad

def rIsEK (K : PySem.W.Frag) : List V → Hp → VK → Prop := fun xs H Q => ∃ (a D : Addr) (c : V) (cv : Value) (b : Bool), xs = [.ref a, c] ∧ H a = some (EK (.ref D) a) ∧ ExcC K D ∧ (∀ u, RelV c u → u = cv) ∧ PySem.W.kitOne K (.ref D) cv = some b ∧ Q (.bl b) H
theorem call_isEK {X : Cx} : CallR X (.builtin "isinstance") (rIsEK X.K) := by
  intro pins s σ H xs us Q I r h
  obtain ⟨a, D, c, cv, b, rfl, ha, C, hcv, e, q⟩ := h
  cases r with
  | cons rx rr =>
    cases rr with
    | cons rt rr =>
      cases rr
      cases rx
      have ec := hcv _ rt
      subst ec
      obtain ⟨⟨oe, vs, hget, h1, h2, h3⟩, _⟩ := I.hok a _ ha
      have J : PySem.W.InstAt s.heap a oe D none := by
        obtain ⟨oc, od, oda, osl⟩ := oe
        dsimp only at h1 h2 h3
        subst h1 h2 h3
        exact ⟨hget, rfl, rfl, trivial⟩
      exact PySem.W.kia_one (PySem.W.handS_kitx_exc C.hg C.hk C.hs C.hd C.ha C.hn C.ht C.hm) I.kIn J e (fun z => nomatch z) fun tk => ⟨.bl b, H, I.kept (t' := tk) fun _ _ z => z, rfl, q⟩
section
variable {G : Gx} {X : Cx} {e : Expr} {g : VE} {T : Str} {p p2 pos : Pos}
/-- isinstance(e, T), T a class: cv its value -/
theorem xv_isx (tab : Tab) {c : V} {cv : Value} (hK : G.K = X.K) (hm : X.mg "isinstance" = none) (ht : ∀ C b, tab C = some b → PySem.W.kitOne G.K (.ref (G.ad C)) cv = some b ∧ ExcC G.K (G.ad C)) (h : PVs G X e g) (hT : PE X (.Name T p2) (tC c)) (hcv : ∀ u, RelV c u → u = cv)
    (hg : Gl X "isinstance" := by rfl)
    (he : starEach (e :: [.Name T p2]) X.env = (false, eval e X.env) :: starEach [.Name T p2] X.env := by rfl) (he2 : starEach (.Name T p2 :: []) X.env = (false, eval (.Name T p2) X.env) :: starEach [] X.env := by rfl) (hpl : (backTo pos (starEach [.Name T p2] X.env)).any (·.1) = false := by rfl) :
    PVs G X (.Call (.Name "isinstance" p) [e, .Name T p2] [] pos) (vIsx tab g) := by
  obtain ⟨te, q, h⟩ := h.ex
  refine ⟨_, pe_callB call_isEK hg hm PyProof.Rows.boot_isinstance (pa_cons q (pa_cons hT pa_nil he2) he) (by decide) (by decide) he hpl, fun Z H σ env S Q gd => ?_⟩
  unfold vIsx
  have h1 := h Z H σ env S (fun x H1 => tCons (tC c) tNil σ H1 fun xs H2 => rIsEK X.K (x :: xs) H2 Q) gd
  cases e1 : g env with
  | ok m =>
    rw [e1] at h1
    cases m with
    | d x =>
      cases x with
      | exc C =>
        simp only
        cases et : tab C with
        | none => trivial
        | some b =>
          intro k
          refine h1 fun v T1 _ r1 => ?_
          simp only [RepM, RepD] at r1
          obtain ⟨a, rfl, ha⟩ := r1
          obtain ⟨k1, k2⟩ := ht C b et
          rw [hK] at k1 k2
          rw [hK] at *
          exact ⟨a, G.ad C, c, cv, b, rfl, gd.zh _ _ ha, k2, hcv, k1, k _ (fun _ => False) (fun _ z => z.elim) (by simp [RepM, RepD])⟩
      | _ => trivial
    | _ => trivial
  | _ => trivial
theorem xv_isO (tab : Tab) {Ta : Addr} (hK : G.K = X.K) (hm : X.mg "isinstance" = none) (hmT : X.mg T = some (.ref Ta)) (ht : ∀ C b, tab C = some b → PySem.W.kitOne G.K (.ref (G.ad C)) (.ref Ta) = some b ∧ ExcC G.K (G.ad C)) (h : PVs G X e g) (hgT : Gl X T := by rfl) (hdb : (T == ("__debug__" : Str)) = false := by decide)
    (hg : Gl X "isinstance" := by rfl)
    (he : starEach (e :: [.Name T p2]) X.env = (false, eval e X.env) :: starEach [.Name T p2] X.env := by rfl) (he2 : starEach (.Name T p2 :: []) X.env = (false, eval (.Name T p2) X.env) :: starEach [] X.env := by rfl) (hpl : (backTo pos (starEach [.Name T p2] X.env)).any (·.1) = false := by rfl) :
    PVs G X (.Call (.Name "isinstance" p) [e, .Name T p2] [] pos) (vIsx tab g) :=
  xv_isx tab (c := .ref Ta) (cv := .ref Ta) hK hm ht h (pe_glob hgT hmT rfl hdb) (fun u r => r) hg he he2 hpl
theorem xv_isT (tab : Tab) {ty : String} (hK : G.K = X.K) (hm : X.mg "isinstance" = none) (hmT : X.mg T = none) (hv : bootBuiltins T = some (.type ty)) (ht : ∀ C b, tab C = some b → PySem.W.kitOne G.K (.ref (G.ad C)) (.type ty) = some b ∧ ExcC G.K (G.ad C)) (h : PVs G X e g) (hgT : Gl X T := by rfl) (hn : T ≠ "__name__" := by decide) (hdb : (T == ("__debug__" : Str)) = false := by decide)
    (hg : Gl X "isinstance" := by rfl)
    (he : starEach (e :: [.Name T p2]) X.env = (false, eval e X.env) :: starEach [.Name T p2] X.env := by rfl) (he2 : starEach (.Name T p2 :: []) X.env = (false, eval (.Name T p2) X.env) :: starEach [] X.env := by rfl) (hpl : (backTo pos (starEach [.Name T p2] X.env)).any (·.1) = false := by rfl) :
    PVs G X (.Call (.Name "isinstance" p) [e, .Name T p2] [] pos) (vIsx tab g) :=
  xv_isx tab (c := .ty ty) (cv := .type ty) hK hm ht h (pe_bltn (v := .ty ty) hgT hmT hv rfl hn hdb) (fun u r => r) hg he he2 hpl
end
end FL
namespace FL
open PySem PySem.W
theorem kit_ref {K : Frag} {C : Addr} {t : Value} {b : Bool} (hdct : hasDictIn K C = true) (ht : typeIn K (.ref C) = some (.type "type")) (h4 : subIn K t (.ref C) = some b) (hs : t = .ref C → b = true) : kitOne K t (.ref C) = some b := by
  unfold kitOne
  by_cases h : (t == .ref C) = true
  · rw [if_pos h, hs (beq_iff_eq.mp h)]
  · rw [if_neg h]
    obtain ⟨cd, hc, _⟩ := any_some hdct
    have e2 : ((clsIn K C).isSome && typeIn K (.ref C) == some (.type "type")) = true := by rw [hc, ht] <;> rfl
    show (if ((clsIn K C).isSome && typeIn K (.ref C) == some (.type "type")) = true then subIn K t (.ref C) else none) = some b
    rw [if_pos e2]
    exact h4
theorem kit_typ {K : Frag} {C : Addr} {T : String} {b : Bool} (hm : kitMeta T = true) (h4 : subIn K (.ref C) (.type T) = some b) : kitOne K (.ref C) (.type T) = some b := by
  unfold kitOne
  rw [if_neg (by intro z; have := beq_iff_eq.mp z; cases this)]
  show (if kitMeta T = true then subIn K (.ref C) (.type T) else none) = some b
  rw [if_pos hm]
  exact h4
end FL

set_option maxHeartbeats 2000000
/-! FLX: walks over lists that stay where they are: watched slots. -/
namespace FL
open PySem L2 Classical

def wOk (ws : List Nat) (env0 env : Env) : Prop := ∀ i ∈ ws, env[i]? = env0[i]?
def Wt (ws : List Nat) (σ0 : L2.St) (env0 : Env) (σ : L2.St) (env : Env) : Prop := ∀ i ∈ ws, σ[i]? = σ0[i]? ∧ env[i]? = env0[i]?
structure YieldsW (G : Gx) (ws : List Nat) (Z0 : Hp) (σ0 : L2.St) (env0 : Env) (J : It) (xs : List D) : Prop where
  stop : ∀ Z H σ env S i, Good G Z H σ env S → Same Z0 Z → Wt ws σ0 env0 σ env → xs.length ≤ i → J.stop i H
  item : ∀ Z H σ env S i d, Good G Z H σ env S → Same Z0 Z → Wt ws σ0 env0 σ env → xs[i]? = some d → J.go i H ∧ ∀ x H', J.yld i H x H' → ∃ Z', Stp Z H (fun _ => False) Z' H' (fun _ => False) ∧ RepD G Z' d x
abbrev SIw := Env → Res (List D)
def TIokW (G : Gx) (ws : List Nat) (t : TI) (f : SIw) : Prop := ∀ (Z H : Hp) (σ : L2.St) (env : Env) (S : Rs) (R : It → Hp → Prop), Good G Z H σ env S →
  match f env with
  | .ok xs => (∀ J, YieldsW G ws Z σ env J xs → R J H) → t σ H R
  | _ => True
structure PIw (G : Gx) (X : Cx) (ws : List Nat) (tg e : Expr) (f : SIw) : Prop where
  ex : ∃ t, PI X tg e t ∧ TIokW G ws t f

/-! ### names, zip of names, enumerate of a name -/
def iwN (i : Nat) : SIw := fun env => match getE env i with
  | .ok m => match brw m with
    | some (_, xs) => .ok xs
    | none => .bad
  | _ => .bad
def iwZ (i j : Nat) : SIw := fun env => match getE env i, getE env j with
  | .ok m1, .ok m2 => match brw m1, brw m2 with
    | some (b1, xs), some (b2, ys) => if b1 = b2 then .ok (List.zipWith pairD xs ys) else .bad
    | _, _ => .bad
  | _, _ => .bad
def iwE (i : Nat) : SIw := fun env => match getE env i with
  | .ok m => match brw m with
    | some (false, xs) => .ok (enumD 0 xs)
    | _ => .bad
  | _ => .bad
theorem wt_rep {G : Gx} {Z H : Hp} {σ σ0 : L2.St} {env env0 : Env} {S : Rs} {ws : List Nat} {i : Nat} {m : M} {v : V} {b : Bool} {xs : List D} (g : Good G Z H σ env S) (w : Wt ws σ0 env0 σ env) (hi : i ∈ ws) (e : env0[i]? = some (some m)) (hv : σ0[i]? = some (some v)) (eb : brw m = some (b, xs)) :
    ∃ a vs, v = .ref a ∧ RepDs G Z xs vs ∧ (b = true → SqT G.K H a vs) ∧ (b = false → SqL G.K H a vs) := by
  obtain ⟨w1, w2⟩ := w i hi
  rw [e] at w2
  rw [hv] at w1
  obtain ⟨v', hv', r⟩ := g.rep i m w2
  rw [w1] at hv'
  cases hv'
  obtain ⟨a, vs, rfl, rr, sq⟩ := brw_rep g.zh r eb
  obtain ⟨s1, s2⟩ := sq Z H (Same.refl _) g.zh fun _ _ _ z => z
  exact ⟨a, vs, rfl, rr, s1, s2⟩
section
variable {G : Gx} {X : Cx} {tg : Expr} {x y : Str} {p p2 pc : Pos}
theorem xw_name (i : Nat) (hK : G.K = X.K) (hN : X.N[i]? = some x := by rfl) (hv : Vis X.env.scope x := by first | exact Or.inl rfl | exact Or.inr (Or.inl rfl) | exact Or.inr (Or.inr rfl)) (hd : (x == ("__debug__" : Str)) = false := by decide) (hcd : (x == ("__classdict__" : Str)) = false := by decide) :
    PIw G X [i] tg (.Name x p) (iwN i) := by
  have h1 : PI X tg (.Name x p) (iList G.K (tVar i)) := by rw [hK]; exact pi_list (pe_var hN hv hd hcd)
  have h2 : PI X tg (.Name x p) (iTup G.K (tVar i)) := by rw [hK]; exact pi_tup (pe_var hN hv hd hcd)
  refine ⟨_, PI.or h1 h2, fun Z H σ env S R gd => ?_⟩
  unfold iwN
  rcases getE_cases env i with ⟨m, e⟩ | e
  case inr => rw [e]; trivial
  rw [e]
  simp only
  cases e3 : brw m with
  | none => trivial
  | some pr =>
    obtain ⟨bb, xs⟩ := pr
    intro k
    have em := getE_ok e
    obtain ⟨v, hv, r⟩ := gd.rep i m em
    have w0 : Wt [i] σ env σ env := fun _ _ => ⟨rfl, rfl⟩
    obtain ⟨a, vs, rfl, rr, s1, s2⟩ := wt_rep gd w0 (by simp) em hv e3
    cases bb with
    | false =>
      refine .inl ⟨.ref a, hv, a, rfl, ⟨vs, s2 rfl⟩, k _ ⟨fun Z1 H1 σ1 env1 S1 n g1 hz w hl => ?_, fun Z1 H1 σ1 env1 S1 n d g1 hz w ed => ?_⟩⟩
      · obtain ⟨a', us, ea, rr1, _, q2⟩ := wt_rep g1 w (by simp) em hv e3
        cases ea
        exact ⟨us, q2 rfl, by rw [← rr1.len]; exact hl⟩
      · obtain ⟨a', us, ea, rr1, _, q2⟩ := wt_rep g1 w (by simp) em hv e3
        cases ea
        obtain ⟨u, hu, ru⟩ := rr1.get ed
        refine ⟨⟨us, u, q2 rfl, hu⟩, fun z H' hy => ?_⟩
        obtain ⟨rfl, hx⟩ := hy
        have := hx us (q2 rfl)
        rw [hu] at this; cases this
        exact ⟨Z1, Stp.refl g1.zh, ru⟩
    | true =>
      refine .inr ⟨.ref a, hv, a, rfl, ⟨vs, s1 rfl⟩, k _ ⟨fun Z1 H1 σ1 env1 S1 n g1 hz w hl => ?_, fun Z1 H1 σ1 env1 S1 n d g1 hz w ed => ?_⟩⟩
      · obtain ⟨a', us, ea, rr1, q1, _⟩ := wt_rep g1 w (by simp) em hv e3
        cases ea
        exact ⟨us, q1 rfl, by rw [← rr1.len]; exact hl⟩
      · obtain ⟨a', us, ea, rr1, q1, _⟩ := wt_rep g1 w (by simp) em hv e3
        cases ea
        obtain ⟨u, hu, ru⟩ := rr1.get ed
        refine ⟨⟨us, u, q1 rfl, hu⟩, fun z H' hy => ?_⟩
        obtain ⟨rfl, hx⟩ := hy
        have := hx us (q1 rfl)
        rw [hu] at this; cases this
        exact ⟨Z1, Stp.refl g1.zh, ru⟩
theorem xw_enum {elts : List Expr} {kk : Nat} {tpos : Pos} (i : Nat) (hK : G.K = X.K) (hm : X.mg "enumerate" = none) (hN : X.N[i]? = some x := by rfl) (hv : Vis X.env.scope x := by first | exact Or.inl rfl | exact Or.inr (Or.inl rfl) | exact Or.inr (Or.inr rfl)) (hd : (x == ("__debug__" : Str)) = false := by decide) (hcd : (x == ("__classdict__" : Str)) = false := by decide)
    (hg : Gl X "enumerate" := by rfl) (hs : starEach [.Name x p] X.env = [(false, eval (.Name x p) X.env)] := by rfl) (hst : starEach [.Name x p] X.env = (false, eval (.Name x p) X.env) :: starEach [] X.env := by rfl) :
    PIw G X [i] (.Tuple elts kk tpos) (.Call (.Name "enumerate" p2) [.Name x p] [] pc) (iwE i) := by
  have h1 : PI X (.Tuple elts kk tpos) (.Call (.Name "enumerate" p2) [.Name x p] [] pc) (iEnum G.K (tCons (tVar i) tNil)) := by rw [hK]; exact pi_enum hg hm (pa_cons (pe_var hN hv hd hcd) pa_nil hst) hs
  refine ⟨_, h1, fun Z H σ env S R gd => ?_⟩
  unfold iwE
  rcases getE_cases env i with ⟨m, e⟩ | e
  case inr => rw [e]; trivial
  rw [e]
  simp only
  cases e3 : brw m with
  | none => trivial
  | some pr =>
    obtain ⟨bb, xs⟩ := pr
    cases bb with
    | true => trivial
    | false =>
      intro k
      have em := getE_ok e
      obtain ⟨v, hv, r⟩ := gd.rep i m em
      have w0 : Wt [i] σ env σ env := fun _ _ => ⟨rfl, rfl⟩
      obtain ⟨a, vs, rfl, rr, s1, s2⟩ := wt_rep gd w0 (by simp) em hv e3
      refine ⟨.ref a, hv, a, vs, rfl, s2 rfl, k _ ⟨fun Z1 H1 σ1 env1 S1 n g1 hz w hl => ?_, fun Z1 H1 σ1 env1 S1 n d g1 hz w ed => ?_⟩⟩
      · obtain ⟨a', us, ea, rr1, _, q2⟩ := wt_rep g1 w (by simp) em hv e3
        cases ea
        exact ⟨us, q2 rfl, by rw [enum_len] at hl; rw [← rr1.len]; exact hl⟩
      · obtain ⟨a', us, ea, rr1, _, q2⟩ := wt_rep g1 w (by simp) em hv e3
        cases ea
        obtain ⟨y', ey, rfl⟩ := enum_get ed
        obtain ⟨u, hu, ru⟩ := rr1.get ey
        refine ⟨⟨us, u, q2 rfl, hu⟩, fun z H2 hy => ?_⟩
        obtain ⟨T, v', rfl, hT, rfl, k1⟩ := hy
        have e1 := k1 us (q2 rfl)
        rw [hu] at e1; cases e1
        have st := Stp.newZ (o := .tup [.int (n : Nat), u]) g1.zh hT (fun _ => False)
        refine ⟨_, st, ?_⟩
        simp only [RepD, RepDs, Nat.zero_add]
        exact ⟨T, [.int (n : Nat), u], rfl, SqT.of upd_same, _, [u], rfl, rfl, u, [], rfl, RepD.mono st.z _ _ ru, rfl⟩
theorem xw_zip {elts : List Expr} {kk : Nat} {tpos p1 pz : Pos} (i j : Nat) (hK : G.K = X.K) (hm : X.mg "zip" = none)
    (hN : X.N[i]? = some x := by rfl) (hv : Vis X.env.scope x := by first | exact Or.inl rfl | exact Or.inr (Or.inl rfl) | exact Or.inr (Or.inr rfl)) (hd : (x == ("__debug__" : Str)) = false := by decide) (hcd : (x == ("__classdict__" : Str)) = false := by decide)
    (hN2 : X.N[j]? = some y := by rfl) (hv2 : Vis X.env.scope y := by first | exact Or.inl rfl | exact Or.inr (Or.inl rfl) | exact Or.inr (Or.inr rfl)) (hd2 : (y == ("__debug__" : Str)) = false := by decide) (hcd2 : (y == ("__classdict__" : Str)) = false := by decide)
    (hgz : Gl X "zip" := by rfl) (hs1 : starEach [.Name x p1, .Name y p2] X.env = (false, eval (.Name x p1) X.env) :: starEach [.Name y p2] X.env := by rfl) (hs2 : starEach [.Name y p2] X.env = (false, eval (.Name y p2) X.env) :: starEach [] X.env := by rfl) (hpl : (backTo pc (starEach [.Name y p2] X.env)).any (·.1) = false := by rfl) :
    PIw G X [i, j] (.Tuple elts kk tpos) (.Call (.Name "zip" pz) [.Name x p1, .Name y p2] [] pc) (iwZ i j) := by
  have h1 : PI X (.Tuple elts kk tpos) (.Call (.Name "zip" pz) [.Name x p1, .Name y p2] [] pc) (RZ.iZipA G.K (tCons (tVar i) (tCons (tVar j) tNil))) := by
    rw [hK]
    exact RZ.pi_zipA hgz hm (pa_cons (pe_var hN hv hd hcd) (pa_cons (pe_var hN2 hv2 hd2 hcd2) pa_nil hs2) hs1) hs1 hpl
  refine ⟨_, h1, fun Z H σ env S R gd => ?_⟩
  unfold iwZ
  rcases getE_cases env i with ⟨m1, e1⟩ | e1
  case inr => rw [e1]; trivial
  rcases getE_cases env j with ⟨m2, e2⟩ | e2
  case inr => rw [e1, e2]; trivial
  rw [e1, e2]
  simp only
  cases e3 : brw m1 with
  | none => trivial
  | some pr =>
    obtain ⟨b1, xs⟩ := pr
    cases e4 : brw m2 with
    | none => trivial
    | some pr =>
      obtain ⟨b2, ys⟩ := pr
      simp only
      by_cases hb : b1 = b2
      case neg => rw [if_neg hb]; trivial
      rw [if_pos hb]
      subst hb
      intro k
      have em1 := getE_ok e1
      have em2 := getE_ok e2
      obtain ⟨v1, hv1, _⟩ := gd.rep i m1 em1
      obtain ⟨v2, hv2', _⟩ := gd.rep j m2 em2
      have w0 : Wt [i, j] σ env σ env := fun _ _ => ⟨rfl, rfl⟩
      obtain ⟨a, vs, rfl, rr, s1, s2⟩ := wt_rep gd w0 (by simp) em1 hv1 e3
      obtain ⟨c, ws, rfl, rr2, t1, t2⟩ := wt_rep gd w0 (by simp) em2 hv2' e4
      have two : ∀ {Z1 H1 : Hp} {σ1 : L2.St} {env1 : Env} {S1 : Rs}, Good G Z1 H1 σ1 env1 S1 → Wt [i, j] σ env σ1 env1 → ∃ us zs, RepDs G Z1 xs us ∧ RepDs G Z1 ys zs ∧ (b1 = true → SqT G.K H1 a us ∧ SqT G.K H1 c zs) ∧ (b1 = false → SqL G.K H1 a us ∧ SqL G.K H1 c zs) := fun g1 w => by
        obtain ⟨a', us, ea, rr1, q1, q2⟩ := wt_rep g1 w (by simp) em1 hv1 e3
        cases ea
        obtain ⟨c', zs, ec, rr3, q3, q4⟩ := wt_rep g1 w (by simp) em2 hv2' e4
        cases ec
        exact ⟨us, zs, rr1, rr3, fun h => ⟨q1 h, q3 h⟩, fun h => ⟨q2 h, q4 h⟩⟩
      refine ⟨.ref a, hv1, .ref c, hv2', a, c, vs, ws, rfl, ?_⟩
      cases b1 with
      | false =>
        refine .inl ⟨s2 rfl, t2 rfl, k _ ⟨fun Z1 H1 σ1 env1 S1 n g1 hz w hl => ?_, fun Z1 H1 σ1 env1 S1 n d g1 hz w ed => ?_⟩⟩
        · obtain ⟨us, zs, r1, r2, _, q⟩ := two g1 w
          refine ⟨us, zs, (q rfl).1, (q rfl).2, ?_⟩
          rw [List.length_zipWith] at hl
          rw [← r1.len, ← r2.len]
          omega
        · obtain ⟨us, zs, r1, r2, _, q⟩ := two g1 w
          obtain ⟨x1, y1, ex, ey, rfl⟩ := zw_get ed
          obtain ⟨u, hu, ru⟩ := r1.get ex
          obtain ⟨z, hz', rz⟩ := r2.get ey
          refine ⟨⟨us, zs, u, z, (q rfl).1, (q rfl).2, hu, hz'⟩, fun u' H' hy => ?_⟩
          obtain ⟨T, v', w', rfl, hT, rfl, k3, k4⟩ := hy
          have e5 := k3 us (q rfl).1
          have e6 := k4 zs (q rfl).2
          rw [hu] at e5; cases e5
          rw [hz'] at e6; cases e6
          have st := Stp.newZ (o := .tup [u, z]) g1.zh hT (fun _ => False)
          refine ⟨_, st, ?_⟩
          simp only [pairD, RepD, RepDs]
          exact ⟨T, [u, z], rfl, SqT.of upd_same, u, [z], rfl, RepD.mono st.z _ _ ru, z, [], rfl, RepD.mono st.z _ _ rz, rfl⟩
      | true =>
        refine .inr ⟨s1 rfl, t1 rfl, k _ ⟨fun Z1 H1 σ1 env1 S1 n g1 hz w hl => ?_, fun Z1 H1 σ1 env1 S1 n d g1 hz w ed => ?_⟩⟩
        · obtain ⟨us, zs, r1, r2, q, _⟩ := two g1 w
          refine ⟨us, zs, (q rfl).1, (q rfl).2, ?_⟩
          rw [List.length_zipWith] at hl
          rw [← r1.len, ← r2.len]
          omega
        · obtain ⟨us, zs, r1, r2, q, _⟩ := two g1 w
          obtain ⟨x1, y1, ex, ey, rfl⟩ := zw_get ed
          obtain ⟨u, hu, ru⟩ := r1.get ex
          obtain ⟨z, hz', rz⟩ := r2.get ey
          refine ⟨⟨us, zs, u, z, (q rfl).1, (q rfl).2, hu, hz'⟩, fun u' H' hy => ?_⟩
          obtain ⟨T, v', w', rfl, hT, rfl, k3, k4⟩ := hy
          have e5 := k3 us (q rfl).1
          have e6 := k4 zs (q rfl).2
          rw [hu] at e5; cases e5
          rw [hz'] at e6; cases e6
          have st := Stp.newZ (o := .tup [u, z]) g1.zh hT (fun _ => False)
          refine ⟨_, st, ?_⟩
          simp only [pairD, RepD, RepDs]
          exact ⟨T, [u, z], rfl, SqT.of upd_same, u, [z], rfl, RepD.mono st.z _ _ ru, z, [], rfl, RepD.mono st.z _ _ rz, rfl⟩
end

/-! ### for -/
noncomputable def flw (ws : List Nat) (env0 : Env) (g : SG) (b : SS) : List D → SS
  | [], env => if wOk ws env0 env then .ok (.nx, env) else .bad
  | x :: xs, env => if wOk ws env0 env then (match g (.d x) env with
    | .ok e => match b e with
      | .ok (.nx, e2) => flw ws env0 g b xs e2
      | .ok (.ct, e2) => flw ws env0 g b xs e2
      | .ok (.brk, e2) => .ok (.nx, e2)
      | .ok (.ret m, e2) => .ok (.ret m, e2)
      | .exc x e2 => .exc x e2
      | .bad => .bad
    | _ => .bad) else .bad
noncomputable def ssForW (ws : List Nat) (fi : SIw) (g : SG) (b : SS) : SS := fun env => match fi env with
  | .ok xs => flw ws env g b xs env
  | _ => .bad
section
variable {G : Gx} {X : Cx} {W : WX'} {P : Px} {fi : SIw} {g : SG} {b : SS} {ti : TI} {tg : TG} {tb : TS} {ws : List Nat} {pos : Pos}
theorem SSok.forW (hP : ∀ i ∈ ws, P i) (hi : TIokW G ws ti fi) (hg : SGok G P tg g) (hb : SSok G W P tb b) (hout : ∀ Pp : Prop, Pp → True) : SSok G W P (tFor ti tg tb) (ssForW ws fi g b) := fun D Z H σ env S gd p => by
  unfold ssForW at p
  have h1 := hi Z H σ env S (fun J H1 => ∃ W' : Nat → Nat → L2.St → Hp → Prop, (∃ m, W' 0 m σ H1) ∧ ∀ i m σ H, W' i m σ H →
      (J.stop i H ∧ D.nx σ H) ∨ (J.go i H ∧ ∃ N : L2.St → Hp → Prop, (∀ σ' H', N σ' H' → ∃ m', m' < m ∧ W' (i + 1) m' σ' H') ∧ ∀ x H', J.yld i H x H' → tg x σ H' fun σ2 H2 => tb { D with nx := N, ct := N, bk := D.nx } σ2 H2)) gd
  cases e : fi env with
  | bad => rw [e] at p; exact p.elim
  | exc x e1 => rw [e] at p; exact p.elim
  | ok xs =>
    rw [e] at p h1
    refine h1 fun J hY => ?_
    refine ⟨fun i m σ' H' => m = xs.length - i ∧ i ≤ xs.length ∧ ∃ env' Z' S', Good G Z' H' σ' env' S' ∧ Same Z Z' ∧ Fix P σ σ' ∧ SPost G W P D Z' H' (U S') σ' (flw ws env g b (xs.drop i) env'), ⟨xs.length, by simp, Nat.zero_le _, env, Z, S, gd, Same.refl _, Fix.refl, by simpa using p⟩, ?_⟩
    rintro i m σ1 H1 ⟨rfl, hi', env1, Z1, S1, g1, z1, f1, p1⟩
    by_cases hlt : i < xs.length
    · refine .inr ?_
      rw [List.drop_eq_getElem_cons hlt] at p1
      unfold flw at p1
      by_cases hw : wOk ws env env1
      case neg => rw [if_neg hw] at p1; exact p1.elim
      rw [if_pos hw] at p1
      have wt : Wt ws σ env σ1 env1 := fun k hk => ⟨f1.1 k (hP k hk), hw k hk⟩
      obtain ⟨go, yl⟩ := hY.item Z1 H1 σ1 env1 S1 i xs[i] g1 z1 wt (List.getElem?_eq_getElem hlt)
      refine ⟨go, fun σ' H' => ∃ env' Z' S', Good G Z' H' σ' env' S' ∧ Same Z Z' ∧ Fix P σ σ' ∧ SPost G W P D Z' H' (U S') σ' (flw ws env g b (xs.drop (i + 1)) env'), fun σ' H' h => ⟨xs.length - (i + 1), by omega, rfl, hlt, h⟩, fun x H2 hy => ?_⟩
      obtain ⟨Z2, s2, rx⟩ := yl x H2 hy
      obtain ⟨g2, _⟩ := g1.move s2 fun _ _ z => z
      have s2' : Stp Z1 H1 (U S1) Z2 H2 (U S1) := ((s2.frame (U S1)).from fun a z => z.elim (fun z => z.elim) id).weak fun a z => .inr z
      have hh := fun Q => hg Z2 H2 σ1 env1 S1 (.d xs[i]) (fun _ => False) x Q g2 (Hld.data rx)
      cases e1 : g (.d xs[i]) env1 with
      | exc x e2 => rw [e1] at p1; exact p1.elim
      | bad => rw [e1] at p1; exact p1.elim
      | ok e2 =>
        simp only [e1] at p1 hh
        refine hh _ fun σ3 S3 fx3 g3 u3 => ?_
        have s3 : Stp Z1 H1 (U S1) Z2 H2 (U S3) := s2'.weak fun a z => (u3 a z).elim id fun z => z.elim
        have p3 := p1.shift s3 fx3
        refine hb _ Z2 H2 σ3 e2 S3 g3 ?_
        cases e4 : b e2 with
        | exc x e5 => rw [e4] at p3; exact p3
        | bad => rw [e4] at p3; exact p3.elim
        | ok q2 =>
          obtain ⟨f', e5⟩ := q2
          rw [e4] at p3
          cases f' with
          | nx => exact fun σ4 Z4 H4 S4 f4 s4 g4 => ⟨e5, Z4, S4, g4, (z1.trans s3.z).trans s4.z, (f1.trans fx3).trans f4, p3.shift s4 f4⟩
          | ct => exact fun σ4 Z4 H4 S4 f4 s4 g4 => ⟨e5, Z4, S4, g4, (z1.trans s3.z).trans s4.z, (f1.trans fx3).trans f4, p3.shift s4 f4⟩
          | brk => exact fun σ4 Z4 H4 S4 f4 s4 g4 => p3 σ4 Z4 H4 S4 f4 s4 g4
          | ret m => exact fun v σ4 Z4 H4 S4 T f4 s4 g4 h => p3 v σ4 Z4 H4 S4 T f4 s4 g4 h
    · have e : i = xs.length := by omega
      rw [e, List.drop_length] at p1
      unfold flw at p1
      by_cases hw : wOk ws env env1
      case neg => rw [if_neg hw] at p1; exact p1.elim
      rw [if_pos hw] at p1
      have wt : Wt ws σ env σ1 env1 := fun k hk => ⟨f1.1 k (hP k hk), hw k hk⟩
      exact .inl ⟨hY.stop Z1 H1 σ1 env1 S1 i g1 z1 wt (by omega), p1 σ1 Z1 H1 S1 Fix.refl (Stp.refl g1.zh) g1⟩
theorem SPost.more {P' : Px} {D : Ends} {Z H : Hp} {R : Rg} {σ : L2.St} {r : Res (Fl × Env)} (h : ∀ i, P i → P' i) (p : SPost G W P D Z H R σ r) : SPost G W P' D Z H R σ r := by
  have fx : ∀ {a b : L2.St}, Fix P' a b → Fix P a b := fun f => ⟨fun i hi => f.1 i (h i hi), f.2⟩
  cases r with
  | bad => exact p.elim
  | exc x e => exact fun cls d σ' Z' H' S' hx f s g => p cls d σ' Z' H' S' hx (fx f) s g
  | ok q =>
    obtain ⟨f', e⟩ := q
    cases f' with
    | nx => exact fun σ' Z' H' S' f s g => p σ' Z' H' S' (fx f) s g
    | brk => exact fun σ' Z' H' S' f s g => p σ' Z' H' S' (fx f) s g
    | ct => exact fun σ' Z' H' S' f s g => p σ' Z' H' S' (fx f) s g
    | ret m => exact fun v σ' Z' H' S' T f s g l => p v σ' Z' H' S' T (fx f) s g l
theorem xs_forW {te ie : Expr} {body : List Stmt} (hp : PassesOwn (model X.prog X.w) X.A X.env X.xe) (hc : X.calm = true) (hi : PIw G X ws te ie fi) (hg : PGs' G X (fun k => P k ∨ k ∈ ws) te g) (hb : PSs' G X W (fun k => P k ∨ k ∈ ws) body b)
    (hs : ∀ x, foldedSetIterable ie X.env x = pure x := by intro _; rfl) : PS' G X W P (.For te ie body [] pos) (ssForW ws fi g b) := by
  obtain ⟨t, p, hi⟩ := hi.ex
  obtain ⟨u, q, hg⟩ := hg.ex
  obtain ⟨v, r, hb⟩ := hb.ex
  have h := SSok.forW (P := fun k => P k ∨ k ∈ ws) (fun i hi => .inr hi) hi hg hb fun _ _ => trivial
  exact ⟨_, ps_for hp hc p q r hs, fun D Z H σ env S gd p => h D Z H σ env S gd (p.more fun i => .inl)⟩
end
end FL

set_option maxHeartbeats 2000000
/-! FLY: comprehensions over lists that stay; copies. -/
namespace FL
open PySem L2 Classical
noncomputable def lclw (own ws : List Nat) (env0 : Env) (g : SG) (c : SB) (f : SE) : List D → List M → Env → Res (List M × Env)
  | [], acc, env => if wOk ws env0 env then .ok (acc, env) else .bad
  | x :: xs, acc, env => if wOk ws env0 env then (match g (.d x) env with
    | .ok e1 => match c e1 with
      | .ok (true, e2) => match f e2 with
        | .ok (m, e3) => lclw own ws env0 g c f xs (acc ++ [m]) (killAll own e3)
        | _ => .bad
      | .ok (false, e2) => lclw own ws env0 g c f xs acc (killAll own e2)
      | _ => .bad
    | _ => .bad) else .bad
noncomputable def sLcW (own ws : List Nat) (fi : SIw) (g : SG) (c : SB) (f : SE) : SE := fun env => match fi env with
  | .ok xs => if xs.length ≤ sizeLine ∧ ∀ i ∈ ws, i ∉ own then (match lclw own ws env g c f xs [] (killAll own env) with
    | .ok (ms, e2) => .ok (.lst ms, e2)
    | _ => .bad) else .bad
  | _ => .bad
section
variable {G : Gx} {X : Cx} {W : WX'} {fi : SIw} {g : SG} {c : SB} {f : SE} {ti : TI} {own ws : List Nat}
theorem SEok.lcW {tg : TG} {tt : TT} {te : TE} (hi : TIokW G ws ti fi) (hg : SGok G (fun i => i ∉ own) tg g) (hc : SBok G W0 tt c) (he : SEok G W0 te f) : SEok G W (tLc ti tg tt te own) (sLcW own ws fi g c f) := fun Z H σ env S Q gd => by
  unfold sLcW
  have h1 := fun R => hi Z H σ env S R gd
  cases e1 : fi env with
  | bad => trivial
  | exc x e2 => trivial
  | ok xs =>
    simp only [e1] at h1
    simp only
    by_cases hl : xs.length ≤ sizeLine ∧ ∀ i ∈ ws, i ∉ own
    case neg => rw [if_neg hl]; trivial
    rw [if_pos hl]
    obtain ⟨hl, hwo⟩ := hl
    cases e2 : lclw own ws env g c f xs [] (killAll own env) with
    | exc _ _ => trivial
    | bad => trivial
    | ok r2 =>
      obtain ⟨ms, env2⟩ := r2
      intro q
      refine h1 _ fun J hY D0 hD => ?_
      have g1 := gd
      have s1 : Stp Z H (U S) Z H (U S) := Stp.refl gd.zh
      obtain ⟨S2, g2, u2⟩ := g1.wipe own
      have st0 := Stp.new (o := HO.lst []) g1.zh hD (U S2)
      have gS := (g2.move (Stp.new (o := HO.lst []) g1.zh hD (fun _ => False)) fun _ _ z => z)
      have hl0 : Hld G Z (upd H D0 (.lst [])) (U S2) (.lst []) (fun a => False ∨ a = D0) (.ref D0) :=
        lst_new (ms := []) (vs := []) (T := fun _ => False) g1.zh (by simp [RepMs]) (fun _ z => z.elim) (fun _ z => z.elim) (fun _ z => z.elim) hD (fun z => g2.al' _ z hD)
      -- the word: behind i turns what is made so far is in the hand, the rest of the turns ends in ms
      refine ⟨fun i m H' => m = xs.length - i ∧ i ≤ xs.length ∧ ∃ acc e' Z' S' T, Same Z Z' ∧ Good G Z' H' (wipe σ own) e' S' ∧ Hld G Z' H' (U S') (.lst acc) T (.ref D0) ∧ acc.length ≤ i ∧
          Stp Z H (U S) Z' H' (fun a => U S' a ∨ T a) ∧ lclw own ws env g c f (xs.drop i) acc e' = .ok (ms, env2),
        ⟨xs.length, by simp, Nat.zero_le _, [], _, Z, S2, _, Same.refl _, gS.1, hl0, by simp, ?_, by simpa using e2⟩, ?_⟩
      · refine (s1.trans (Stp.new (o := HO.lst []) g1.zh hD (U S))).weak fun a z => ?_
        rcases z with z | z | z
        · exact .inl (u2 a z)
        · exact z.elim
        · exact .inr z
      · rintro i m H2 ⟨rfl, hi', acc, e', Z2, S3, T, hZ, g3, l3, hacc, s3, e3⟩
        by_cases hlt : i < xs.length
        case neg =>
          have e : i = xs.length := by omega
          rw [e, List.drop_length] at e3
          unfold lclw at e3
          split at e3
          case isFalse => cases e3
          rename_i hw
          cases e3
          refine .inl ⟨hY.stop Z2 H2 (wipe σ own) _ S3 i g3 hZ (fun k hk => ⟨wipe_get (hwo k hk), hw k hk⟩) (by omega), ?_⟩
          exact q _ Z2 H2 S3 T s3 g3.unwipe l3
        refine .inr ?_
        rw [List.drop_eq_getElem_cons hlt] at e3
        unfold lclw at e3
        split at e3
        case isFalse => cases e3
        rename_i hw
        obtain ⟨go, yl⟩ := hY.item Z2 H2 (wipe σ own) _ S3 i xs[i] g3 hZ (fun k hk => ⟨wipe_get (hwo k hk), hw k hk⟩) (List.getElem?_eq_getElem hlt)
        refine ⟨go, fun H' => ∃ acc e' Z' S' T, Same Z Z' ∧ Good G Z' H' (wipe σ own) e' S' ∧ Hld G Z' H' (U S') (.lst acc) T (.ref D0) ∧ acc.length ≤ i + 1 ∧
          Stp Z H (U S) Z' H' (fun a => U S' a ∨ T a) ∧ lclw own ws env g c f (xs.drop (i + 1)) acc e' = .ok (ms, env2), fun H' h => ⟨xs.length - (i + 1), by omega, rfl, hlt, h⟩, fun x H3 hy => ?_⟩
        obtain ⟨Z3, s4, rx⟩ := yl x H3 hy
        have g4 := (g3.move s4 fun _ _ z => z).1
        have l4 := l3.step ((s4.frame (U S3)).from fun a z => z.elim (fun z => z.elim) id)
        have s4' : Stp Z H (U S) Z3 H3 (fun a => U S3 a ∨ T a) := (s3.trans ((s4.frame (fun a => U S3 a ∨ T a)).from fun a z => z.elim (fun z => z.elim) id)).weak fun a z => .inr z
        have l4' : Hld G Z3 H3 (U S3) (.lst acc) T (.ref D0) := ⟨l4.rep, l4.al, l4.zf, l3.dj⟩
        cases eg : g (.d xs[i]) e' with
        | exc _ _ => rw [eg] at e3; cases e3
        | bad => rw [eg] at e3; cases e3
        | ok e4 =>
          rw [eg] at e3
          simp only at e3
          have hh := fun Q => hg Z3 H3 (wipe σ own) e' S3 (.d xs[i]) (fun _ => False) x Q g4 (Hld.data rx)
          simp only [eg] at hh
          refine hh _ fun σ5 S5 fx5 g5 u5 => ⟨wipe_fix fx5, ?_⟩
          have u5' : ∀ a, U S5 a → U S3 a := fun a z => (u5 a z).elim id fun z => z.elim
          have l5 : Hld G Z3 H3 (U S5) (.lst acc) T (.ref D0) := ⟨l4'.rep, l4'.al, l4'.zf, fun a z w => l4'.dj a z (u5' a w)⟩
          have s5 : Stp Z H (U S) Z3 H3 (fun a => U S5 a ∨ T a) := s4'.weak fun a z => z.elim (fun z => .inl (u5' a z)) .inr
          have hc1 := fun Q => hc Z3 H3 σ5 e4 S5 Q g5
          cases ec : c e4 with
          | exc _ _ => rw [ec] at e3; cases e3
          | bad => rw [ec] at e3; cases e3
          | ok rc =>
            obtain ⟨k, e5⟩ := rc
            rw [ec] at e3
            simp only [ec] at hc1
            refine hc1 _ fun Z6 H6 S6 s6 g6 => ?_
            have l6 := l5.step s6
            have s6' : Stp Z H (U S) Z6 H6 (fun a => U S6 a ∨ T a) := s5.trans (s6.frame T)
            have z6 : Same Z Z6 := (hZ.trans s4.z).trans s6.z
            cases k with
            | false =>
              simp only at e3
              rw [if_neg Bool.false_ne_true]
              obtain ⟨S7, g7, u7⟩ := g6.wipe own
              rw [wipe_fix fx5] at g7
              exact ⟨acc, _, Z6, S7, T, z6, g7, ⟨l6.rep, l6.al, l6.zf, fun a z w => l6.dj a z (u7 a w)⟩, by omega, s6'.weak fun a z => z.elim (fun z => .inl (u7 a z)) .inr, e3⟩
            | true =>
              simp only at e3
              rw [if_pos rfl]
              have he1 := fun Q => he Z6 H6 σ5 e5 S6 Q g6
              cases ee : f e5 with
              | exc _ _ => rw [ee] at e3; cases e3
              | bad => rw [ee] at e3; cases e3
              | ok re =>
                obtain ⟨m, e6⟩ := re
                rw [ee] at e3
                simp only [ee] at he1
                simp only at e3
                refine he1 _ fun y Z7 H7 S7 Ty s7 g7 ly => ?_
                have l7 := l6.step s7
                have rep7 := l7.rep
                simp only [RepM] at rep7
                obtain ⟨a0, vs0, T0, ea, sa, ta, ts, ho, rr⟩ := rep7
                cases ea
                have hlen : vs0.length = acc.length := rr.len.symm
                refine ⟨vs0, ho, by rw [hlen]; omega, ?_⟩
                have tyD : ¬ Ty D0 := fun z => l7.dj D0 sa (.inr z)
                have dT : ∀ a, T a → ¬ Ty a := fun a z w => l7.dj a z (.inr w)
                have upz : Same Z7 (upd H7 D0 (.lst (vs0 ++ [y]))) := fun a u e => by
                  have ne : a ≠ D0 := fun z => by rw [z, l7.zf D0 sa] at e; cases e
                  rw [upd_ne ne]; exact g7.zh a u e
                have stU : Stp Z7 H7 (fun a => a = D0) Z7 (upd H7 D0 (.lst (vs0 ++ [y]))) (fun a => a = D0) := ⟨Same.refl _, upz, fun b u e h => by rw [upd_ne h]; exact e, fun a z => .inl z, fun a z => .inl z⟩
                obtain ⟨g8, _⟩ := g7.move stU fun a z w => l7.dj D0 sa (.inl (by rw [← w]; exact z))
                have ryy : RepMs G Z7 (upd H7 D0 (.lst (vs0 ++ [y]))) [m] Ty [y] := by
                  simp only [RepMs]
                  exact ⟨y, [], Ty, fun _ => False, rfl, fun _ z => z, fun _ z => z.elim, fun _ _ z => z, RepM.mono (Same.refl _) _ _ _ _ (fun _ z => z) (fun a o z e => by rw [upd_ne (fun w => tyD (by rw [← w]; exact z))]; exact e) ly.rep, rfl⟩
                have rr' : RepMs G Z7 (upd H7 D0 (.lst (vs0 ++ [y]))) acc T0 vs0 := RepMs.mono (Same.refl _) _ _ _ _ (fun _ z => z) (fun a o z e => by rw [upd_ne (fun w => ta (by rw [← w]; exact z))]; exact e) rr
                obtain ⟨S8, g9, u9⟩ := g8.wipe own
                rw [wipe_fix fx5] at g9
                refine ⟨acc ++ [m], _, Z7, S8, fun a => T a ∨ Ty a, z6.trans s7.z, g9, ⟨?_, fun a z => ?_, fun a z => z.elim (l7.zf a) (ly.zf a), fun a z w => ?_⟩, by rw [List.length_append]; simp; omega, ?_, e3⟩
                · simp only [RepM]
                  exact ⟨D0, vs0 ++ [y], fun a => T0 a ∨ Ty a, rfl, .inl sa, fun z => z.elim ta tyD, fun b z => z.elim (fun z => .inl (ts b z)) .inr, upd_same, RepMs.app rr' ryy (fun _ z => .inl z) (fun _ z => .inr z) (fun b z => dT b (ts b z))⟩
                · by_cases w : a = D0
                  · rw [w, upd_same]; exact fun z => nomatch z
                  · rw [upd_ne w]; exact z.elim (l7.al a) (ly.al a)
                · exact z.elim (fun z => l7.dj a z (.inl (u9 a w))) fun z => ly.dj a z (u9 a w)
                · have s7' : Stp Z H (U S) Z7 H7 (fun a => (U S7 a ∨ Ty a) ∨ T a) := s6'.trans (s7.frame T)
                  have st8 : Stp Z H (U S) Z7 (upd H7 D0 (.lst (vs0 ++ [y]))) (fun a => a = D0 ∨ ((U S7 a ∨ Ty a) ∨ T a)) := s7'.trans ((stU.frame (fun a => (U S7 a ∨ Ty a) ∨ T a)).from fun a z => z.elim (fun w => .inr (by rw [w]; exact sa)) id)
                  refine st8.weak fun a z => ?_
                  rcases z with z | z | z
                  · exact .inr (.inl (.inl (u9 a z)))
                  · exact .inr (.inr z)
                  · exact .inr (.inl (.inr z))
theorem sby_okW : SBok G W0 tYes sbYes := sby_ok
theorem xe_lcW {elt tg iter : Expr} {scope : Scope} {own : List (Str × Nat)} {pos : Pos} (hc : X.calm = true) (hN : X.N.Nodup) (ok : BlkOk X.N X.env.scope scope own) (hi : PIw G X ws tg iter fi)
    (hg : ∀ (s : Shared) (H : Hp) (C : Addr) (cl : List (Str × Addr)) (fp : List Addr), PGs' G (X.blk s H scope (compEnvC scope cl C X.env) fp) (fun i => i ∉ own.map (·.2)) tg g)
    (he : ∀ (s : Shared) (H : Hp) (C : Addr) (cl : List (Str × Addr)) (fp : List Addr), PEs G (X.blk s H scope (compEnvC scope cl C X.env) fp) W0 elt f) (hs : ∀ x, foldedSetIterable iter X.env x = pure x := by intro _; rfl) :
    PEs G X W (.ListComp elt [⟨tg, iter, [], 0⟩] scope pos) (sLcW (own.map (·.2)) ws fi g sbYes f) := by
  obtain ⟨ti, p, hi⟩ := hi.ex
  exact ⟨_, pe_lc hc hN p ok (fun s H C cl fp => (hg s H C cl fp).sem) (fun _ _ _ _ _ => pts_nil) (fun s H C cl fp => (he s H C cl fp).sem) hs, SEok.lcW hi GSem.ok sby_ok ESem.ok⟩
theorem xe_lcIfW {elt tg iter ce : Expr} {scope : Scope} {own : List (Str × Nat)} {pos : Pos} (hc : X.calm = true) (hN : X.N.Nodup) (ok : BlkOk X.N X.env.scope scope own) (hi : PIw G X ws tg iter fi)
    (hg : ∀ (s : Shared) (H : Hp) (C : Addr) (cl : List (Str × Addr)) (fp : List Addr), PGs' G (X.blk s H scope (compEnvC scope cl C X.env) fp) (fun i => i ∉ own.map (·.2)) tg g)
    (ht : ∀ (s : Shared) (H : Hp) (C : Addr) (cl : List (Str × Addr)) (fp : List Addr), PBs G (X.blk s H scope (compEnvC scope cl C X.env) fp) W0 ce c)
    (he : ∀ (s : Shared) (H : Hp) (C : Addr) (cl : List (Str × Addr)) (fp : List Addr), PEs G (X.blk s H scope (compEnvC scope cl C X.env) fp) W0 elt f) (hs : ∀ x, foldedSetIterable iter X.env x = pure x := by intro _; rfl) :
    PEs G X W (.ListComp elt [⟨tg, iter, [ce], 0⟩] scope pos) (sLcW (own.map (·.2)) ws fi g c f) := by
  obtain ⟨ti, p, hi⟩ := hi.ex
  exact ⟨_, pe_lc hc hN p ok (fun s H C cl fp => (hg s H C cl fp).sem) (fun s H C cl fp => pts_one (ht s H C cl fp).sem) (fun s H C cl fp => (he s H C cl fp).sem) hs, SEok.lcW hi GSem.ok BSem.ok ESem.ok⟩
/-- y = [..] -/
theorem xs_setLcW {P : Px} (i : Nat) {y : Str} {py : Pos} {elt tg iter : Expr} {scope : Scope} {own : List (Str × Nat)} {pos spos : Pos} (hc : X.calm = true) (hN : X.N.Nodup) (ok : BlkOk X.N X.env.scope scope own) (hi : PIw G X ws tg iter fi)
    (hg : ∀ (s : Shared) (H : Hp) (C : Addr) (cl : List (Str × Addr)) (fp : List Addr), PGs' G (X.blk s H scope (compEnvC scope cl C X.env) fp) (fun i => i ∉ own.map (·.2)) tg g)
    (he : ∀ (s : Shared) (H : Hp) (C : Addr) (cl : List (Str × Addr)) (fp : List Addr), PEs G (X.blk s H scope (compEnvC scope cl C X.env) fp) W0 elt f)
    (hsw : swapsWith (.ListComp elt [⟨tg, iter, [], 0⟩] scope pos) (some (.Name y py)) spos.line X.env = pure true) (hP : ¬ P i := by decide) (hy : X.N[i]? = some y := by rfl) (hyl : X.env.scope.names.lookup y = some .local := by rfl) (hs : ∀ x, foldedSetIterable iter X.env x = pure x := by intro _; rfl) :
    PS' G X W P (.Assign [.Name y py] (.ListComp elt [⟨tg, iter, [], 0⟩] scope pos) spos) (ssSet i (sLcW (own.map (·.2)) ws fi g sbYes f)) := by
  obtain ⟨ti, p, hi⟩ := hi.ex
  exact ⟨_, ps_setLc hc hN hy hyl hsw p ok (fun s H C cl fp => (hg s H C cl fp).sem) (fun _ _ _ _ _ => pts_nil) (fun s H C cl fp => (he s H C cl fp).sem) hs, SSok.set hP (SEok.lcW hi GSem.ok sby_ok ESem.ok)⟩
theorem xs_setLcIfW {P : Px} (i : Nat) {y : Str} {py : Pos} {elt tg iter ce : Expr} {scope : Scope} {own : List (Str × Nat)} {pos spos : Pos} (hc : X.calm = true) (hN : X.N.Nodup) (ok : BlkOk X.N X.env.scope scope own) (hi : PIw G X ws tg iter fi)
    (hg : ∀ (s : Shared) (H : Hp) (C : Addr) (cl : List (Str × Addr)) (fp : List Addr), PGs' G (X.blk s H scope (compEnvC scope cl C X.env) fp) (fun i => i ∉ own.map (·.2)) tg g)
    (ht : ∀ (s : Shared) (H : Hp) (C : Addr) (cl : List (Str × Addr)) (fp : List Addr), PBs G (X.blk s H scope (compEnvC scope cl C X.env) fp) W0 ce c)
    (he : ∀ (s : Shared) (H : Hp) (C : Addr) (cl : List (Str × Addr)) (fp : List Addr), PEs G (X.blk s H scope (compEnvC scope cl C X.env) fp) W0 elt f)
    (hsw : swapsWith (.ListComp elt [⟨tg, iter, [ce], 0⟩] scope pos) (some (.Name y py)) spos.line X.env = pure true) (hP : ¬ P i := by decide) (hy : X.N[i]? = some y := by rfl) (hyl : X.env.scope.names.lookup y = some .local := by rfl) (hs : ∀ x, foldedSetIterable iter X.env x = pure x := by intro _; rfl) :
    PS' G X W P (.Assign [.Name y py] (.ListComp elt [⟨tg, iter, [ce], 0⟩] scope pos) spos) (ssSet i (sLcW (own.map (·.2)) ws fi g c f)) := by
  obtain ⟨ti, p, hi⟩ := hi.ex
  exact ⟨_, ps_setLc hc hN hy hyl hsw p ok (fun s H C cl fp => (hg s H C cl fp).sem) (fun s H C cl fp => pts_one (ht s H C cl fp).sem) (fun s H C cl fp => (he s H C cl fp).sem) hs, SSok.set hP (SEok.lcW hi GSem.ok BSem.ok ESem.ok)⟩
end
/-! ### copies by a look -/
def sListV (g : VE) : SE := fun env => match g env with
  | .ok m => match brw m with
    | some (_, xs) => .ok (.lst (xs.map .d), env)
    | none => .bad
  | _ => .bad
def sTupV (g : VE) : SE := fun env => match g env with
  | .ok m => match brw m with
    | some (_, xs) => .ok (.d (.tup xs), env)
    | none => .bad
  | _ => .bad
section
variable {G : Gx} {X : Cx} {W : WX'} {e : Expr} {g : VE} {p pos : Pos}
theorem xe_listV (hK : G.K = X.K) (hm : X.mg "list" = none) (ha : PVs G X e g) (hv : bootBuiltins "list" = some (.type "list") := by decide +kernel) (hg : Gl X "list" := by rfl) (hst : starEach [e] X.env = (false, eval e X.env) :: starEach [] X.env := by rfl) (hpl : (backTo pos (starEach [] X.env)).any (·.1) = false := by rfl) :
    PEs G X W (.Call (.Name "list" p) [e] [] pos) (sListV g) := by
  obtain ⟨t, q, h⟩ := ha.ex
  refine ⟨_, pe_callTy call_list_of hg hm hv (pa_cons q pa_nil hst) (by decide) (by decide) hst hpl, SEok.mk' fun Z H σ env S Q gd k => ?_⟩
  unfold sListV at k
  have h1 := h Z H σ env S (fun x H1 => ∃ p ys, [x] = [V.ref p] ∧ (SqL X.K H1 p ys ∨ SqT X.K H1 p ys) ∧ ∀ l, H1 l = none → Q (.ref l) (upd H1 l (.lst ys))) gd
  cases e1 : g env with
  | bad => rw [e1] at k; exact k.elim
  | exc x e' => rw [e1] at k; exact k.elim
  | ok m =>
    rw [e1] at k h1
    simp only at k h1
    cases e3 : brw m with
    | none => rw [e3] at k; exact k.elim
    | some q1 =>
      obtain ⟨b1, xs⟩ := q1
      rw [e3] at k
      refine h1 fun v T _ r => ?_
      obtain ⟨a, us, rfl, rr, sq⟩ := brw_rep gd.zh r e3
      obtain ⟨s1, s2⟩ := sq Z H (Same.refl _) gd.zh fun _ _ _ z => z
      have hq : SqL X.K H a us ∨ SqT X.K H a us := by
        rw [← hK]
        cases b1 with
        | false => exact .inl (s2 rfl)
        | true => exact .inr (s1 rfl)
      refine ⟨a, us, rfl, hq, fun p hp => ?_⟩
      have pS : ¬ U S p := fun z => gd.al' p z hp
      exact k (.ref p) _ _ S (fun a => a = p) (Stp.new (o := .lst us) gd.zh hp (U S)) (gd.move (Stp.new (o := .lst us) gd.zh hp (fun _ => False)) fun _ _ z => z).1 (lst_newD gd.zh rr hp pS)
theorem xe_tupV (hK : G.K = X.K) (hm : X.mg "tuple" = none) (ha : PVs G X e g) (hv : bootBuiltins "tuple" = some (.type "tuple") := by decide +kernel) (hg : Gl X "tuple" := by rfl) (hst : starEach [e] X.env = (false, eval e X.env) :: starEach [] X.env := by rfl) (hpl : (backTo pos (starEach [] X.env)).any (·.1) = false := by rfl) :
    PEs G X W (.Call (.Name "tuple" p) [e] [] pos) (sTupV g) := by
  obtain ⟨t, q, h⟩ := ha.ex
  refine ⟨_, pe_callTy call_tuple_of hg hm hv (pa_cons q pa_nil hst) (by decide) (by decide) hst hpl, SEok.mk' fun Z H σ env S Q gd k => ?_⟩
  unfold sTupV at k
  have h1 := h Z H σ env S (fun x H1 => ∃ p ys, [x] = [V.ref p] ∧ ((SqL X.K H1 p ys ∧ ∀ l, H1 l = none → Q (.ref l) (upd H1 l (.tup ys))) ∨ (SqT X.K H1 p ys ∧ Q (.ref p) H1))) gd
  cases e1 : g env with
  | bad => rw [e1] at k; exact k.elim
  | exc x e' => rw [e1] at k; exact k.elim
  | ok m =>
    rw [e1] at k h1
    simp only at k h1
    cases e3 : brw m with
    | none => rw [e3] at k; exact k.elim
    | some q1 =>
      obtain ⟨b1, xs⟩ := q1
      rw [e3] at k
      refine h1 fun v T _ r => ?_
      have r0 := r
      obtain ⟨a, us, rfl, rr, sq⟩ := brw_rep gd.zh r e3
      obtain ⟨s1, s2⟩ := sq Z H (Same.refl _) gd.zh fun _ _ _ z => z
      refine ⟨a, us, rfl, ?_⟩
      cases b1 with
      | false =>
        refine .inl ⟨by rw [← hK]; exact s2 rfl, fun p hp => ?_⟩
        have st := Stp.newZ (o := .tup us) gd.zh hp (U S)
        refine k (.ref p) _ _ S (fun _ => False) (st.weak fun _ z => z.elim (fun z => z) fun z => z.elim) (gd.move (Stp.newZ (o := .tup us) gd.zh hp (fun _ => False)) fun _ _ z => z).1 (Hld.data ?_)
        simp only [RepD]
        exact ⟨p, us, rfl, SqT.of upd_same, RepDs.mono st.z _ _ rr⟩
      | true =>
        refine .inr ⟨by rw [← hK]; exact s1 rfl, ?_⟩
        have hd : ∃ x, m = .d x ∧ itemsLT x = some (true, xs) := by
          cases m with
          | d x => exact ⟨x, rfl, e3⟩
          | lst ms => simp only [brw] at e3; split at e3 <;> cases e3
          | _ => cases e3
        obtain ⟨x, rfl, ex⟩ := hd
        simp only [RepM] at r0
        refine k (.ref a) _ _ S (fun _ => False) ((Stp.refl gd.zh).weak fun _ z => z.elim (fun z => z) fun z => z.elim) gd (Hld.data ?_)
        cases x with
        | tup ys => simp only [itemsLT] at ex; cases ex; exact r0
        | lst ys => simp [itemsLT] at ex
        | scr ys => simp [itemsLT] at ex
        | _ => simp [itemsLT] at ex
end
end FL

set_option maxHeartbeats 2000000
/-! FLZ: sorted(xs), any data; indices by values; max, min of a list. -/
namespace FL
open PySem L2 Classical

theorem vals_each {ps : List (PyData × V)} : ∀ {us : List Value}, Vals (ps.map (·.2)) us → PySem.W.EachIs (fun u (p : PyData × V) => RelV p.2 u) us ps := by
  induction ps with
  | nil => intro us r; cases r; exact .nil
  | cons p ps ih => intro us r; cases r with | cons a b => exact .cons a (ih b)
theorem each_vals {ps : List (PyData × V)} : ∀ {us : List Value}, PySem.W.EachIs (fun u (p : PyData × V) => RelV p.2 u) us ps → Vals (ps.map (·.2)) us := by
  induction ps with
  | nil => intro us r; cases r; exact .nil
  | cons p ps ih => intro us r; cases r with | cons a b => exact .cons a (ih b)
def rSrt (K : PySem.W.Frag) : List V → Hp → VK → Prop := fun vs H Q => ∃ (a : Addr) (ps : List (PyData × V)), vs = [.ref a] ∧ SqL K H a (ps.map (·.2)) ∧ (∀ p ∈ ps, Dp K H p.2 p.1 ∧ p.1.depth ≤ 60) ∧ PySem.W.AllAlike (ps.map (·.1)) ∧ PySem.W.Sortable (ps.map (·.1)) ∧
  ∀ q, H q = none → Q (.ref q) (upd H q (.lst ((ps.mergeSort (PySem.W.dataLe false (fun p : PyData × V => p.1))).map (·.2))))
theorem cr_srt {X : Cx} (hu : X.A.units + 64 < cLine) : CallR X (.builtin "sorted") (rSrt X.K) := by
  intro pins s σ H vs us Q I r h
  obtain ⟨a, ps, rfl, hs, hd, hal, hk, q⟩ := h
  obtain ⟨its, rv, hl, hz⟩ := I.list hs
  rw [Vals.ref1 r]
  have e := vals_each rv
  have er : PySem.W.EachIs (fun v (p : PyData × V) => ∃ as, Reads s.heap v p.1 as) its ps := by
    have key : ∀ {us : List Value} {qs : List (PyData × V)}, PySem.W.EachIs (fun u (p : PyData × V) => RelV p.2 u) us qs → (∀ p ∈ qs, Dp X.K H p.2 p.1) → PySem.W.EachIs (fun v (p : PyData × V) => ∃ as, Reads s.heap v p.1 as) us qs := by
      intro us qs e'
      induction e' with
      | nil => intro _; exact .nil
      | cons a b ih => intro hh; exact .cons (Dp.reads I _ _ _ (hh _ (by simp)) a) (ih fun p hp => hh p (by simp [hp]))
    exact key e fun p hp => (hd p hp).1
  refine PySem.W.sorted_data (enc := fun p : PyData × V => p.1) hl.isList e er hal hk (by simpa using hz) (fun p hp => by have := (hd p hp).2; omega) fun out hlen hE => ?_
  obtain ⟨ep, he'⟩ := PyProof.Rows.sortedAll_at s.heap its out.toArray
  have hv := each_vals hE
  have hlen2 : ((ps.mergeSort (PySem.W.dataLe false (fun p : PyData × V => p.1))).map (·.2)).length ≤ sizeLine := by
    rw [List.length_map, List.length_mergeSort]
    simpa using hz
  exact ⟨.ref _, upd H (s.heap.objs.size + 1) (.lst ((ps.mergeSort (PySem.W.dataLe false (fun p : PyData × V => p.1))).map (·.2))), I.laid (t' := s.toks) (fun _ _ => PyProof.Rows.sortedAll_old) (Nat.le_succ _) ⟨hlen2, out, ep, hv, he'⟩, rfl, q _ (I.hok.fresh (Nat.le_succ _))⟩
/-- data that sorted takes -/
def SrtOk (xs : List D) : Prop := (∀ x ∈ xs, (toPy x).plain = true ∧ (toPy x).depth ≤ 60) ∧ PySem.W.AllAlike (xs.map toPy) ∧ PySem.W.Sortable (xs.map toPy)
noncomputable def srtD (xs : List D) : List D := xs.mergeSort (PySem.W.dataLe false toPy)
noncomputable def sSorted (f : SE) : SE := fun env => match f env with
  | .ok (m, e) => match itemsLT (fz m) with
    | some (false, xs) => if SrtOk xs then .ok (.lst ((srtD xs).map .d), e) else .bad
    | _ => .bad
  | .exc x e => .exc x e
  | .bad => .bad
noncomputable def sSortedV (g : VE) : SE := fun env => match g env with
  | .ok m => match brw m with
    | some (false, xs) => if SrtOk xs then .ok (.lst ((srtD xs).map .d), env) else .bad
    | _ => .bad
  | _ => .bad
theorem zip_fst {α β : Type} : ∀ {xs : List α} {ys : List β}, xs.length = ys.length → (List.zip xs ys).map (·.1) = xs
  | [], [], _ => rfl
  | x :: xs, y :: ys, h => by simp [zip_fst (xs := xs) (ys := ys) (by simpa using h)]
theorem zip_snd {α β : Type} : ∀ {xs : List α} {ys : List β}, xs.length = ys.length → (List.zip xs ys).map (·.2) = ys
  | [], [], _ => rfl
  | x :: xs, y :: ys, h => by simp [zip_snd (xs := xs) (ys := ys) (by simpa using h)]
theorem repDs_zip {G : Gx} {Z : Hp} : ∀ {xs : List D} {vs : List V}, RepDs G Z xs vs → ∀ p ∈ List.zip xs vs, RepD G Z p.1 p.2
  | [], _, _, p, hp => by simp at hp
  | x :: xs, _, r, p, hp => by
    simp only [RepDs] at r
    obtain ⟨v, r', rfl, q, r⟩ := r
    simp only [List.zip_cons_cons, List.mem_cons] at hp
    rcases hp with rfl | hp
    · exact q
    · exact repDs_zip r p hp
theorem repDs_of {G : Gx} {Z : Hp} : ∀ {ps : List (D × V)}, (∀ p ∈ ps, RepD G Z p.1 p.2) → RepDs G Z (ps.map (·.1)) (ps.map (·.2))
  | [], _ => by simp [RepDs]
  | p :: ps, h => by
    simp only [List.map_cons, RepDs]
    exact ⟨_, _, rfl, h p (by simp), repDs_of fun q hq => h q (by simp [hq])⟩
/-- what the rule gives, told in data -/
theorem srt_data {G : Gx} {Z H : Hp} {a : Addr} {xs : List D} {us : List V} {Q : VK} (zh : Same Z H) (hs : SqL G.K H a us) (rr : RepDs G Z xs us) (ok : SrtOk xs) (q : ∀ p ws, H p = none → RepDs G Z (srtD xs) ws → Q (.ref p) (upd H p (.lst ws))) : rSrt G.K [.ref a] H Q := by
  have hl := rr.len
  have e1 := zip_fst hl
  have e2 := zip_snd hl
  have hr := repDs_zip rr
  let ps : List (PyData × V) := (List.zip xs us).map fun p => (toPy p.1, p.2)
  have p1 : ps.map (·.1) = xs.map toPy := by
    show ((List.zip xs us).map fun p => (toPy p.1, p.2)).map (·.1) = _
    have h := congrArg (List.map toPy) e1
    rw [List.map_map] at h ⊢
    exact h
  have p2 : ps.map (·.2) = us := by
    show ((List.zip xs us).map fun p => (toPy p.1, p.2)).map (·.2) = _
    rw [List.map_map]
    exact e2
  refine ⟨a, ps, rfl, by rw [p2]; exact hs, fun p hp => ?_, by rw [p1]; exact ok.2.1, by rw [p1]; exact ok.2.2, fun b hb => ?_⟩
  · obtain ⟨w, hw, rfl⟩ := List.mem_map.mp hp
    have hx : w.1 ∈ xs := by rw [← e1]; exact List.mem_map_of_mem hw
    have := ok.1 _ hx
    exact ⟨RepD.dp zh _ _ this.1 (hr w hw), this.2⟩
  · have m1 : (ps.mergeSort (PySem.W.dataLe false (fun p : PyData × V => p.1))) = ((List.zip xs us).mergeSort (PySem.W.dataLe false fun p : D × V => toPy p.1)).map fun p => (toPy p.1, p.2) := by
      rw [List.map_mergeSort]
      intro a _ b _
      rfl
    have m2 : srtD xs = ((List.zip xs us).mergeSort (PySem.W.dataLe false fun p : D × V => toPy p.1)).map (·.1) := by
      have h : srtD xs = srtD ((List.zip xs us).map (·.1)) := by rw [e1]
      rw [h]
      unfold srtD
      rw [List.map_mergeSort]
      intro a _ b _
      rfl
    rw [m1, List.map_map]
    have hq : ∀ p ∈ (List.zip xs us).mergeSort (PySem.W.dataLe false fun p : D × V => toPy p.1), RepD G Z p.1 p.2 := fun p hp => hr p ((List.mergeSort_perm _ _).mem_iff.mp hp)
    have := repDs_of hq
    rw [← m2] at this
    exact q b _ hb this
section
variable {G : Gx} {X : Cx} {W : WX'} {e : Expr} {g : VE} {f : SE} {p pos : Pos}
theorem xe_sortedV (hu : X.A.units + 64 < cLine) (hK : G.K = X.K) (hm : X.mg "sorted" = none) (ha : PVs G X e g) (hv : bootBuiltins "sorted" = some (.builtin "sorted") := by decide +kernel) (hg : Gl X "sorted" := by rfl) (hst : starEach [e] X.env = (false, eval e X.env) :: starEach [] X.env := by rfl) (hpl : (backTo pos (starEach [] X.env)).any (·.1) = false := by rfl) :
    PEs G X W (.Call (.Name "sorted" p) [e] [] pos) (sSortedV g) := by
  obtain ⟨t, q, h⟩ := ha.ex
  refine ⟨_, pe_callB (cr_srt hu) hg hm hv (pa_cons q pa_nil hst) (by decide) (by decide) hst hpl, SEok.mk' fun Z H σ env S Q gd k => ?_⟩
  unfold sSortedV at k
  have h1 := h Z H σ env S (fun x H1 => rSrt X.K [x] H1 Q) gd
  cases e1 : g env with
  | bad => rw [e1] at k; exact k.elim
  | exc x e' => rw [e1] at k; exact k.elim
  | ok m =>
    rw [e1] at k h1
    simp only at k h1
    cases e3 : brw m with
    | none => rw [e3] at k; exact k.elim
    | some q1 =>
      obtain ⟨b1, xs⟩ := q1
      rw [e3] at k
      cases b1 with
      | true => exact k.elim
      | false =>
        simp only at k
        by_cases ok : SrtOk xs
        case neg => rw [if_neg ok] at k; exact k.elim
        rw [if_pos ok] at k
        refine h1 fun v T _ r => ?_
        obtain ⟨a, us, rfl, rr, sq⟩ := brw_rep gd.zh r e3
        obtain ⟨_, s2⟩ := sq Z H (Same.refl _) gd.zh fun _ _ _ z => z
        rw [← hK]
        refine srt_data gd.zh (s2 rfl) rr ok fun b ws hb rw' => ?_
        have pS : ¬ U S b := fun z => gd.al' b z hb
        exact k (.ref b) _ _ S (fun a => a = b) (Stp.new (o := .lst ws) gd.zh hb (U S)) (gd.move (Stp.new (o := .lst ws) gd.zh hb (fun _ => False)) fun _ _ z => z).1 (lst_newD gd.zh rw' hb pS)
theorem xe_sorted (hu : X.A.units + 64 < cLine) (hK : G.K = X.K) (hm : X.mg "sorted" = none) (ha : PEs G X W e f) (hv : bootBuiltins "sorted" = some (.builtin "sorted") := by decide +kernel) (hg : Gl X "sorted" := by rfl) (hst : starEach [e] X.env = (false, eval e X.env) :: starEach [] X.env := by rfl) (hpl : (backTo pos (starEach [] X.env)).any (·.1) = false := by rfl) :
    PEs G X W (.Call (.Name "sorted" p) [e] [] pos) (sSorted f) := by
  obtain ⟨t, q, h⟩ := ha.ex
  refine ⟨_, pe_callB (cr_srt hu) hg hm hv (pa_cons q pa_nil hst) (by decide) (by decide) hst hpl, SEok.mk' fun Z H σ env S Q gd k => ?_⟩
  unfold sSorted at k
  refine h.use gd ?_
  cases e1 : f env with
  | bad => rw [e1] at k; exact k.elim
  | exc x e' => rw [e1] at k; exact k
  | ok pr =>
    obtain ⟨m, env1⟩ := pr
    rw [e1] at k
    simp only at k
    cases e3 : itemsLT (fz m) with
    | none => rw [e3] at k; exact k.elim
    | some q1 =>
      obtain ⟨b1, xs⟩ := q1
      rw [e3] at k
      cases b1 with
      | true => exact k.elim
      | false =>
        simp only at k
        by_cases ok : SrtOk xs
        case neg => rw [if_neg ok] at k; exact k.elim
        rw [if_pos ok] at k
        intro v Z' H' S' T s' g' l
        obtain ⟨rz, sz⟩ := l.frozen g'.zh
        have sT : Stp Z' H' T (Fzp Z' H' T) H' T := ⟨sz.z, sz.zh, fun _ _ e _ => e, fun _ z => .inl z, fun a z => by
          by_cases ta : T a
          · exact .inr (.inl ta)
          · rw [frz_out ta] at z; exact .inl z⟩
        have g2 := (g'.move sT fun a z w => l.dj a w z).1
        obtain ⟨a, us, rfl, t1, l1, rr⟩ := itemsLT_rep g2.zh rz e3
        show rSrt X.K [.ref a] H' Q
        rw [← hK]
        refine srt_data g2.zh (g2.zh.seq (l1 rfl)) rr ok fun b ws hb rw' => ?_
        have pS : ¬ U S' b := fun z => g2.al' b z hb
        exact k (.ref b) _ _ S' (fun a => a = b) (s'.trans (sz.trans (Stp.new (o := .lst ws) g2.zh hb (U S')))) (g2.move (Stp.new (o := .lst ws) g2.zh hb (fun _ => False)) fun _ _ z => z).1 (lst_newD g2.zh rw' hb pS)
/-- a[b], both values -/
theorem xe_ix {a b : Expr} {fa fb : SE} {r : R2} {op : DOp} (ho : IxR X r) (h : VOP G r op) (ha : PEs G X W a fa) (hb : PEs G X W b fb) (hs : PlainIx b := by exact fun _ _ => rfl) : PEs G X W (.Subscript a b pos) (s2 op fa fb) := by
  obtain ⟨ta, pa, ha⟩ := ha.ex
  obtain ⟨tb, pb, hb⟩ := hb.ex
  exact ⟨_, pe_ix ho pa pb hs, SEok.bin h ha hb⟩
/-- name[b], b a value: the name is looked at before and behind -/
theorem xe_ixN {b : Expr} {fb : SE} {r : R2} {op : DOp} {x : Str} {p1 : Pos} (i : Nat) (ho : IxR X r) (h : VOP G r op) (hb : PEs G X W b fb) (hN : X.N[i]? = some x := by rfl) (hv : Vis X.env.scope x := by first | exact Or.inl rfl | exact Or.inr (Or.inl rfl) | exact Or.inr (Or.inr rfl))
    (hd : (x == ("__debug__" : Str)) = false := by decide) (hcd : (x == ("__classdict__" : Str)) = false := by decide) (hs : PlainIx b := by exact fun _ _ => rfl) : PEs G X W (.Subscript (.Name x p1) b pos) (s2n op i fb) := by
  obtain ⟨tb, pb, hb⟩ := hb.ex
  exact ⟨_, pe_ix ho (pe_var hN hv hd hcd) pb hs, SEok.binN h hb⟩
end
end FL
namespace FL
open PySem L2 Classical
def maxI : List Int → Int
  | [] => 0
  | [x] => x
  | x :: y :: r => if x < maxI (y :: r) then maxI (y :: r) else x
def minI : List Int → Int
  | [] => 0
  | [x] => x
  | x :: y :: r => if minI (y :: r) < x then minI (y :: r) else x
theorem maxI_spec : ∀ {xs : List Int}, xs ≠ [] → maxI xs ∈ xs ∧ ∀ y ∈ xs, y ≤ maxI xs
  | [x], _ => by simp [maxI]
  | x :: y :: r, _ => by
    obtain ⟨h1, h2⟩ := maxI_spec (xs := y :: r) (by simp)
    unfold maxI
    split
    · rename_i h
      refine ⟨List.mem_cons_of_mem x h1, fun z hz => ?_⟩
      rcases List.mem_cons.mp hz with rfl | hz
      · omega
      · exact h2 z hz
    · rename_i h
      refine ⟨by simp, fun z hz => ?_⟩
      rcases List.mem_cons.mp hz with rfl | hz
      · omega
      · have := h2 z hz; omega
theorem minI_spec : ∀ {xs : List Int}, xs ≠ [] → minI xs ∈ xs ∧ ∀ y ∈ xs, minI xs ≤ y
  | [x], _ => by simp [minI]
  | x :: y :: r, _ => by
    obtain ⟨h1, h2⟩ := minI_spec (xs := y :: r) (by simp)
    unfold minI
    split
    · rename_i h
      refine ⟨List.mem_cons_of_mem x h1, fun z hz => ?_⟩
      rcases List.mem_cons.mp hz with rfl | hz
      · omega
      · exact h2 z hz
    · rename_i h
      refine ⟨by simp, fun z hz => ?_⟩
      rcases List.mem_cons.mp hz with rfl | hz
      · omega
      · have := h2 z hz; omega
def bMaxL : LOp
  | [m] => match m.seq with
    | some (false, ms) => match intsOf ms with
      | some (n :: ns) => .ok (.int (maxI (n :: ns)))
      | _ => .bad
    | _ => .bad
  | _ => .bad
def bMinL : LOp
  | [m] => match m.seq with
    | some (false, ms) => match intsOf ms with
      | some (n :: ns) => .ok (.int (minI (n :: ns)))
      | _ => .bad
    | _ => .bad
  | _ => .bad
theorem bop_maxL {G : Gx} : BOP G (rMax G.K) bMaxL := fun Z H ms vs Q zh r => by
  unfold bMaxL
  cases r with
  | nil => trivial
  | cons h t =>
    rename_i m v ms' vs'
    cases t with
    | cons _ _ => trivial
    | nil =>
      obtain ⟨T, h⟩ := h
      simp only
      cases e : m.seq with
      | none => trivial
      | some p =>
        obtain ⟨b, xs⟩ := p
        cases b with
        | true => trivial
        | false =>
          simp only
          cases e2 : intsOf xs with
          | none => trivial
          | some ns =>
            cases ns with
            | nil => trivial
            | cons n ns =>
              intro q
              obtain ⟨a, us, rfl, h1, h2, h3⟩ := h.seq zh e
              have hu := intsOf_rep h3 e2
              refine ⟨a, n :: ns, rfl, by rw [← hu]; exact h2 rfl, by simp, fun k hk hk2 => ?_⟩
              obtain ⟨g1, g2⟩ := maxI_spec (xs := n :: ns) (by simp)
              have : k = maxI (n :: ns) := by have := hk2 _ g1; have := g2 _ hk; omega
              rw [this]
              exact q _ intD
theorem bop_minL {G : Gx} : BOP G (rMin G.K) bMinL := fun Z H ms vs Q zh r => by
  unfold bMinL
  cases r with
  | nil => trivial
  | cons h t =>
    rename_i m v ms' vs'
    cases t with
    | cons _ _ => trivial
    | nil =>
      obtain ⟨T, h⟩ := h
      simp only
      cases e : m.seq with
      | none => trivial
      | some p =>
        obtain ⟨b, xs⟩ := p
        cases b with
        | true => trivial
        | false =>
          simp only
          cases e2 : intsOf xs with
          | none => trivial
          | some ns =>
            cases ns with
            | nil => trivial
            | cons n ns =>
              intro q
              obtain ⟨a, us, rfl, h1, h2, h3⟩ := h.seq zh e
              have hu := intsOf_rep h3 e2
              refine ⟨a, n :: ns, rfl, by rw [← hu]; exact h2 rfl, by simp, fun k hk hk2 => ?_⟩
              obtain ⟨g1, g2⟩ := minI_spec (xs := n :: ns) (by simp)
              have : k = minI (n :: ns) := by have := hk2 _ g1; have := g2 _ hk; omega
              rw [this]
              exact q _ intD
/-- a def that promises nothing -/
theorem fnA_bad {P : Program} {w : World} {mg : Str → Option Value} {base : Heap} {G : Gx} {x : Str} {st : Stmt} {f : Addr} {fd : FuncData} {N ps : List Str} {k n : Nat} (F : Fun G.K x x st f fd) (hm : mg x = some (.ref f)) (hb : Binds G.K fd ps []) (S : FnScope N ps (defScope st)) (hn : ps.length = n) (hk : 1 ≤ k) : FnA P w G mg base k x n (fun _ => .bad) := by
  obtain ⟨j, rfl⟩ : ∃ j, k = j + 1 := ⟨k - 1, by omega⟩
  have h := fnA_mk (P := P) (w := w) (base := base) (k := j) (b := fun _ => .bad) [] F hm hb S hn fun cdv A outer s H E hr tk hp => ⟨_, ⟨fun pins s σ H D I (h : False) => h.elim⟩, fun D Z H σ env S gd p => p.elim⟩
  exact h
end FL

set_option maxHeartbeats 2000000
/-! FLWA: plain law: watched loops, fractions added up, outcomes. -/
namespace FL
open PySem L2 Classical
theorem flw_all {ws : List Nat} {env0 : Env} {g : SG} {b : SS} {α : Type} (dd : α → D) (I : List α → Env → Prop) (hw : ∀ xs env, I xs env → wOk ws env0 env) (h : ∀ x rest env, I (x :: rest) env → ∃ e1 e2 t, g (.d (dd x)) env = .ok e1 ∧ b e1 = .ok (t, e2) ∧ (t = .nx ∨ t = .ct) ∧ I rest e2) :
    ∀ (xs : List α) (env : Env), I xs env → ∃ e', flw ws env0 g b (xs.map dd) env = .ok (.nx, e') ∧ I [] e'
  | [], env, i => ⟨env, by simp only [List.map_nil, flw]; rw [if_pos (hw _ _ i)], i⟩
  | x :: xs, env, i => by
    obtain ⟨e1, e2, t, h1, h2, h3, h4⟩ := h x xs env i
    obtain ⟨e', h5, h6⟩ := flw_all dd I hw h xs e2 h4
    refine ⟨e', ?_, h6⟩
    rw [List.map_cons]
    unfold flw
    rw [if_pos (hw _ _ i)]
    simp only [h1, h2]
    rcases h3 with rfl | rfl
    · exact h5
    · exact h5
theorem flw_or {ws : List Nat} {env0 : Env} {g : SG} {b : SS} {α : Type} (dd : α → D) (I : List α → Env → Prop) (R : M → Env → Prop) (hw : ∀ xs env, I xs env → wOk ws env0 env)
    (h : ∀ x rest env, I (x :: rest) env → ∃ e1, g (.d (dd x)) env = .ok e1 ∧ ((∃ e2 t, b e1 = .ok (t, e2) ∧ (t = .nx ∨ t = .ct) ∧ I rest e2) ∨ ∃ m e2, b e1 = .ok (.ret m, e2) ∧ R m e2)) :
    ∀ (xs : List α) (env : Env), I xs env → (∃ e', flw ws env0 g b (xs.map dd) env = .ok (.nx, e') ∧ I [] e') ∨ ∃ m e', flw ws env0 g b (xs.map dd) env = .ok (.ret m, e') ∧ R m e'
  | [], env, i => .inl ⟨env, by simp only [List.map_nil, flw]; rw [if_pos (hw _ _ i)], i⟩
  | x :: xs, env, i => by
    obtain ⟨e1, h1, ⟨e2, t, h2, h3, h4⟩ | ⟨m, e2, h2, h3⟩⟩ := h x xs env i
    · have e : flw ws env0 g b ((x :: xs).map dd) env = flw ws env0 g b (xs.map dd) e2 := by
        rw [List.map_cons]
        conv => lhs; unfold flw
        rw [if_pos (hw _ _ i)]
        simp only [h1, h2]
        rcases h3 with rfl | rfl <;> rfl
      rw [e]
      exact flw_or dd I R hw h xs e2 h4
    · refine .inr ⟨m, e2, ?_, h3⟩
      rw [List.map_cons]
      unfold flw
      rw [if_pos (hw _ _ i)]
      simp only [h1, h2]
theorem lclw_map {own ws : List Nat} {env0 : Env} {g : SG} {c : SB} {f : SE} {env : Env} {α : Type} (dd : α → D) (φ : α → M) (hw : wOk ws env0 env) : ∀ (xs : List α) (acc : List M),
    (∀ x ∈ xs, ∃ e1 e2 e3, g (.d (dd x)) env = .ok e1 ∧ c e1 = .ok (true, e2) ∧ f e2 = .ok (φ x, e3) ∧ killAll own e3 = env) → lclw own ws env0 g c f (xs.map dd) acc env = .ok (acc ++ xs.map φ, env)
  | [], acc, _ => by simp only [List.map_nil, lclw]; rw [if_pos hw]; simp
  | x :: xs, acc, h => by
    obtain ⟨e1, e2, e3, h1, h2, h3, h4⟩ := h x (by simp)
    rw [List.map_cons]
    unfold lclw
    rw [if_pos hw]
    simp only [h1, h2, h3, h4]
    rw [lclw_map dd φ hw xs (acc ++ [φ x]) fun y hy => h y (by simp [hy])]
    simp
/-- with a test: the items that stand it -/
theorem lclw_if {own ws : List Nat} {env0 : Env} {g : SG} {c : SB} {f : SE} {env : Env} {α : Type} (dd : α → D) (φ : α → M) (p : α → Bool) (hw : wOk ws env0 env) : ∀ (xs : List α) (acc : List M),
    (∀ x ∈ xs, ∃ e1 e2 e3, g (.d (dd x)) env = .ok e1 ∧ c e1 = .ok (p x, e2) ∧ (p x = true → f e2 = .ok (φ x, e3) ∧ killAll own e3 = env) ∧ (p x = false → killAll own e2 = env)) → lclw own ws env0 g c f (xs.map dd) acc env = .ok (acc ++ (xs.filter p).map φ, env)
  | [], acc, _ => by simp only [List.map_nil, lclw]; rw [if_pos hw]; simp
  | x :: xs, acc, h => by
    obtain ⟨e1, e2, e3, h1, h2, h3, h4⟩ := h x (by simp)
    rw [List.map_cons]
    unfold lclw
    rw [if_pos hw]
    simp only [h1, h2]
    cases hp : p x with
    | true =>
      obtain ⟨h5, h6⟩ := h3 hp
      simp only [h5, h6]
      rw [lclw_if dd φ p hw xs (acc ++ [φ x]) fun y hy => h y (by simp [hy])]
      simp [hp]
    | false =>
      simp only [h4 hp]
      rw [lclw_if dd φ p hw xs acc fun y hy => h y (by simp [hy])]
      simp [hp]
/-! ### fractions over one bottom, added up -/
theorem low_add {w v C : Int} (hC : 0 < C) : lowT (lowT w C * lowB v C + lowT v C * lowB w C) (lowB w C * lowB v C) = lowT (w + v) C ∧ lowB (lowT w C * lowB v C + lowT v C * lowB w C) (lowB w C * lowB v C) = lowB (w + v) C := by
  have h1 := lowB_pos (t := w) hC
  have h2 := lowB_pos (t := v) hC
  have c1 := low_cross (t := w) (b := C)
  have c2 := low_cross (t := v) (b := C)
  refine low_eq (Int.mul_pos h1 h2) hC ?_
  generalize lowT w C = a at *
  generalize lowB w C = b at *
  generalize lowT v C = c at *
  generalize lowB v C = d at *
  clear h1 h2 hC
  grind
theorem low_over {w W C : Int} (hC : 0 < C) (hW : 0 < W) : 0 < lowB w C * lowT W C ∧ lowT (lowT w C * lowB W C) (lowB w C * lowT W C) = lowT w W ∧ lowB (lowT w C * lowB W C) (lowB w C * lowT W C) = lowB w W := by
  have h1 := lowB_pos (t := w) hC
  have h2 := lowB_pos (t := W) hC
  have c1 := low_cross (t := w) (b := C)
  have c2 := low_cross (t := W) (b := C)
  have h3 : 0 < lowT W C := by
    refine Int.not_le.mp fun q => ?_
    have a1 : lowT W C * C ≤ 0 := Int.mul_nonpos_of_nonpos_of_nonneg q (Int.le_of_lt hC)
    have a2 : 0 < W * lowB W C := Int.mul_pos hW h2
    omega
  refine ⟨Int.mul_pos h1 h3, low_eq (Int.mul_pos h1 h3) hW ?_⟩
  have key : (lowT w C * lowB W C * W) * C = (w * (lowB w C * lowT W C)) * C := by
    generalize lowT w C = a at *
    generalize lowB w C = b at *
    generalize lowT W C = c at *
    generalize lowB W C = d at *
    clear h1 h2 h3 hC hW
    grind
  exact Int.eq_of_mul_eq_mul_right (by omega) key
theorem low_self {W : Int} (hW : 0 < W) : lowT W W = 1 ∧ lowB W W = 1 := by
  have e : gI W W = W := by
    unfold gI
    rw [Int.gcd_self]
    omega
  unfold lowT lowB
  rw [e]
  exact ⟨Int.ediv_self (by omega), Int.ediv_self (by omega)⟩
theorem low_zero {C : Int} (hC : 0 < C) : lowT 0 C = 0 ∧ lowB 0 C = 1 := by
  have e : gI 0 C = C := by
    unfold gI
    rw [Int.gcd_zero_left]
    omega
  unfold lowT lowB
  rw [e]
  exact ⟨Int.zero_ediv _, Int.ediv_self (by omega)⟩
theorem lowT_pos {w C : Int} (hC : 0 < C) (hw : 0 < w) : 0 < lowT w C := by
  have c2 := low_cross (t := w) (b := C)
  have h2 := lowB_pos (t := w) hC
  refine Int.not_le.mp fun q => ?_
  have a1 : lowT w C * C ≤ 0 := Int.mul_nonpos_of_nonpos_of_nonneg q (Int.le_of_lt hC)
  have a2 : 0 < w * lowB w C := Int.mul_pos hw h2
  omega

/-! ### outcomes: None, a number, a record -/
def rowD (p : List Nat × Int) : D := .tup [.str (sl p.1), .int p.2]
inductive Out : D → Prop where
  | non : Out .non
  | int (i : Int) : Out (.int i)
  | rcd (rs : List (List Nat × Int)) : Out (.tup (rs.map rowD))
theorem rows_plain : ∀ rs : List (List Nat × Int), PyData.plainAll (toPys (rs.map rowD)) = true ∧ PyData.depthAll (toPys (rs.map rowD)) ≤ 1
  | [] => by simp [toPys, PyData.plainAll, PyData.depthAll]
  | r :: rs => by
    obtain ⟨h1, h2⟩ := rows_plain rs
    simp only [List.map_cons, toPys, PyData.plainAll, PyData.depthAll, h1, rowD, toPy, PyData.plain, PyData.depth]
    simp
    omega
theorem Out.pl {x : D} (h : Out x) : (toPy x).plain = true ∧ (toPy x).depth ≤ 2 := by
  cases h with
  | non => simp [toPy, PyData.plain, PyData.depth]
  | int i => simp [toPy, PyData.plain, PyData.depth]
  | rcd rs =>
    obtain ⟨h1, h2⟩ := rows_plain rs
    simp only [toPy, PyData.plain, PyData.depth, h1, true_and]
    omega
theorem rows_eqv : ∀ rs : List (List Nat × Int), PyData.eqvAll (toPys (rs.map rowD)) (toPys (rs.map rowD)) = true
  | [] => by simp [toPys, PyData.eqvAll]
  | r :: rs => by simp [toPys, PyData.eqvAll, rows_eqv rs, rowD, toPy, PyData.eqv]
theorem Out.eqv {x : D} (h : Out x) : PyData.eqv (toPy x) (toPy x) = true := by
  cases h with
  | non => simp [toPy, PyData.eqv]
  | int i => simp [toPy, PyData.eqv]
  | rcd rs => simp only [toPy, PyData.eqv]; exact rows_eqv rs
theorem Out.pl60 {x : D} (h : Out x) : Pl 60 x := ⟨h.pl.1, by have := h.pl.2; omega⟩
theorem oEq_out {x y : D} (hx : Out x) (hy : Out y) : oEq (.d x) (.d y) = .ok (.bl (eqD x y)) := oEq_pl hx.pl60 hy.pl60
theorem oNe_out {x y : D} (hx : Out x) (hy : Out y) : oNe (.d x) (.d y) = .ok (.bl (!eqD x y)) := oNe_pl hx.pl60 hy.pl60
theorem Out.eqD {x : D} (h : Out x) : eqD x x = true := h.eqv
theorem srt_rows (rs : List (List Nat × Int)) : SrtOk (rs.map rowD) ∧ ∃ qs : List (List Nat × Int), srtD (rs.map rowD) = qs.map rowD := by
  refine ⟨⟨fun x hx => ?_, ?_, ?_⟩, ?_⟩
  · obtain ⟨r, _, rfl⟩ := List.mem_map.mp hx
    simp [rowD, toPy, toPys, PyData.plain, PyData.plainAll, PyData.depth, PyData.depthAll]
  · rw [List.map_map]
    exact PySem.W.AllAlike.of fun a b => by simp [rowD, toPy, toPys, PySem.W.alike, PySem.W.alikeAll]
  · rw [List.map_map]
    exact PySem.W.Sortable.tuples fun a => ⟨.str (sl a.1), [.int a.2], by simp only [Function.comp, rowD, toPy, toPys]⟩
  · refine ⟨rs.mergeSort (PySem.W.dataLe false fun r => toPy (rowD r)), ?_⟩
    unfold srtD
    rw [List.map_mergeSort]
    intro a _ b _
    rfl
end FL

set_option maxHeartbeats 2000000
/-! FLWB: a def that tells a key (no loop, nothing changed), read at the concrete heap; sorted by it. -/
namespace FL
open PySem L2 Classical PySem.Spec PyProof.Rows

/-- all objects stay -/
def Kp (h h' : Heap) : Prop := ∀ b o, h.get? b = some o → h'.get? b = some o
theorem Kp.rfl {h : Heap} : Kp h h := fun _ _ e => e
theorem Kp.trans {h h' h'' : Heap} (a : Kp h h') (b : Kp h' h'') : Kp h h'' := fun c o e => b c o (a c o e)

/-- the place a key def's body runs at -/
structure KCx where
  P : Program
  w : World
  K : PySem.W.Frag
  mg : Str → Option Value
  base : Heap
  A : Around
  env : PySem.Env
  m : Str → Option Value
  s1 : Shared
structure KCx.Ok (C : KCx) : Prop where
  mod : Mod C.K C.mg C.base
  bs : Kp C.base C.s1.heap
  kind : C.env.scope.kind = .function
  glob : C.env.globals = mainGlobals
  blt : C.env.builtins = builtinsNs
  ns : C.s1.heap.Ns C.env.locals C.m
abbrev KCx.st (C : KCx) (h : Heap) (tk : Nat) : Shared := { C.s1 with heap := h, toks := tk }

structure KE (C : KCx) (e : Expr) (d : PyData) : Prop where
  run : ∀ (h : Heap) (tk : Nat) (Q : Value → Shared → Prop) (E : Value → Shared → Prop), Kp C.s1.heap h →
    (∀ u h' tk', Kp h h' → Reads h' u d [] → Q u (C.st h' tk')) → wpAny (model C.P C.w) C.A (eval e C.env) Q E (C.st h tk)
structure KA (C : KCx) (es : List Expr) (ds : List PyData) : Prop where
  run : ∀ (pos : Pos) (h : Heap) (tk : Nat) (Q : List Value → Shared → Prop) (E : Value → Shared → Prop), Kp C.s1.heap h →
    (∀ us h' tk', Kp h h' → ReadsAll h' us ds [] → Q us (C.st h' tk')) → wpAny (model C.P C.w) C.A (spliced (backTo pos (starEach es C.env))) Q E (C.st h tk)
structure KT (C : KCx) (e : Expr) (b : Bool) : Prop where
  run : ∀ (h : Heap) (tk : Nat) (Q : Bool → Shared → Prop) (E : Value → Shared → Prop), Kp C.s1.heap h →
    (∀ h' tk', Kp h h' → Q b (C.st h' tk')) → wpAny (model C.P C.w) C.A (isTrue e C.env (eval e C.env)) Q E (C.st h tk)
structure KSs (C : KCx) (sts : List Stmt) (d : PyData) : Prop where
  run : ∀ (h : Heap) (tk : Nat) (Q : Flow → Shared → Prop) (E : Value → Shared → Prop), Kp C.s1.heap h →
    (∀ u h' tk', Kp h h' → Reads h' u d [] → Q (.ret u) (C.st h' tk')) → wpAny (model C.P C.w) C.A (execs sts C.env) Q E (C.st h tk)

theorem readsAll_app0 {h : Heap} {v : Value} {vs : List Value} {d : PyData} {ds : List PyData} (a : Reads h v d []) (b : ReadsAll h vs ds []) : ReadsAll h (v :: vs) (d :: ds) [] := by
  have := ReadsAll.cons a b
  simpa using this
section
variable {C : KCx} {e a : Expr} {b : Bool} {es : List Expr} {d : PyData} {ds : List PyData} {pos : Pos} {x : Str} {u : Value}
theorem ke_int {i : Int} {j} : KE C (.Constant (.int i) j pos) (.int i) := ⟨fun h tk Q E _ q => wpAny_Constant_int (q _ h _ Kp.rfl (.int i _))⟩
theorem ke_var (ok : C.Ok) (hl : C.env.scope.names.lookup x = some .local) (hm : C.m x = some u) (r : Reads C.s1.heap u d []) (hd : (x == ("__debug__" : Str)) = false := by decide) : KE C (.Name x pos) d :=
  ⟨fun h tk Q E k q => wpAny_Name (wpAny_loadName_local ok.kind hl (ok.ns.keeps k) hm (q u h tk Kp.rfl (PyProof.Rows.Reads.keeps k r))) hd⟩
theorem ka_nil : KA C [] [] := ⟨fun pos h tk Q E k q => Calls.spliced_nil (q [] h tk Kp.rfl .nil)⟩
theorem ka_cons (ha : KE C e d) (hr : KA C es ds) (hs : starEach (e :: es) C.env = (false, eval e C.env) :: starEach es C.env) : KA C (e :: es) (d :: ds) := by
  refine ⟨fun pos h tk Q E k q => ?_⟩
  rw [hs]
  show wpAny _ _ (spliced ((false, eval e C.env) :: backTo pos (starEach es C.env))) _ _ _
  refine Calls.spliced_cons (ha.run h tk _ E k fun u h1 tk1 k1 r1 => ?_)
  refine hr.run pos h1 tk1 _ E (k.trans k1) fun us h2 tk2 k2 r2 => ?_
  exact q _ h2 tk2 (k1.trans k2) (readsAll_app0 (PyProof.Rows.Reads.keeps k2 r1) r2)
theorem readsAll_len {h : Heap} : ∀ {us : List Value} {ds : List PyData} {as : List Addr}, ReadsAll h us ds as → us.length = ds.length := by
  intro us ds
  induction ds generalizing us with
  | nil => intro as r; cases r; simp
  | cons d ds ih => intro as r; cases r with | cons a b => simp [ih b]
theorem ke_tup {x1} (ha : KA C es ds) (hz : ds.length ≤ 60) : KE C (.Tuple es x1 pos) (.tuple ds) := by
  refine ⟨fun h tk Q E k q => ?_⟩
  refine wpAny_Tuple_spliced (ha.run pos h tk _ E k fun us h1 tk1 k1 r1 => ⟨?_, ?_⟩)
  · rw [readsAll_len r1, sizeLine_eq]; omega
  · refine q _ _ _ (fun b o e => Heap.get?_push_of_some _ (k1 b o e)) ?_
    refine .tuple (Heap.get?_push_size _ rfl) rfl rfl (n := 0) (vs := us.toArray) ?_
    have : ReadsAll (h1.push { cls := .type "tuple", data := .seq us.toArray }) us ds [] := by
      have key : ∀ {us : List Value} {ds : List PyData} {as : List Addr} {g g' : Heap}, Kp g g' → ReadsAll g us ds as → ReadsAll g' us ds as := by
        intro us ds
        induction ds generalizing us with
        | nil => intro as g g' _ r; cases r; exact .nil
        | cons d ds ih => intro as g g' k r; cases r with | cons a b => exact .cons (PyProof.Rows.Reads.keeps k a) (ih k b)
      exact key (fun b o e => Heap.get?_push_of_some _ e) r1
    simpa using this
/-- is None -/
theorem kt_isN {j pos'} (ha : KE C a d) (hb : ∀ h u, Reads h u d [] → (u == Value.none) = b) : KT C (.Compare a [.Is] [.Constant .none j pos'] pos) b := by
  refine ⟨fun h tk Q E k q => ?_⟩
  refine wpAny_isTrue_Compare1 (ha.run h tk _ E k fun u h1 tk1 k1 r1 => ?_) (nomark _)
  refine Constant_none (is_none_gen ?_)
  rw [hb h1 u r1]
  exact wpAny_truthy_bool (q h1 tk1 k1)
/-- isinstance(a, int) -/
theorem kt_isi {p p2 : Pos} {T : Str} {t : String} (ok : C.Ok) (ha : KE C a d) (hm : C.mg "isinstance" = none) (hmt : C.mg T = none) (hv : bootBuiltins T = some (.type t))
    (hg : C.env.kindOf "isinstance" = some .globalImplicit) (hgt : C.env.kindOf T = some .globalImplicit) (hn : T ≠ "__name__") (hdt : (T == ("__debug__" : Str)) = false)
    (hs : starEach [a, .Name T p2] C.env = (false, eval a C.env) :: starEach [.Name T p2] C.env) (hs2 : starEach [.Name T p2] C.env = (false, eval (.Name T p2) C.env) :: starEach [] C.env)
    (hpl : (backTo pos (starEach [.Name T p2] C.env)).any (·.1) = false)
    (he : ∀ whole, isTrue (.Call (.Name "isinstance" p) [a, .Name T p2] [] pos) C.env whole = (do let v ← whole; standAt (Expr.pos (.Call (.Name "isinstance" p) [a, .Name T p2] [] pos)); holding [v] (truthy v)))
    (hb : ∀ (s : Shared) u (Q : Value → Shared → Prop) E, C.K.In s.heap → Reads s.heap u d [] → (∀ tk, Q (.bool b) { s with toks := tk }) → wpAny (model C.P C.w) C.A (call (.builtin "isinstance") [u, .type t]) Q E s) :
    KT C (.Call (.Name "isinstance" p) [a, .Name T p2] [] pos) b := by
  have blt : ∀ {x : Str} {u : Value} {ps : Pos} {h : Heap} {tk : Nat} {Q : Value → Shared → Prop} {E}, Kp C.s1.heap h → C.env.kindOf x = some .globalImplicit → C.mg x = none → bootBuiltins x = some u → x ≠ "__name__" → (x == ("__debug__" : Str)) = false → Q u (C.st h tk) →
      wpAny (model C.P C.w) C.A (eval (.Name x ps) C.env) Q E (C.st h tk) := by
    intro x u ps h tk Q E k hg hm hv hn hd q
    obtain ⟨mb, h1, h2⟩ := ok.mod.blt
    have kb : Kp C.base h := ok.bs.trans k
    exact Calls.Name_function_global ok.kind hg (Calls.loadGlobal_builtin (by rw [ok.glob]; exact ok.mod.glob.keeps kb) hm (by rw [ok.blt]; exact h1.keeps kb) ((h2 x hn).trans hv) q) hd
  refine ⟨fun h tk Q E k q => ?_⟩
  refine isTrue_plain ?_ (he _)
  refine wpAny_Call_Name_kw (blt k hg hm PyProof.Rows.boot_isinstance (by decide) (by decide) ?_)
  refine PyProof.Rows.callWith_builtin1 ?_ hs hpl
  rw [hs]
  show wpAny _ _ (spliced ((false, eval a C.env) :: backTo pos (starEach [.Name T p2] C.env))) _ _ _
  refine Calls.spliced_cons (ha.run h tk _ _ k fun u h1 tk1 k1 r1 => ?_)
  rw [hs2]
  show wpAny _ _ (spliced ((false, eval (.Name T p2) C.env) :: backTo pos (starEach [] C.env))) _ _ _
  refine Calls.spliced_cons (blt (k.trans k1) hgt hmt hv hn hdt (Calls.spliced_nil ?_))
  refine hb _ u _ _ (ok.mod.kin.keeps (ok.bs.trans (k.trans k1))) r1 fun tk2 => ?_
  exact wpAny_truthy_bool (q h1 tk2 k1)
/-- isinstance(a, int) of a number, of a tuple -/
theorem kt_int {p p2 : Pos} (ok : C.Ok) (ha : KE C a d) (hd : (∃ i, d = .int i ∧ b = true) ∨ (∃ xs, d = .tuple xs ∧ b = false)) (hm : C.mg "isinstance" = none) (hmt : C.mg "int" = none)
    (hg : C.env.kindOf "isinstance" = some .globalImplicit := by rfl) (hgt : C.env.kindOf "int" = some .globalImplicit := by rfl)
    (hs : starEach [a, .Name "int" p2] C.env = (false, eval a C.env) :: starEach [.Name "int" p2] C.env := by rfl) (hs2 : starEach [.Name "int" p2] C.env = (false, eval (.Name "int" p2) C.env) :: starEach [] C.env := by rfl)
    (hpl : (backTo pos (starEach [.Name "int" p2] C.env)).any (·.1) = false := by rfl)
    (he : ∀ whole, isTrue (.Call (.Name "isinstance" p) [a, .Name "int" p2] [] pos) C.env whole = (do let v ← whole; standAt (Expr.pos (.Call (.Name "isinstance" p) [a, .Name "int" p2] [] pos)); holding [v] (truthy v)) := by intro _; rfl) :
    KT C (.Call (.Name "isinstance" p) [a, .Name "int" p2] [] pos) b := by
  refine kt_isi (t := "int") ok ha hm hmt (by decide +kernel) hg hgt (by decide) (by decide) hs hs2 hpl he fun s u Q E hK r q => ?_
  rcases hd with ⟨i, rfl, rfl⟩ | ⟨xs, rfl, rfl⟩
  · cases r
    exact PySem.W.kia_one PySem.W.kitx_int hK True.intro (kit_is (a := "int") (b := "int") (by decide) (by decide)) (fun z => nomatch z) q
  · cases r with
    | tuple h1 h2 h3 h4 => exact PySem.W.kia_one PySem.W.kitx_tuple hK ⟨_, h1, h2⟩ (kit_is (a := "tuple") (b := "int") (by decide) (by decide)) (fun z => nomatch z) q
theorem kss_ret {rest : List Stmt} (ha : KE C e d) : KSs C (.Return (some e) pos :: rest) d :=
  ⟨fun h tk Q E k q => wpAny_execs_cons (wpAny_Return_some (ha.run h tk _ E k fun u h1 tk1 k1 r1 => q u h1 tk1 k1 r1))⟩
theorem kss_yes {c : Expr} {xs ys rest : List Stmt} (hc : KT C c true) (hx : KSs C xs d) : KSs C (.If c xs ys pos :: rest) d :=
  ⟨fun h tk Q E k q => wpAny_execs_cons (wpAny_If (hc.run h tk _ E k fun h1 tk1 k1 => hx.run h1 tk1 _ E (k.trans k1) fun u h2 tk2 k2 r2 => q u h2 tk2 (k1.trans k2) r2))⟩
theorem kss_no {c : Expr} {xs rest : List Stmt} (hc : KT C c false) (hx : KSs C rest d) : KSs C (.If c xs [] pos :: rest) d :=
  ⟨fun h tk Q E k q => wpAny_execs_cons (wpAny_If (hc.run h tk _ E k fun h1 tk1 k1 => wpAny_execs_nil (hx.run h1 tk1 _ E (k.trans k1) fun u h2 tk2 k2 r2 => q u h2 tk2 (k1.trans k2) r2)))⟩
end

/-! ### the def's entry -/
def KeyT (P : Program) (w : World) (K : PySem.W.Frag) (mg : Str → Option Value) (base : Heap) (k : Nat) (f : Addr) (kd : PyData → PyData → Prop) : Prop :=
  ∀ (A : Around) (outer : List PySem.Env) (s : Shared) (v : Value) (x key : PyData) (E : Value → Shared → Prop), Mod K mg base → Room k A → Kp base s.heap → Reads s.heap v x [] → kd x key → wpAny (model P w) A (call (.ref f) [v]) (PySem.W.KeyPure key s) E s
abbrev kcx (P : Program) (w : World) (K : PySem.W.Frag) (mg : Str → Option Value) (base : Heap) (px qual : Str) (sc : Scope) (f : Addr) (cd : Value) (A : Around) (s s1 : Shared) (u : Value) : KCx where
  P := P
  w := w
  K := K
  mg := mg
  base := base
  A := A.deeper (envOfC qual sc s.heap.objs.size f cd)
  env := envOfC qual sc s.heap.objs.size f cd
  m := bindL (envOfC qual sc s.heap.objs.size f cd).kindOf ([px].zip [u]) fun _ => none
  s1 := s1
theorem key_fn {P : Program} {w : World} {K : PySem.W.Frag} {mg : Str → Option Value} {base : Heap} {x px : Str} {st : Stmt} {f : Addr} {fd : FuncData} {k : Nat} {kd : PyData → PyData → Prop} (F : Fun K x x st f fd) (S : FnScope [px] [px] (defScope st)) (hl : (defScope st).names.lookup px = some .local) (hb : Binds K fd [px] [])
    (hbody : ∀ (cd : Value) (A : Around) (s s1 : Shared) (u : Value) (d key : PyData), kd d key → (kcx P w K mg base px x (defScope st) f cd A s s1 u).Ok → Reads s1.heap u d [] → (kcx P w K mg base px x (defScope st) f cd A s s1 u).m px = some u → KSs (kcx P w K mg base px x (defScope st) f cd A s s1 u) (defBody st) key) :
    KeyT P w K mg base (k + 1) f kd := by
  intro A outer s v d key E mod hr kb hr0 hkd
  obtain ⟨oc, od, kV, doc, pm, an, cdv, ct, osl, rfl, lk, hcd⟩ := F.ex
  have KX : K.In s.heap := mod.kin.keeps kb
  have lim : s.heap.NoLimit := mod.nolimit.keeps kb
  refine wpAny_call (codeAny_mono (R := fun r s' => match r with | .ok (.ret u) => PySem.W.KeyPure key s u s' | .ok _ => False | .error _ => False) ?_ fun r s' hq => ?_)
  · refine codeAny_call_function hr.depth (KX _ _ lk) rfl S.co S.gen rfl (PySem.W.codeRec_of KX hcd) (hb s [v] KX (by simp) _ _ _ _ ?_)
    refine wpAny_newFunctionEnv_cells S.kind (fun y hy => ?_) fun env he s1 ic => ?_
    · have : y = (px, v) := by simpa using hy
      subst this
      exact .inl hl
    subst he
    refine ⟨lim.keeps ic.toInCall.keep, codeAny_func ?_⟩
    obtain ⟨h1, tk, rfl, hk⟩ := id ic.done
    have kk : Kp s.heap h1 := hk
    have ok : (kcx P w K mg base px x (defScope st) f cdv A s { s with heap := h1, toks := tk } v).Ok := ⟨mod, kb.trans kk, S.kind, rfl, rfl, ic.toInCall.ns⟩
    have hm : (kcx P w K mg base px x (defScope st) f cdv A s { s with heap := h1, toks := tk } v).m px = some v := bindL_get (kindOf := (envOfC x (defScope st) s.heap.objs.size f cdv).kindOf) (P := [px]) (vs := [v]) (i := 0) (by simp) rfl rfl hl
    have hrun := (hbody cdv A s { s with heap := h1, toks := tk } v d key hkd ok (PyProof.Rows.Reads.keeps kk hr0) hm).run h1 tk
    refine hrun _ _ Kp.rfl fun u h' tk' k' r' => ?_
    exact ⟨h', tk', rfl, kk.trans k', r'⟩
  · cases r with
    | error e => exact hq.elim
    | ok fl => cases fl with
      | ret u => exact hq
      | next => exact hq.elim
      | brk => exact hq.elim
      | cont => exact hq.elim

mutual
/-- no list in it -/
def noL : PyData → Bool
  | .none => true
  | .bool _ => true
  | .int _ => true
  | .str _ => true
  | .tuple xs => noLs xs
  | _ => false
def noLs : List PyData → Bool
  | [] => true
  | x :: xs => noL x && noLs xs
end
mutual
theorem reads_nil {h : Heap} : ∀ (d : PyData) (v : Value) (as : List Addr), Reads h v d as → noL d = true → as = []
  | .none, _, _, r, _ => by cases r; rfl
  | .bool _, _, _, r, _ => by cases r; rfl
  | .int _, _, _, r, _ => by cases r; rfl
  | .str _, _, _, r, _ => by cases r; rfl
  | .tuple xs, _, _, r, n => by
    cases r with
    | tuple h1 h2 h3 h4 => exact readsAll_nil xs _ _ h4 (by simpa [noL] using n)
  | .list _, _, _, _, n => by simp [noL] at n
  | .dict _, _, _, _, n => by simp [noL] at n
theorem readsAll_nil {h : Heap} : ∀ (ds : List PyData) (vs : List Value) (as : List Addr), ReadsAll h vs ds as → noLs ds = true → as = []
  | [], _, _, r, _ => by cases r; rfl
  | d :: ds, _, _, r, n => by
    cases r with
    | cons a b =>
      rw [noLs, Bool.and_eq_true] at n
      rw [reads_nil d _ _ a n.1, readsAll_nil ds _ _ b n.2]
      rfl
end

/-! ### sorted(xs, key=f) -/
structure KItem where
  x : PyData
  key : PyData
  v : V
theorem items_each : ∀ {ps : List KItem} {us : List Value}, Vals (ps.map (·.v)) us → PySem.W.EachIs (fun u (p : KItem) => RelV p.v u) us ps := by
  intro ps
  induction ps with
  | nil => intro us r; cases r; exact .nil
  | cons p ps ih => intro us r; cases r with | cons a b => exact .cons a (ih b)
theorem each_items : ∀ {ps : List KItem} {us : List Value} {R : Value → KItem → Prop}, PySem.W.EachIs R us ps → (∀ u p, R u p → RelV p.v u) → Vals (ps.map (·.v)) us := by
  intro ps us R e
  induction e with
  | nil => intro _; exact .nil
  | cons a b ih => intro hh; exact .cons (hh _ _ a) (ih hh)
def rSrtK (K : PySem.W.Frag) (f : Addr) (kd : PyData → PyData → Prop) : List V → List V → Hp → VK → Prop := fun vs zs H Q => ∃ (a : Addr) (ps : List KItem), vs = [.ref a] ∧ zs = [.ref f] ∧ SqL K H a (ps.map (·.v)) ∧
  (∀ p ∈ ps, Dp K H p.v p.x ∧ noL p.x = true ∧ kd p.x p.key ∧ p.key.depth ≤ 60) ∧ PySem.W.AllAlike (ps.map (·.key)) ∧ PySem.W.Sortable (ps.map (·.key)) ∧
  ∀ q, H q = none → Q (.ref q) (upd H q (.lst ((ps.mergeSort (PySem.W.dataLe false (fun p : KItem => p.key))).map (·.v))))
theorem cr_srtK {X : Cx} {k : Nat} {f : Addr} {kd : PyData → PyData → Prop} (T : KeyT X.prog X.w X.K X.mg X.base k f kd) (hr : Room (k + 2) X.A) : CallRK X (.builtin "sorted") [Str.ofString "key"] (rSrtK X.K f kd) := by
  intro pins s σ H vs zs us ws Q I r rz h
  obtain ⟨a, ps, rfl, rfl, hs, hd, hal, hk, q⟩ := h
  obtain ⟨its, rv, hl, hz⟩ := I.list hs
  rw [Vals.ref1 r]
  obtain ⟨w1, rfl, e1⟩ := vals1 rz
  obtain rfl : w1 = Value.ref f := e1
  have hun : X.A.units + 66 < cLine := by have := hr.un; omega
  have e : PySem.W.EachIs (fun v (p : KItem) => RelV p.v v ∧ Reads s.heap v p.x [] ∧ kd p.x p.key) its ps := by
    have key : ∀ {us : List Value} {qs : List KItem}, PySem.W.EachIs (fun u (p : KItem) => RelV p.v u) us qs → (∀ p ∈ qs, Dp X.K H p.v p.x ∧ noL p.x = true ∧ kd p.x p.key ∧ p.key.depth ≤ 60) → PySem.W.EachIs (fun v (p : KItem) => RelV p.v v ∧ Reads s.heap v p.x [] ∧ kd p.x p.key) us qs := by
      intro us qs e'
      induction e' with
      | nil => intro _; exact .nil
      | cons a b ih =>
        intro hh
        rename_i b0 _ _
        have h0 := hh b0 (by simp)
        obtain ⟨as, r0⟩ := Dp.reads I _ _ _ h0.1 a
        have := reads_nil _ _ _ r0 h0.2.1
        subst this
        exact .cons ⟨a, r0, h0.2.2.1⟩ (ih fun p hp => hh p (by simp [hp]))
    exact key (items_each rv) hd
  refine PySem.W.sorted_key_data (b := false) (kw := [(Str.ofString "key", Value.ref f)]) (fun p : KItem => p.key) hl.isList e hal hk (by simpa using hz) (fun p hp => by have := (hd p hp).2.2.2; omega) (PyProof.Rows.ksk_s1 _ _) (fun _ => PyProof.Rows.ksk_l1 _ _) (fun _ => PyProof.Rows.ksk_t1 _ _)
    (fun v p ⟨_, hrd, hkd⟩ _ h tk kp => T X.A.in1.in1 X.stack _ v p.x p.key _ I.mod hr.in1.in1 (Kp.trans (show Kp X.base s.heap from I.bk) kp) (PyProof.Rows.Reads.keeps kp hrd) hkd) fun out c h' tk kp hfr hD hlen eo => ?_
  have hv := each_items eo fun _ _ z => z.1
  have hlen2 : ((ps.mergeSort (PySem.W.dataLe false (fun p : KItem => p.key))).map (·.v)).length ≤ sizeLine := by
    rw [List.length_map, List.length_mergeSort]
    simpa using hz
  exact ⟨.ref _, upd H (s.heap.objs.size + 1) (.lst ((ps.mergeSort (PySem.W.dataLe false (fun p : KItem => p.key))).map (·.v))), I.laid (t' := tk) kp (Nat.le_succ _) ⟨hlen2, out, c, hv, hD⟩, rfl, q _ (I.hok.fresh (Nat.le_succ _))⟩

/-- the key by the item -/
noncomputable def keyOf (kf : PyData → Option PyData) (x : D) : PyData := (kf (toPy x)).getD .none
def SrtKOk (kf : PyData → Option PyData) (xs : List D) : Prop :=
  (∀ x ∈ xs, (toPy x).plain = true ∧ noL (toPy x) = true ∧ (kf (toPy x)).isSome = true ∧ (keyOf kf x).depth ≤ 60) ∧ PySem.W.AllAlike (xs.map (keyOf kf)) ∧ PySem.W.Sortable (xs.map (keyOf kf))
noncomputable def srtK (kf : PyData → Option PyData) (xs : List D) : List D := xs.mergeSort (PySem.W.dataLe false (keyOf kf))
noncomputable def sSortedK (kf : PyData → Option PyData) (g : VE) : SE := fun env => match g env with
  | .ok m => match brw m with
    | some (false, xs) => if SrtKOk kf xs then .ok (.lst ((srtK kf xs).map .d), env) else .bad
    | _ => .bad
  | _ => .bad
structure KeyA (P : Program) (w : World) (G : Gx) (mg : Str → Option Value) (base : Heap) (k : Nat) (nm : Str) (kf : PyData → Option PyData) : Prop where
  ex : ∃ f : Addr, KeyT P w G.K mg base k f (fun x y => kf x = some y) ∧ mg nm = some (.ref f)
/-- what the rule gives, told in data -/
theorem srtK_data {G : Gx} {Z H : Hp} {a f : Addr} {kf : PyData → Option PyData} {xs : List D} {us : List V} {Q : VK} (zh : Same Z H) (hs : SqL G.K H a us) (rr : RepDs G Z xs us) (ok : SrtKOk kf xs) (q : ∀ p ws, H p = none → RepDs G Z (srtK kf xs) ws → Q (.ref p) (upd H p (.lst ws))) :
    rSrtK G.K f (fun x y => kf x = some y) [.ref a] [.ref f] H Q := by
  have hl := rr.len
  have e1 := zip_fst hl
  have e2 := zip_snd hl
  have hr := repDs_zip rr
  let mk : D × V → KItem := fun p => ⟨toPy p.1, keyOf kf p.1, p.2⟩
  let ps : List KItem := (List.zip xs us).map mk
  have p1 : ps.map (·.key) = xs.map (keyOf kf) := by
    show ((List.zip xs us).map mk).map (·.key) = _
    have h := congrArg (List.map (keyOf kf)) e1
    rw [List.map_map] at h ⊢
    exact h
  have p2 : ps.map (·.v) = us := by
    show ((List.zip xs us).map mk).map (·.v) = _
    rw [List.map_map]
    exact e2
  refine ⟨a, ps, rfl, rfl, by rw [p2]; exact hs, fun p hp => ?_, by rw [p1]; exact ok.2.1, by rw [p1]; exact ok.2.2, fun b hb => ?_⟩
  · obtain ⟨w, hw, rfl⟩ := List.mem_map.mp hp
    have hx : w.1 ∈ xs := by rw [← e1]; exact List.mem_map_of_mem hw
    have h0 := ok.1 _ hx
    refine ⟨RepD.dp zh _ _ h0.1 (hr w hw), h0.2.1, ?_, h0.2.2.2⟩
    obtain ⟨y, hy⟩ := Option.isSome_iff_exists.mp h0.2.2.1
    show kf (toPy w.1) = some (keyOf kf w.1)
    unfold keyOf
    rw [hy]; rfl
  · have m1 : ps.mergeSort (PySem.W.dataLe false (fun p : KItem => p.key)) = ((List.zip xs us).mergeSort (PySem.W.dataLe false fun p : D × V => keyOf kf p.1)).map mk := by
      show ((List.zip xs us).map mk).mergeSort _ = _
      rw [List.map_mergeSort]
      intro a _ b _
      rfl
    have m2 : srtK kf xs = ((List.zip xs us).mergeSort (PySem.W.dataLe false fun p : D × V => keyOf kf p.1)).map (·.1) := by
      have h : srtK kf xs = srtK kf ((List.zip xs us).map (·.1)) := by rw [e1]
      rw [h]
      unfold srtK
      rw [List.map_mergeSort]
      intro a _ b _
      rfl
    rw [m1, List.map_map]
    have hq : ∀ p ∈ (List.zip xs us).mergeSort (PySem.W.dataLe false fun p : D × V => keyOf kf p.1), RepD G Z p.1 p.2 := fun p hp => hr p ((List.mergeSort_perm _ _).mem_iff.mp hp)
    have := repDs_of hq
    rw [← m2] at this
    exact q b _ hb this
section
variable {G : Gx} {X : Cx} {W : WX'} {e : Expr} {g : VE} {p p2 kp pos : Pos} {k k' : Nat} {nm : Str} {kf : PyData → Option PyData}
theorem xe_sortedK (T : KeyA X.prog X.w G X.mg X.base k nm kf) (hr : Room k' X.A) (hk : k + 2 ≤ k') (hK : G.K = X.K) (hm : X.mg "sorted" = none) (ha : PVs G X e g) (hgk : Gl X nm := by rfl) (hdk : (nm == ("__debug__" : Str)) = false := by decide) (hv : bootBuiltins "sorted" = some (.builtin "sorted") := by decide +kernel) (hg : Gl X "sorted" := by rfl) (hst : starEach [e] X.env = (false, eval e X.env) :: starEach [] X.env := by rfl) (hpl : (backTo pos (starEach [e] X.env)).any (·.1) = false := by rfl)
    (hall : (backToKw pos (keywordEach [⟨some "key", .Name nm p2, kp⟩] X.env)).all (·.1.isSome) = true := by rfl) (hnone : (backToKw pos (keywordEach [⟨some "key", .Name nm p2, kp⟩] X.env)).any (·.1.isNone) = false := by rfl) (hks : (backToKw pos (keywordEach [⟨some "key", .Name nm p2, kp⟩] X.env)).filterMap (·.1) = [Str.ofString "key"] := by rfl) :
    PEs G X W (.Call (.Name "sorted" p) [e] [⟨some "key", .Name nm p2, kp⟩] pos) (sSortedK kf g) := by
  obtain ⟨t, q, h⟩ := ha.ex
  obtain ⟨f, T, hf⟩ := T.ex
  rw [hK] at T
  refine ⟨_, pe_callBK (cr_srtK T (hr.mono hk)) hg hm hv (pa_cons q pa_nil hst) (pk_cons (pe_glob (v := .ref f) hgk hf rfl hdk) pk_nil) (by decide) (by decide) (by rw [hst]; rfl) hpl hall hnone hks, SEok.mk' fun Z H σ env S Q gd k => ?_⟩
  unfold sSortedK at k
  have h1 := h Z H σ env S (fun x H1 => rSrtK X.K f (fun x y => kf x = some y) [x] [.ref f] H1 Q) gd
  cases e1 : g env with
  | bad => rw [e1] at k; exact k.elim
  | exc x e' => rw [e1] at k; exact k.elim
  | ok m =>
    rw [e1] at k h1
    simp only at k h1
    cases e3 : brw m with
    | none => rw [e3] at k; exact k.elim
    | some q1 =>
      obtain ⟨b1, xs⟩ := q1
      rw [e3] at k
      cases b1 with
      | true => exact k.elim
      | false =>
        simp only at k
        by_cases ok : SrtKOk kf xs
        case neg => rw [if_neg ok] at k; exact k.elim
        rw [if_pos ok] at k
        refine h1 fun v T _ r => ?_
        obtain ⟨a, us, rfl, rr, sq⟩ := brw_rep gd.zh r e3
        obtain ⟨_, s2⟩ := sq Z H (Same.refl _) gd.zh fun _ _ _ z => z
        rw [← hK]
        refine srtK_data gd.zh (s2 rfl) rr ok fun b ws hb rw' => ?_
        have pS : ¬ U S b := fun z => gd.al' b z hb
        exact k (.ref b) _ _ S (fun a => a = b) (Stp.new (o := .lst ws) gd.zh hb (U S)) (gd.move (Stp.new (o := .lst ws) gd.zh hb (fun _ => False)) fun _ _ z => z).1 (lst_newD gd.zh rw' hb pS)
end
/-- None, numbers, tuples: the key of a rank -/
def rankK : PyData → Option PyData
  | .none => some (.tuple [.int 0, .int 0, .tuple []])
  | .int i => some (.tuple [.int 1, .int i, .tuple []])
  | .tuple xs => some (.tuple [.int 2, .int 0, .tuple xs])
  | _ => none
end FL

set_option maxHeartbeats 2000000
/-! FLWC: list(reversed(xs)). -/
namespace FL
open PySem L2 Classical PySem.Spec PyProof.Rows RT
section
variable {prog : Program} {w : World} {A : Around} {E : Value → Shared → Prop} {s : Shared}
theorem ext_rev {it l S : Addr} {its : Array Value} {c : Nat} {R : Result → Shared → Prop} (hh : A.handled = none) (hi : s.heap.IsRevIter it l ((its.size : Int) - 1)) (hl : s.heap.IsList l its) (ne : l ≠ it) (sz : its.size ≤ sizeLine) (nS : S ∉ [it, l])
    (oS : s.heap.get? S = some { cls := .type "list", data := .seq #[] c })
    (k : ∀ s2 acc c2, Moved [S, it] (fun a b => b = a) s s2 → s2.heap.get? S = some { cls := .type "list", dict := none, data := .seq acc c2, slots := #[] } → ItemsOf (fun i v => its[its.size - 1 - i]? = some v) acc its.size → R (.ok (.ret .none)) s2) :
    wpAny (model prog w) A.in1 (Builtin.List.listExtendWith (.ref S) (.ref it) .none)
      (fun fin s' => match fin with | .done f => R (.ok f) s' | .again c' => c'.quiet = true ∧ codeAny (model prog w) A c' R s') (fun e s' => R (.error e) s') s := by
  have W := (Walks.listRev (prog := prog) (w := w) (A := A.in1) hh it l ne its).toS
  have nSi : S ≠ it := fun z => nS (by simp [z])
  have ty : s.TypeIs (.ref it) "list_reverseiterator" := hi.typeIs
  unfold Builtin.List.listExtendWith
  refine wpAny_bind (wpAny_typeOf ty ?_)
  have h1 : Builtin.List.listSameRef (.ref S) (.ref it) = false := by simp [Builtin.List.listSameRef, nSi]
  rw [if_neg (by rw [h1]; decide)]
  refine wpAny_bind (wpAny_pyIter_revIter hi ?_)
  refine wpAny_bind (wpAny_holding ?_)
  unfold Builtin.List.listLengthHint
  refine wpAny_bind (wpAny_specialOf ty nolen_lri ?_)
  show wpAny _ A.in1 (specialOf (Value.ref it) (Str.ofString "__length_hint__") >>= _) _ _ _
  refine wpAny_bind (wpAny_specialOf ty hint_lri ?_)
  generalize hid : ("list_reverseiterator.__length_hint__" : String) = id0
  wp_delta
  rw [show splitId id0 = some ("list_reverseiterator", "__length_hint__") from by subst hid; decide +kernel]
  subst hid
  refine wpAny_bind (wpAny_isInstance (b := true) ty (by rw [isSubtype_type]; kernel_rfl) ?_)
  refine wpAny_pure ?_
  rw [if_neg (by decide)]
  have e0 : ((its.size : Nat) : Int) - 1 - ((0 : Nat) : Int) = (its.size : Int) - 1 := by omega
  exact wpAny_pure ⟨plainId_quiet F.plain_extend_loop _, codeAny_extend_loopS W sz _ nS _ its.size 0 _ _ _ rfl (Nat.zero_le _) ⟨Nat.zero_le _, by rw [e0]; exact hi, hl⟩ oS (ItemsOf.nil _) fun s2 acc c2 hm hS' hacc => k s2 acc c2 hm hS' hacc⟩
theorem init_rev {it l S : Addr} {its : Array Value} {R : Result → Shared → Prop} (hh : A.handled = none) (hi : s.heap.IsRevIter it l ((its.size : Int) - 1)) (hl : s.heap.IsList l its) (ne : l ≠ it) (sz : its.size ≤ sizeLine) (nS : S ∉ [it, l])
    (oS : s.heap.get? S = some { cls := .type "list", data := .seq #[] })
    (k : ∀ h' tk acc c2, (∀ b o, b ≠ it → b ≠ S → s.heap.get? b = some o → h'.get? b = some o) → h'.get? S = some { cls := .type "list", dict := none, data := .seq acc c2, slots := #[] } → ItemsOf (fun i v => its[its.size - 1 - i]? = some v) acc its.size → R (.ok (.ret .none)) { s with heap := h', toks := tk }) :
    wpAny (model prog w) A.in1 (Builtin.«list.__init__» ⟨[.ref S, .ref it], []⟩)
      (fun fin s' => match fin with | .done f => R (.ok f) s' | .again c' => c'.quiet = true ∧ codeAny (model prog w) A c' R s') (fun e s' => R (.error e) s') s := by
  show wpAny _ A.in1 (Builtin.List.listItems (.ref S) >>= fun old => Builtin.List.listUpdate (.ref S) (fun _ => #[]) >>= fun _ => letGo old.toList.reverse >>= fun _ => Builtin.List.listExtendWith (.ref S) (.ref it) .none) _ _ s
  refine wpAny_bind ?_
  unfold Builtin.List.listItems
  refine wpAny_bind (wpAny_seqItems oS rfl (wpAny_pure ?_))
  show wpAny _ A.in1 (updateSeq S (fun _ => #[]) >>= fun _ => letGo (#[] : Array Value).toList.reverse >>= fun _ => Builtin.List.listExtendWith (.ref S) (.ref it) .none) _ _ s
  refine wpAny_bind (wpAny_updateSeq oS rfl ?_)
  have o2 := Heap.get?_update_self (Obj.mapSeq (fun _ => (#[] : Array Value))) oS rfl
  have nSi : S ≠ it := fun z => nS (by simp [z])
  have nSl : S ≠ l := fun z => nS (by simp [z])
  have oth : ∀ b o, b ≠ S → s.heap.get? b = some o → (s.heap.update S (Obj.mapSeq (fun _ => (#[] : Array Value)))).get? b = some o := fun b o hb e => by
    rw [← e]; exact Heap.get?_update_other _ _ (Ne.symm hb)
  refine wpAny_bind (wpAny_letGo ?_)
  have hl2 : (s.heap.update S (Obj.mapSeq (fun _ => (#[] : Array Value)))).IsList l its := hl.at fun o e => oth l o (Ne.symm nSl) e
  refine ext_rev (s := { s with heap := s.heap.update S (Obj.mapSeq (fun _ => (#[] : Array Value))) }) hh (hi.at fun o e => oth it o (Ne.symm nSi) e) hl2 ne sz nS o2 fun s2 acc c2 hm hS ha => ?_
  rw [Moved.eq_with hm]
  refine k _ _ acc c2 (fun b o h1 h2 e => hm.heap b o (by simp [h1, h2]) (oth b o h2 e)) hS ha
theorem call_list_rev {it l : Addr} {its : Array Value} {Q : Value → Shared → Prop} (hh : A.handled = none) (hi : s.heap.IsRevIter it l ((its.size : Int) - 1)) (hl : s.heap.IsList l its) (ne : l ≠ it) (sz : its.size ≤ sizeLine)
    (k : ∀ h' tk acc c2, (∀ b o, b ≠ it → s.heap.get? b = some o → h'.get? b = some o) → h'.get? s.heap.objs.size = some { cls := .type "list", dict := none, data := .seq acc c2, slots := #[] } → ItemsOf (fun i v => its[its.size - 1 - i]? = some v) acc its.size → Q (.ref s.heap.objs.size) { s with heap := h', toks := tk }) :
    wpAny (model prog w) A (call (.type "list") [.ref it]) Q E s := by
  obtain ⟨oi, hoi, _⟩ := id hi
  obtain ⟨ol, hol, _⟩ := id hl
  have n1 : s.heap.objs.size ≠ it := Nat.ne_of_gt (Heap.lt_size hoi)
  have n2 : s.heap.objs.size ≠ l := Nat.ne_of_gt (Heap.lt_size hol)
  refine callType_codes (Q₁ := fun obj s₁ => obj = .ref s.heap.objs.size ∧ s₁ = { s with heap := s.heap.push { cls := .type "list", data := .seq #[] } }) F.called_list (F.typeCall_list_1 _) F.entry_list_init (code_list_new _ ⟨rfl, rfl⟩) fun obj s₁ h₁ => ?_
  obtain ⟨rfl, rfl⟩ := h₁
  have oS : (s.heap.push { cls := .type "list", data := .seq #[] }).get? s.heap.objs.size = some { cls := .type "list", data := .seq #[] } := Heap.get?_push_size _ rfl
  refine ⟨⟨_, oS, rfl⟩, F.args_list_init_2 _ _, ?_⟩
  refine init_rev (A := A.in1) (s := { s with heap := s.heap.push { cls := .type "list", data := .seq #[] } }) hh (hi.at fun o e => Heap.get?_push_of_some _ e) (hl.push _) ne sz (by simp [n1, n2]) oS fun h' tk acc c2 kp hS ha => ⟨rfl, ?_⟩
  exact k h' tk acc c2 (fun b o hb e => kp b o hb (Nat.ne_of_lt (Heap.lt_size e)) (Heap.get?_push_of_some _ e)) hS ha
end
/-- list(reversed(x)), x a list -/
def tLstRev (K : PySem.W.Frag) (te : TE) : TE := fun σ H Q => te σ H fun v H1 => ∃ (a : Addr) (xs : List V), v = .ref a ∧ SqL K H1 a xs ∧ ∀ q, H1 q = none → Q (.ref q) (upd H1 q (.lst xs.reverse))
section
variable {X : Cx} {e : Expr} {te : TE} {p p2 pos pos2 : Pos}
theorem pe_lstRev (hc : X.calm = true) (hg : Gl X "list") (hm : X.mg "list" = none) (hv : bootBuiltins "list" = some (.type "list")) (hg2 : Gl X "reversed") (hm2 : X.mg "reversed" = none) (he : PE X e te)
    (hs : starEach [e] X.env = (false, eval e X.env) :: starEach [] X.env) (hs2 : starEach [.Call (.Name "reversed" p2) [e] [] pos2] X.env = (false, eval (.Call (.Name "reversed" p2) [e] [] pos2) X.env) :: starEach [] X.env) :
    PE X (.Call (.Name "list" p) [.Call (.Name "reversed" p2) [e] [] pos2] [] pos) (tLstRev X.K te) := by
  refine ⟨fun pins s σ H Q I h => ?_⟩
  refine Call_ (ld_blt I hg hm hv (PyProof.Rows.callWith_type1 (args_cons (Call_ (ld_blt I hg2 hm2 PyProof.Rows.boot_reversed (PyProof.Rows.callWith_type1 (args_cons (thn (he.run pins s σ H _ I h) fun u s1 ⟨v, H1, I1, r1, q1⟩ => args_nil ?_) hs) hs rfl))) hs2) hs2 rfl))
  obtain ⟨a, xs, ev, hq, q⟩ := q1
  subst ev
  obtain rfl : u = Value.ref a := r1
  obtain ⟨its, rv, pl, hz⟩ := I1.list hq
  refine call_reversed_list pl.isList (args_nil ?_)
  obtain ⟨ol, hol, _⟩ := id pl.isList
  have ne : a ≠ s1.heap.objs.size := Nat.ne_of_lt (Heap.lt_size hol)
  have sz : its.toArray.size ≤ sizeLine := by rw [List.size_toArray, ← rv.length]; exact hz
  refine call_list_rev (s := { s1 with heap := s1.heap.push (revObj a ((its.toArray.size : Int) - 1)) }) (I1.ok.hd hc) ⟨_, Heap.get?_push_size _ rfl, rfl, rfl⟩ (pl.isList.push _) ne sz fun h' tk acc c2 kp hS ha => ?_
  have e0 : (s1.heap.push (revObj a ((its.toArray.size : Int) - 1))).objs.size = s1.heap.objs.size + 1 := size_push' _ _
  have hn : H1 (s1.heap.push (revObj a ((its.toArray.size : Int) - 1))).objs.size = none := I1.hok.fresh (by rw [e0]; exact Nat.le_succ _)
  refine ⟨.ref _, upd H1 (s1.heap.push (revObj a ((its.toArray.size : Int) - 1))).objs.size (.lst xs.reverse), I1.laid (t' := tk) (fun b o e => kp b o (Nat.ne_of_lt (Heap.lt_size e)) (Heap.get?_push_of_some _ e)) (by rw [e0]; exact Nat.le_succ _) (show ObjOk X.prog X.w _ _ _ (.lst xs.reverse) from ⟨by rw [List.length_reverse]; exact hz, acc.toList, c2, vals_rev rv ha, ?_⟩), rfl, q _ hn⟩
  rw [Array.toArray_toList]
  exact hS
end
theorem RepDs.rev {G : Gx} {Z : Hp} : ∀ {xs : List D} {vs : List V}, RepDs G Z xs vs → RepDs G Z xs.reverse vs.reverse
  | [], _, r => by simp only [RepDs] at r; subst r; simp [RepDs]
  | x :: xs, _, r => by
    simp only [RepDs] at r
    obtain ⟨v, r', rfl, q, r⟩ := r
    rw [List.reverse_cons, List.reverse_cons]
    exact RepDs.app (RepDs.rev r) (by simp only [RepDs]; exact ⟨v, [], rfl, q, rfl⟩)
def sLstRev (g : VE) : SE := fun env => match g env with
  | .ok m => match brw m with
    | some (false, xs) => .ok (.lst (xs.reverse.map .d), env)
    | _ => .bad
  | _ => .bad
section
variable {G : Gx} {X : Cx} {W : WX'} {e : Expr} {g : VE} {p p2 pos pos2 : Pos}
theorem xe_lstRev (hc : X.calm = true) (hK : G.K = X.K) (hm : X.mg "list" = none) (hm2 : X.mg "reversed" = none) (ha : PVs G X e g) (hv : bootBuiltins "list" = some (.type "list") := by decide +kernel) (hg : Gl X "list" := by rfl) (hg2 : Gl X "reversed" := by rfl)
    (hs : starEach [e] X.env = (false, eval e X.env) :: starEach [] X.env := by rfl) (hs2 : starEach [.Call (.Name "reversed" p2) [e] [] pos2] X.env = (false, eval (.Call (.Name "reversed" p2) [e] [] pos2) X.env) :: starEach [] X.env := by rfl) :
    PEs G X W (.Call (.Name "list" p) [.Call (.Name "reversed" p2) [e] [] pos2] [] pos) (sLstRev g) := by
  obtain ⟨t, q, h⟩ := ha.ex
  refine ⟨_, pe_lstRev hc hg hm hv hg2 hm2 q hs hs2, SEok.mk' fun Z H σ env S Q gd k => ?_⟩
  unfold sLstRev at k
  have h1 := h Z H σ env S (fun v H1 => ∃ (a : Addr) (xs : List V), v = .ref a ∧ SqL X.K H1 a xs ∧ ∀ q, H1 q = none → Q (.ref q) (upd H1 q (.lst xs.reverse))) gd
  cases e1 : g env with
  | bad => rw [e1] at k; exact k.elim
  | exc x e' => rw [e1] at k; exact k.elim
  | ok m =>
    rw [e1] at k h1
    simp only at k h1
    cases e3 : brw m with
    | none => rw [e3] at k; exact k.elim
    | some q1 =>
      obtain ⟨b1, xs⟩ := q1
      rw [e3] at k
      cases b1 with
      | true => exact k.elim
      | false =>
        refine h1 fun v T _ r => ?_
        obtain ⟨a, us, rfl, rr, sq⟩ := brw_rep gd.zh r e3
        obtain ⟨_, s2⟩ := sq Z H (Same.refl _) gd.zh fun _ _ _ z => z
        refine ⟨a, us, rfl, by rw [← hK]; exact s2 rfl, fun b hb => ?_⟩
        have pS : ¬ U S b := fun z => gd.al' b z hb
        exact k (.ref b) _ _ S (fun a => a = b) (Stp.new (o := .lst us.reverse) gd.zh hb (U S)) (gd.move (Stp.new (o := .lst us.reverse) gd.zh hb (fun _ => False)) fun _ _ z => z).1 (lst_newD gd.zh rr.rev hb pS)
end
end FL

set_option maxHeartbeats 2000000
/-! FLDA: a dict whose keys are None, numbers, texts and tuples of these, all mixed, read at the concrete heap. -/
namespace FL
open PySem
section
variable {prog : Program} {w : World} {A : Around} {E : Value → Shared → Prop} {s : Shared}
/-- entry e has the key x -/
abbrev EntK (w : World) (h : Heap) (x : NestedKey) (e : DictEntry) : Prop := e.hash = x.hash w ∧ NestedIs h x e.key ∧ x.depth ≤ 8
theorem eq_mix {x k : NestedKey} {u v : Value} {Q : Bool → Shared → Prop} (hu : A.units + 8 < cLine) (hx : NestedIs s.heap x u) (dx : x.depth ≤ 8) (hk : NestedIs s.heap k v) (q : Q (decide (x = k)) s) : wpAny (model prog w) A (eqBool u v) Q E s :=
  eqAt_key x k A s u v hx hk (by omega) prog w E Q (by rw [← NestedKey.decide_eq]; exact q)
theorem places_nodup (n : Nat) (f : Nat → Option Int) (h : Int) : (placesWithHash n f h).Nodup := by
  unfold placesWithHash
  exact List.Nodup.sublist List.filter_sublist List.nodup_range
theorem mem_places {n : Nat} {f : Nat → Option Int} {h : Int} {i : Nat} : i ∈ placesWithHash n f h ↔ i < n ∧ (f i == some h) = true := by
  unfold placesWithHash
  rw [List.mem_filter, List.mem_range]
theorem get_unique {xs : List NestedKey} (hn : xs.Nodup) {i j : Nat} {k : NestedKey} (hi : xs[i]? = some k) (hj : xs[j]? = some k) : i = j :=
  (List.getElem?_inj (List.getElem?_eq_some_iff.mp hi).1 hn).mp (hi.trans hj.symm)
theorem may_tell {k : NestedKey} {v : Value} {stored : List Value} {Q : Bool → Shared → Prop} (hk : NestedIs s.heap k v) (dk : k.depth ≤ 8)
    (hst : ∀ u ∈ stored, ∃ x, NestedIs s.heap x u ∧ x.depth ≤ 8) (q : Q false s) : wpAny (model prog w) A (tableMayTell v stored) Q E s := by
  unfold tableMayTell
  split
  · exact wpAny_pure q
  refine wpAny_bind (quiet_key k v 8 s hk dk A E _ ?_)
  simp only [Bool.not_true, Bool.false_eq_true, if_false]
  refine wpAny_bind (wpAny_forIn_list _ (fun rest r s2 => s2 = s ∧ r = (none, ()) ∧ ∀ u ∈ rest, ∃ x, NestedIs s.heap x u ∧ x.depth ≤ 8) _ ?_ ?_ _ _ ⟨rfl, rfl, hst⟩)
  · rintro u rest r s2 ⟨rfl, rfl, hr⟩
    obtain ⟨x, hx, dx⟩ := hr u (by simp)
    refine wpAny_bind (quiet_key x u 8 _ hx dx A E _ ?_)
    simp only [Bool.not_true, Bool.false_eq_true, if_false]
    exact wpAny_pure ⟨rfl, rfl, fun u hu => hr u (by simp [hu])⟩
  · rintro r s2 ⟨rfl, rfl, _⟩
    exact wpAny_pure q
theorem walk_plain {d : Addr} {v : Value} {o : Obj} {es : Array DictEntry} {ep : Nat} {xs : List NestedKey} {k : NestedKey} {Q : Option Nat → Shared → Prop} (hu : A.units + 8 < cLine) (hk : NestedIs s.heap k v) (ho : s.heap.get? d = some o) (hd : o.data = .dict es ep)
    (hl : xs.length = es.size) (hx : ∀ (i : Nat) (x : NestedKey) (e : DictEntry), xs[i]? = some x → es[i]? = some e → EntK w s.heap x e) (hn : xs.Nodup) (hnone : k ∉ xs → Q none s) (hsome : ∀ j : Nat, xs[j]? = some k → Q (some j) s) :
    wpAny (model prog w) A (dictWalkPlain d v (k.hash w) es (placesWithHash es.size (fun i => es[i]?.map (·.hash)) (k.hash w))) Q E s := by
  unfold dictWalkPlain
  refine wpAny_bind (wpAny_forIn_list _ (fun rest r s2 => s2 = s ∧ r = (none, ()) ∧ (∀ i ∈ rest, i < es.size ∧ ((es[i]?.map (·.hash)) == some (k.hash w)) = true) ∧ (k ∉ xs ∨ ∃ j, xs[j]? = some k ∧ j ∈ rest)) _ ?_ ?_ _ _ ⟨rfl, rfl, fun i hi => mem_places.mp hi, ?_⟩)
  · rintro i rest r s2 ⟨rfl, rfl, hr, hh⟩
    obtain ⟨hi, hhi⟩ := hr i (by simp)
    have he : es[i]? = some es[i] := Array.getElem?_eq_getElem hi
    obtain ⟨x, hxi⟩ : ∃ x, xs[i]? = some x := ⟨_, List.getElem?_eq_getElem (by omega)⟩
    obtain ⟨e1, e2, e3⟩ := hx i x _ hxi he
    rw [he] at hhi ⊢
    simp only [Option.map_some, beq_iff_eq, Option.some.injEq] at hhi
    dsimp only
    rw [if_pos (by rw [hhi]; simp)]
    refine wpAny_bind (wpAny_dictEpoch ho hd (wpAny_bind (eq_mix (x := x) (k := k) hu e2 e3 hk (wpAny_bind (wpAny_dictEpoch ho hd ?_)))))
    show wpAny _ _ (if (ep != ep) = true then _ else _) _ E _
    rw [if_neg (by simp)]
    by_cases q : x = k
    · subst q
      simp only [decide_true, if_true]
      exact wpAny_bind (wpAny_rule (wpAny_pure (wpAny_pure (hsome i hxi))))
    · simp only [q, decide_false, Bool.false_eq_true, if_false]
      refine wpAny_bind (wpAny_rule (wpAny_pure ⟨rfl, rfl, fun j hj => hr j (by simp [hj]), ?_⟩))
      rcases hh with h | ⟨j, hj, hm⟩
      · exact .inl h
      · refine .inr ⟨j, hj, ?_⟩
        rcases List.mem_cons.mp hm with e | e
        · subst e; rw [hj] at hxi; cases hxi; exact absurd rfl q
        · exact e
  · rintro r s2 ⟨rfl, rfl, _, hh⟩
    rcases hh with h | ⟨j, hj, hm⟩
    · exact wpAny_pure (hnone h)
    · exact absurd hm (by simp)
  · by_cases q : k ∈ xs
    · obtain ⟨j, hj⟩ := List.mem_iff_getElem?.mp q
      refine .inr ⟨j, hj, mem_places.mpr ?_⟩
      have hlt : j < es.size := by rw [← hl]; exact (List.getElem?_eq_some_iff.mp hj).1
      have he : es[j]? = some es[j] := Array.getElem?_eq_getElem hlt
      refine ⟨hlt, ?_⟩
      rw [he]
      have := (hx j k _ hj he).1
      simp [this]
    · exact .inl q
theorem find_mix {d : Addr} {v : Value} {o : Obj} {es : Array DictEntry} {ep : Nat} {xs : List NestedKey} {k : NestedKey} {Q : Option Nat → Shared → Prop} (hu : A.units + 8 < cLine) (hk : NestedIs s.heap k v) (dk : k.depth ≤ 8) (ho : s.heap.get? d = some o) (hd : o.data = .dict es ep)
    (hl : xs.length = es.size) (hx : ∀ (i : Nat) (x : NestedKey) (e : DictEntry), xs[i]? = some x → es[i]? = some e → EntK w s.heap x e) (hn : xs.Nodup) (hnone : k ∉ xs → Q none s) (hsome : ∀ j : Nat, xs[j]? = some k → Q (some j) s) :
    wpAny (model prog w) A (dictFind d v (k.hash w)) Q E s := by
  have entOf : ∀ e ∈ es, ∃ i x, xs[i]? = some x ∧ es[i]? = some e := fun e he => by
    obtain ⟨i, hi⟩ := Array.mem_iff_getElem?.mp he
    have hlt : i < es.size := (Array.getElem?_eq_some_iff.mp hi).1
    exact ⟨i, _, List.getElem?_eq_getElem (by omega), hi⟩
  obtain ⟨pl, hpl⟩ : ∃ pl, pl = placesWithHash es.size (fun i => es[i]?.map (·.hash)) (k.hash w) := ⟨_, rfl⟩
  have hst : ∀ u ∈ pl.filterMap (fun i => es[i]?.map (·.key)), ∃ x, NestedIs s.heap x u ∧ x.depth ≤ 8 := by
    intro u hu
    obtain ⟨i, _, hi⟩ := List.mem_filterMap.mp hu
    cases hei : es[i]? with
    | none => rw [hei] at hi; cases hi
    | some e =>
      rw [hei] at hi
      obtain rfl : e.key = u := by simpa using hi
      have hlt : i < es.size := (Array.getElem?_eq_some_iff.mp hei).1
      obtain ⟨e1, e2, e3⟩ := hx i _ e (List.getElem?_eq_getElem (by omega)) hei
      exact ⟨_, e2, e3⟩
  have hpm : ∀ i ∈ pl, i < es.size ∧ ((es[i]?.map (·.hash)) == some (k.hash w)) = true := fun i hi => by rw [hpl] at hi; exact mem_places.mp hi
  have hpn : pl.Nodup := by rw [hpl]; exact places_nodup _ _ _
  have hpk : k ∉ xs ∨ ∃ j, xs[j]? = some k ∧ j ∈ pl := by
    by_cases q : k ∈ xs
    · obtain ⟨j, hj⟩ := List.mem_iff_getElem?.mp q
      refine .inr ⟨j, hj, ?_⟩
      rw [hpl]
      refine mem_places.mpr ?_
      have hlt : j < es.size := by rw [← hl]; exact (List.getElem?_eq_some_iff.mp hj).1
      have he : es[j]? = some es[j] := Array.getElem?_eq_getElem hlt
      refine ⟨hlt, ?_⟩
      rw [he]
      have := (hx j k _ hj he).1
      simp [this]
    · exact .inl q
  have plain := walk_plain (prog := prog) (A := A) (E := E) (d := d) hu hk ho hd hl hx hn hnone hsome
  rw [← hpl] at plain
  have hk0 := hk
  have turn : ∀ (stored : List Value) (i : Nat) (rest : List Nat) (hit : Option Nat), i < es.size → ((es[i]?.map (·.hash)) == some (k.hash w)) = true → (i :: rest).Nodup → (∀ j ∈ rest, j < es.size ∧ ((es[j]?.map (·.hash)) == some (k.hash w)) = true) →
      ((k ∉ xs ∧ hit = none) ∨ ∃ j, xs[j]? = some k ∧ ((hit = none ∧ j ∈ i :: rest) ∨ (hit = some j ∧ j ∉ i :: rest))) →
      ∃ x, xs[i]? = some x ∧ ∃ e, es[i]? = some e ∧ (e.hash == k.hash w) = true ∧ NestedIs s.heap x e.key ∧ x.depth ≤ 8 ∧
        (x = k → hit = none ∧ ((k ∉ xs ∧ some i = none) ∨ ∃ j, xs[j]? = some k ∧ ((some i = none ∧ j ∈ rest) ∨ (some i = some j ∧ j ∉ rest)))) ∧
        (x ≠ k → ((k ∉ xs ∧ hit = none) ∨ ∃ j, xs[j]? = some k ∧ ((hit = none ∧ j ∈ rest) ∨ (hit = some j ∧ j ∉ rest)))) := by
    intro stored i rest hit hi hhi hnd hr hh
    have he : es[i]? = some es[i] := Array.getElem?_eq_getElem hi
    obtain ⟨x, hxi⟩ : ∃ x, xs[i]? = some x := ⟨_, List.getElem?_eq_getElem (by omega)⟩
    obtain ⟨e1, e2, e3⟩ := hx i x _ hxi he
    rw [he] at hhi
    simp only [Option.map_some, beq_iff_eq, Option.some.injEq] at hhi
    refine ⟨x, hxi, _, he, by rw [hhi]; simp, e2, e3, fun q => ?_, fun q => ?_⟩
    · subst q
      have hnr := (List.nodup_cons.mp hnd).1
      rcases hh with ⟨h, _⟩ | ⟨j, hj, hm⟩
      · exact absurd (List.mem_of_getElem? hxi) h
      · have := get_unique hn hxi hj
        subst this
        rcases hm with ⟨h, _⟩ | ⟨_, h⟩
        · exact ⟨h, .inr ⟨i, hxi, .inr ⟨rfl, hnr⟩⟩⟩
        · exact absurd (List.mem_cons_self) h
    · rcases hh with h | ⟨j, hj, hm⟩
      · exact .inl h
      · have hji : j ≠ i := fun z => by subst z; rw [hj] at hxi; cases hxi; exact q rfl
        refine .inr ⟨j, hj, ?_⟩
        rcases hm with ⟨h, h2⟩ | ⟨h, h2⟩
        · exact .inl ⟨h, (List.mem_cons.mp h2).resolve_left hji⟩
        · exact .inr ⟨h, fun z => h2 (List.mem_cons_of_mem _ z)⟩
  have fin : ∀ hit : Option Nat, ((k ∉ xs ∧ hit = none) ∨ ∃ j, xs[j]? = some k ∧ ((hit = none ∧ j ∈ ([] : List Nat)) ∨ (hit = some j ∧ j ∉ ([] : List Nat)))) → Q hit s := by
    intro hit hh
    rcases hh with ⟨h, rfl⟩ | ⟨j, hj, ⟨_, h⟩ | ⟨rfl, _⟩⟩
    · exact hnone h
    · simp at h
    · exact hsome j hj
  have byText : ∀ (y : Str) (t : Tok), v = .str y t → (es.all fun e => isExactStrKey e.key) = true → wpAny (model prog w) A (foundByValue d v es y) Q E s := by
    intro y t hv hall
    subst hv
    have hky : k = .text y := by cases hk0; rfl
    subst hky
    have his : ∀ (u : Value) (x : NestedKey), NestedIs s.heap x u → (u.isStr y = true ↔ x = .text y) := fun u x hx => by
      cases hx <;> simp_all [Value.isStr]
    unfold foundByValue
    cases hf : es.findIdx? (fun e => e.key.isStr y) with
    | none =>
      dsimp only
      refine wpAny_pure (hnone fun hm => ?_)
      obtain ⟨j, hj⟩ := List.mem_iff_getElem?.mp hm
      have hlt : j < es.size := by rw [← hl]; exact (List.getElem?_eq_some_iff.mp hj).1
      have he : es[j]? = some es[j] := Array.getElem?_eq_getElem hlt
      have h1 := (his _ _ (hx j _ _ hj he).2.1).mpr rfl
      have h2 := Array.findIdx?_eq_none_iff.mp hf es[j] (Array.getElem_mem hlt)
      rw [h1] at h2
      cases h2
    | some i =>
      obtain ⟨hlt, h1, _⟩ := Array.findIdx?_eq_some_iff_getElem.mp hf
      have he : es[i]? = some es[i] := Array.getElem?_eq_getElem hlt
      obtain ⟨x, hxi⟩ : ∃ x, xs[i]? = some x := ⟨_, List.getElem?_eq_getElem (by omega)⟩
      obtain ⟨e1, e2, e3⟩ := hx i x _ hxi he
      have hxy := (his _ _ e2).mp h1
      subst hxy
      dsimp only
      rw [he]
      dsimp only
      refine wpAny_bind (wpAny_dictEpoch ho hd (wpAny_bind (eq_mix (x := .text y) hu e2 e3 hk0 (wpAny_bind (wpAny_dictEpoch ho hd ?_)))))
      show wpAny _ _ (if (ep != ep) = true then _ else _) _ E _
      rw [if_neg (by simp)]
      simp only [decide_true, if_true]
      exact wpAny_bind (wpAny_rule (wpAny_pure (hsome i hxi)))
  unfold dictFind
  try with_reducible refine wpAny_holding ?_
  refine wpAny_bind (wpAny_dictEntries ho hd ?_)
  dsimp only
  cases hk with
  | none =>
    dsimp only
    rw [← hpl]
    by_cases hall : ((Value.none :: pl.filterMap (fun i => es[i]?.map (·.key))).all carriedByValue) = true
    · rw [if_pos hall]
      exact plain
    rw [if_neg hall]
    by_cases hone : (pl.filterMap (fun i => es[i]?.map (·.key)) == [Value.none]) = true <;>
    (first | rw [if_pos hone] | rw [if_neg hone]) <;> (first | refine wpAny_bind (wpAny_pure ?_) | refine wpAny_bind (may_tell hk0 dk hst ?_)) <;> (
      rw [if_neg (by simp)]
      refine wpAny_bind (wpAny_forIn_list _ (fun rest r s2 => s2 = s ∧ ∃ hit, r = (none, hit) ∧ rest.Nodup ∧ (∀ i ∈ rest, i < es.size ∧ ((es[i]?.map (·.hash)) == some (NestedKey.none.hash w)) = true) ∧ ((NestedKey.none ∉ xs ∧ hit = none) ∨ ∃ j, xs[j]? = some NestedKey.none ∧ ((hit = none ∧ j ∈ rest) ∨ (hit = some j ∧ j ∉ rest)))) _ ?_ ?_ _ _ ⟨rfl, none, rfl, hpn, hpm, ?_⟩)
      · rintro i rest r s2 ⟨rfl, hit, rfl, hnd, hr, hh⟩
        obtain ⟨x, hxi, e, he, h1, h2, h3, h4, h5⟩ := turn [] i rest hit (hr i (by simp)).1 (hr i (by simp)).2 hnd (fun j hj => hr j (by simp [hj])) hh
        rw [he]
        dsimp only
        rw [if_pos h1]
        refine wpAny_bind (wpAny_dictEpoch ho hd (wpAny_bind (eq_mix (x := x) hu h2 h3 hk0 (wpAny_bind (wpAny_dictEpoch ho hd ?_)))))
        show wpAny _ _ (if (ep != ep) = true then _ else _) _ E _
        rw [if_neg (by simp)]
        by_cases q : x = NestedKey.none
        · obtain ⟨rfl, h6⟩ := h4 q
          rw [decide_eq_true q]
          simp only [Option.isSome_none, Bool.false_eq_true, if_false, if_true]
          refine wpAny_bind (wpAny_rule ?_)
          split
          · exact wpAny_pure (wpAny_pure (hsome i (q ▸ hxi)))
          · exact wpAny_pure ⟨rfl, some i, rfl, (List.nodup_cons.mp hnd).2, fun j hj => hr j (by simp [hj]), h6⟩
        · rw [decide_eq_false q]
          simp only [Bool.false_eq_true, if_false, Bool.false_and]
          refine wpAny_bind (wpAny_rule ?_)
          exact wpAny_pure ⟨rfl, hit, rfl, (List.nodup_cons.mp hnd).2, fun j hj => hr j (by simp [hj]), h5 q⟩
      · rintro r s2 ⟨rfl, hit, rfl, _, _, hh⟩
        exact wpAny_pure (fin hit hh)
      · rcases hpk with h | ⟨j, hj, hm⟩
        · exact .inl ⟨h, rfl⟩
        · exact .inr ⟨j, hj, .inl ⟨rfl, hm⟩⟩)
  | @bool c n hc =>
    dsimp only
    rw [← hpl]
    by_cases hall : (((Value.bool c) :: pl.filterMap (fun i => es[i]?.map (·.key))).all carriedByValue) = true
    · rw [if_pos hall]
      exact plain
    rw [if_neg hall]
    by_cases hone : (pl.filterMap (fun i => es[i]?.map (·.key)) == [(Value.bool c)]) = true <;>
    (first | rw [if_pos hone] | rw [if_neg hone]) <;> (first | refine wpAny_bind (wpAny_pure ?_) | refine wpAny_bind (may_tell hk0 dk hst ?_)) <;> (
      rw [if_neg (by simp)]
      refine wpAny_bind (wpAny_forIn_list _ (fun rest r s2 => s2 = s ∧ ∃ hit, r = (none, hit) ∧ rest.Nodup ∧ (∀ i ∈ rest, i < es.size ∧ ((es[i]?.map (·.hash)) == some ((NestedKey.num n).hash w)) = true) ∧ (((NestedKey.num n) ∉ xs ∧ hit = none) ∨ ∃ j, xs[j]? = some (NestedKey.num n) ∧ ((hit = none ∧ j ∈ rest) ∨ (hit = some j ∧ j ∉ rest)))) _ ?_ ?_ _ _ ⟨rfl, none, rfl, hpn, hpm, ?_⟩)
      · rintro i rest r s2 ⟨rfl, hit, rfl, hnd, hr, hh⟩
        obtain ⟨x, hxi, e, he, h1, h2, h3, h4, h5⟩ := turn [] i rest hit (hr i (by simp)).1 (hr i (by simp)).2 hnd (fun j hj => hr j (by simp [hj])) hh
        rw [he]
        dsimp only
        rw [if_pos h1]
        refine wpAny_bind (wpAny_dictEpoch ho hd (wpAny_bind (eq_mix (x := x) hu h2 h3 hk0 (wpAny_bind (wpAny_dictEpoch ho hd ?_)))))
        show wpAny _ _ (if (ep != ep) = true then _ else _) _ E _
        rw [if_neg (by simp)]
        by_cases q : x = (NestedKey.num n)
        · obtain ⟨rfl, h6⟩ := h4 q
          rw [decide_eq_true q]
          simp only [Option.isSome_none, Bool.false_eq_true, if_false, if_true]
          refine wpAny_bind (wpAny_rule ?_)
          split
          · exact wpAny_pure (wpAny_pure (hsome i (q ▸ hxi)))
          · exact wpAny_pure ⟨rfl, some i, rfl, (List.nodup_cons.mp hnd).2, fun j hj => hr j (by simp [hj]), h6⟩
        · rw [decide_eq_false q]
          simp only [Bool.false_eq_true, if_false, Bool.false_and]
          refine wpAny_bind (wpAny_rule ?_)
          exact wpAny_pure ⟨rfl, hit, rfl, (List.nodup_cons.mp hnd).2, fun j hj => hr j (by simp [hj]), h5 q⟩
      · rintro r s2 ⟨rfl, hit, rfl, _, _, hh⟩
        exact wpAny_pure (fin hit hh)
      · rcases hpk with h | ⟨j, hj, hm⟩
        · exact .inl ⟨h, rfl⟩
        · exact .inr ⟨j, hj, .inl ⟨rfl, hm⟩⟩)
  | int n t =>
    dsimp only
    rw [← hpl]
    by_cases hall : (((Value.int n t) :: pl.filterMap (fun i => es[i]?.map (·.key))).all carriedByValue) = true
    · rw [if_pos hall]
      exact plain
    rw [if_neg hall]
    by_cases hone : (pl.filterMap (fun i => es[i]?.map (·.key)) == [(Value.int n t)]) = true <;>
    (first | rw [if_pos hone] | rw [if_neg hone]) <;> (first | refine wpAny_bind (wpAny_pure ?_) | refine wpAny_bind (may_tell hk0 dk hst ?_)) <;> (
      rw [if_neg (by simp)]
      refine wpAny_bind (wpAny_forIn_list _ (fun rest r s2 => s2 = s ∧ ∃ hit, r = (none, hit) ∧ rest.Nodup ∧ (∀ i ∈ rest, i < es.size ∧ ((es[i]?.map (·.hash)) == some ((NestedKey.num n).hash w)) = true) ∧ (((NestedKey.num n) ∉ xs ∧ hit = none) ∨ ∃ j, xs[j]? = some (NestedKey.num n) ∧ ((hit = none ∧ j ∈ rest) ∨ (hit = some j ∧ j ∉ rest)))) _ ?_ ?_ _ _ ⟨rfl, none, rfl, hpn, hpm, ?_⟩)
      · rintro i rest r s2 ⟨rfl, hit, rfl, hnd, hr, hh⟩
        obtain ⟨x, hxi, e, he, h1, h2, h3, h4, h5⟩ := turn [] i rest hit (hr i (by simp)).1 (hr i (by simp)).2 hnd (fun j hj => hr j (by simp [hj])) hh
        rw [he]
        dsimp only
        rw [if_pos h1]
        refine wpAny_bind (wpAny_dictEpoch ho hd (wpAny_bind (eq_mix (x := x) hu h2 h3 hk0 (wpAny_bind (wpAny_dictEpoch ho hd ?_)))))
        show wpAny _ _ (if (ep != ep) = true then _ else _) _ E _
        rw [if_neg (by simp)]
        by_cases q : x = (NestedKey.num n)
        · obtain ⟨rfl, h6⟩ := h4 q
          rw [decide_eq_true q]
          simp only [Option.isSome_none, Bool.false_eq_true, if_false, if_true]
          refine wpAny_bind (wpAny_rule ?_)
          split
          · exact wpAny_pure (wpAny_pure (hsome i (q ▸ hxi)))
          · exact wpAny_pure ⟨rfl, some i, rfl, (List.nodup_cons.mp hnd).2, fun j hj => hr j (by simp [hj]), h6⟩
        · rw [decide_eq_false q]
          simp only [Bool.false_eq_true, if_false, Bool.false_and]
          refine wpAny_bind (wpAny_rule ?_)
          exact wpAny_pure ⟨rfl, hit, rfl, (List.nodup_cons.mp hnd).2, fun j hj => hr j (by simp [hj]), h5 q⟩
      · rintro r s2 ⟨rfl, hit, rfl, _, _, hh⟩
        exact wpAny_pure (fin hit hh)
      · rcases hpk with h | ⟨j, hj, hm⟩
        · exact .inl ⟨h, rfl⟩
        · exact .inr ⟨j, hj, .inl ⟨rfl, hm⟩⟩)
  | text y t =>
    dsimp only
    rw [← hpl]
    by_cases hstr : (es.all fun e => isExactStrKey e.key) = true
    · rw [if_pos hstr]
      exact byText y t rfl hstr
    rw [if_neg hstr]
    by_cases hall : (((Value.str y t) :: pl.filterMap (fun i => es[i]?.map (·.key))).all carriedByValue) = true
    · rw [if_pos hall]
      exact plain
    rw [if_neg hall]
    by_cases hone : (pl.filterMap (fun i => es[i]?.map (·.key)) == [(Value.str y t)]) = true <;>
    (first | rw [if_pos hone] | rw [if_neg hone]) <;> (first | refine wpAny_bind (wpAny_pure ?_) | refine wpAny_bind (may_tell hk0 dk hst ?_)) <;> (
      rw [if_neg (by simp)]
      refine wpAny_bind (wpAny_forIn_list _ (fun rest r s2 => s2 = s ∧ ∃ hit, r = (none, hit) ∧ rest.Nodup ∧ (∀ i ∈ rest, i < es.size ∧ ((es[i]?.map (·.hash)) == some ((NestedKey.text y).hash w)) = true) ∧ (((NestedKey.text y) ∉ xs ∧ hit = none) ∨ ∃ j, xs[j]? = some (NestedKey.text y) ∧ ((hit = none ∧ j ∈ rest) ∨ (hit = some j ∧ j ∉ rest)))) _ ?_ ?_ _ _ ⟨rfl, none, rfl, hpn, hpm, ?_⟩)
      · rintro i rest r s2 ⟨rfl, hit, rfl, hnd, hr, hh⟩
        obtain ⟨x, hxi, e, he, h1, h2, h3, h4, h5⟩ := turn [] i rest hit (hr i (by simp)).1 (hr i (by simp)).2 hnd (fun j hj => hr j (by simp [hj])) hh
        rw [he]
        dsimp only
        rw [if_pos h1]
        refine wpAny_bind (wpAny_dictEpoch ho hd (wpAny_bind (eq_mix (x := x) hu h2 h3 hk0 (wpAny_bind (wpAny_dictEpoch ho hd ?_)))))
        show wpAny _ _ (if (ep != ep) = true then _ else _) _ E _
        rw [if_neg (by simp)]
        by_cases q : x = (NestedKey.text y)
        · obtain ⟨rfl, h6⟩ := h4 q
          rw [decide_eq_true q]
          simp only [Option.isSome_none, Bool.false_eq_true, if_false, if_true]
          refine wpAny_bind (wpAny_rule ?_)
          split
          · exact wpAny_pure (wpAny_pure (hsome i (q ▸ hxi)))
          · exact wpAny_pure ⟨rfl, some i, rfl, (List.nodup_cons.mp hnd).2, fun j hj => hr j (by simp [hj]), h6⟩
        · rw [decide_eq_false q]
          simp only [Bool.false_eq_true, if_false, Bool.false_and]
          refine wpAny_bind (wpAny_rule ?_)
          exact wpAny_pure ⟨rfl, hit, rfl, (List.nodup_cons.mp hnd).2, fun j hj => hr j (by simp [hj]), h5 q⟩
      · rintro r s2 ⟨rfl, hit, rfl, _, _, hh⟩
        exact wpAny_pure (fin hit hh)
      · rcases hpk with h | ⟨j, hj, hm⟩
        · exact .inl ⟨h, rfl⟩
        · exact .inr ⟨j, hj, .inl ⟨rfl, hm⟩⟩)
  | @tup a o2 vs n ks g1 g2 g3 g4 =>
    dsimp only
    rw [← hpl]
    rw [if_neg (show ¬ ((Value.ref a :: pl.filterMap (fun i => es[i]?.map (·.key))).all carriedByValue) = true by simp [carriedByValue])]
    have hany : ¬ (es.any fun e => e.key == Value.ref a && e.hash != (NestedKey.tup ks).hash w) = true := by
      rw [← Array.any_toList, List.any_eq_true]
      rintro ⟨e, hin, hc⟩
      obtain ⟨i, x, hxi, hei⟩ := entOf e (Array.mem_toList_iff.mp hin)
      obtain ⟨e1, e2, e3⟩ := hx i x e hxi hei
      rw [Bool.and_eq_true, beq_iff_eq, bne_iff_ne] at hc
      rw [hc.1] at e2
      have := NestedIs.inj _ _ _ e2 hk0
      subst this
      exact hc.2 e1
    rw [if_neg hany]
    by_cases hone : (pl.filterMap (fun i => es[i]?.map (·.key)) == [(Value.ref a)]) = true <;>
    (first | rw [if_pos hone] | rw [if_neg hone]) <;> (first | refine wpAny_bind (wpAny_pure ?_) | refine wpAny_bind (may_tell hk0 dk hst ?_)) <;> (
      rw [if_neg (by simp)]
      refine wpAny_bind (wpAny_forIn_list _ (fun rest r s2 => s2 = s ∧ ∃ hit, r = (none, hit) ∧ rest.Nodup ∧ (∀ i ∈ rest, i < es.size ∧ ((es[i]?.map (·.hash)) == some ((NestedKey.tup ks).hash w)) = true) ∧ (((NestedKey.tup ks) ∉ xs ∧ hit = none) ∨ ∃ j, xs[j]? = some (NestedKey.tup ks) ∧ ((hit = none ∧ j ∈ rest) ∨ (hit = some j ∧ j ∉ rest)))) _ ?_ ?_ _ _ ⟨rfl, none, rfl, hpn, hpm, ?_⟩)
      · rintro i rest r s2 ⟨rfl, hit, rfl, hnd, hr, hh⟩
        obtain ⟨x, hxi, e, he, h1, h2, h3, h4, h5⟩ := turn [] i rest hit (hr i (by simp)).1 (hr i (by simp)).2 hnd (fun j hj => hr j (by simp [hj])) hh
        rw [he]
        dsimp only
        rw [if_pos h1]
        refine wpAny_bind (wpAny_dictEpoch ho hd (wpAny_bind (eq_mix (x := x) hu h2 h3 hk0 (wpAny_bind (wpAny_dictEpoch ho hd ?_)))))
        show wpAny _ _ (if (ep != ep) = true then _ else _) _ E _
        rw [if_neg (by simp)]
        by_cases q : x = (NestedKey.tup ks)
        · obtain ⟨rfl, h6⟩ := h4 q
          rw [decide_eq_true q]
          simp only [Option.isSome_none, Bool.false_eq_true, if_false, if_true]
          refine wpAny_bind (wpAny_rule ?_)
          split
          · exact wpAny_pure (wpAny_pure (hsome i (q ▸ hxi)))
          · exact wpAny_pure ⟨rfl, some i, rfl, (List.nodup_cons.mp hnd).2, fun j hj => hr j (by simp [hj]), h6⟩
        · rw [decide_eq_false q]
          simp only [Bool.false_eq_true, if_false, Bool.false_and]
          refine wpAny_bind (wpAny_rule ?_)
          exact wpAny_pure ⟨rfl, hit, rfl, (List.nodup_cons.mp hnd).2, fun j hj => hr j (by simp [hj]), h5 q⟩
      · rintro r s2 ⟨rfl, hit, rfl, _, _, hh⟩
        exact wpAny_pure (fin hit hh)
      · rcases hpk with h | ⟨j, hj, hm⟩
        · exact .inl ⟨h, rfl⟩
        · exact .inr ⟨j, hj, .inl ⟨rfl, hm⟩⟩)
/-- at d stands a dict with the entries es, whose keys are xs -/
def DX (w : World) (h : Heap) (d : Addr) (xs : List NestedKey) (es : Array DictEntry) : Prop :=
  ∃ o ep, h.get? d = some o ∧ o.ExactDict ∧ o.data = .dict es ep ∧ xs.length = es.size ∧ (∀ (i : Nat) (x : NestedKey) (e : DictEntry), xs[i]? = some x → es[i]? = some e → EntK w h x e) ∧ xs.Nodup
variable {d : Addr} {v : Value} {es : Array DictEntry} {xs : List NestedKey} {k : NestedKey}
theorem DX.typeIs (hm : DX w s.heap d xs es) : s.TypeIs (.ref d) "dict" := let ⟨o, _, ho, hc, _⟩ := hm; ⟨o, ho, hc.1⟩
theorem dictGet_mix {Q : Option Value → Shared → Prop} (hu : A.units + 8 < cLine) (hk : NestedIs s.heap k v) (dk : k.depth ≤ 8) (hm : DX w s.heap d xs es)
    (hnone : k ∉ xs → Q none { s with toks := s.toks + k.draws }) (hsome : ∀ (j : Nat) (e : DictEntry), xs[j]? = some k → es[j]? = some e → Q (some e.val) { s with toks := s.toks + k.draws }) :
    wpAny (model prog w) A (dictGet d v) Q E s := by
  obtain ⟨o, ep, ho, _, hd, hl, hx, hn⟩ := hm
  unfold dictGet
  try with_reducible refine wpAny_holding ?_
  refine wpAny_bind (pyHash_key k v A s _ hk (by omega) (wpAny_bind (find_mix (s := { s with toks := s.toks + k.draws }) hu hk dk ho hd hl hx hn (fun h => ?_) fun j hj => ?_)))
  · exact wpAny_pure (hnone h)
  · refine wpAny_bind (wpAny_dictEntries (s := { s with toks := s.toks + k.draws }) ho hd ?_)
    have hlt : j < es.size := by rw [← hl]; exact (List.getElem?_eq_some_iff.mp hj).1
    have he : es[j]? = some es[j] := Array.getElem?_eq_getElem hlt
    rw [he]
    exact wpAny_pure (hsome j _ hj he)
theorem dictSet_mix {u : Value} {Q : Unit → Shared → Prop} (hu : A.units + 8 < cLine) (hk : NestedIs s.heap k v) (dk : k.depth ≤ 8) (hm : DX w s.heap d xs es) (hz : es.size ≤ sizeLine)
    (hnone : k ∉ xs → ∀ h', (∃ o ep, h'.get? d = some o ∧ o.ExactDict ∧ o.data = .dict (es.push ⟨k.hash w, v, u⟩) ep) → Heap.SameBut d s.heap h' → Q () { s with heap := h', toks := s.toks + k.draws })
    (hsome : ∀ j : Nat, xs[j]? = some k → ∀ h', (∃ o ep, h'.get? d = some o ∧ o.ExactDict ∧ o.data = .dict (es.modify j fun e => { e with val := u }) ep) → Heap.SameBut d s.heap h' → Q () { s with heap := h', toks := s.toks + k.draws }) :
    wpAny (model prog w) A (dictSet d v u) Q E s := by
  obtain ⟨o, ep, ho, hc, hd, hl, hx, hn⟩ := hm
  unfold dictSet
  try with_reducible refine wpAny_holding ?_
  refine wpAny_bind (pyHash_key k v A s _ hk (by omega) ?_)
  unfold dictSetHashed
  try with_reducible refine wpAny_holding ?_
  refine wpAny_bind (find_mix (s := { s with toks := s.toks + k.draws }) hu hk dk ho hd hl hx hn (fun h => ?_) fun j hj => ?_)
  · exact wpAny_bind (wpAny_rule (wpAny_updateDictKeys (hz := hz) (s := { s with toks := s.toks + k.draws }) ho hd (hnone h _ ⟨_, ep + 1, Heap.get?_update_self _ ho (Obj.isFreed_of_dict (Obj.data_mapDictKeys hd _)), hc.mapDictKeys _, Obj.data_mapDictKeys hd _⟩ (Heap.SameBut.update ..))))
  · exact wpAny_bind (wpAny_rule (wpAny_bind (wpAny_updateDict (s := { s with toks := s.toks + k.draws }) ho hd (wpAny_point (hsome j hj _ ⟨_, ep, Heap.get?_update_self _ ho (Obj.isFreed_of_dict (Obj.data_mapDict hd _)), hc.mapDict _, Obj.data_mapDict hd _⟩ (Heap.SameBut.update ..))))))
/-- what dict.get tells -/
theorem meets_get1 (hd : (d == sysModules) = false) : MeetsIn prog w (Builtin.«dict.get» ⟨[.ref d, v], []⟩) (fun A R s => A.in1.units + 8 < cLine ∧ ∃ k xs es, NestedIs s.heap k v ∧ k.depth ≤ 8 ∧ DX w s.heap d xs es ∧
      (k ∉ xs → R (.ok (.ret .none)) { s with toks := s.toks + k.draws }) ∧ ∀ (j : Nat) (e : DictEntry), xs[j]? = some k → es[j]? = some e → R (.ok (.ret e.val)) { s with toks := s.toks + k.draws }) :=
  .of_wp fun A R s ⟨hu, k, xs, es, hk, dk, hm, h1, h2⟩ => by
    show wpAny _ _ (dictGet d v >>= _) _ _ s
    refine wpAny_bind (dictGet_mix hu hk dk hm (fun h => ?_) fun j e hj he => ?_)
    · show wpAny _ _ (Builtin.Dict.missed d v >>= _) _ _ _
      exact wpAny_bind (wpAny_missed_other hd (wpAny_pure ⟨.none, rfl, h1 h⟩))
    · exact wpAny_pure ⟨e.val, rfl, h2 j e hj he⟩
theorem meets_get2 {dflt : Value} (hd : (d == sysModules) = false) : MeetsIn prog w (Builtin.«dict.get» ⟨[.ref d, v, dflt], []⟩) (fun A R s => A.in1.units + 8 < cLine ∧ ∃ k xs es, NestedIs s.heap k v ∧ k.depth ≤ 8 ∧ DX w s.heap d xs es ∧
      (k ∉ xs → R (.ok (.ret dflt)) { s with toks := s.toks + k.draws }) ∧ ∀ (j : Nat) (e : DictEntry), xs[j]? = some k → es[j]? = some e → R (.ok (.ret e.val)) { s with toks := s.toks + k.draws }) :=
  .of_wp fun A R s ⟨hu, k, xs, es, hk, dk, hm, h1, h2⟩ => by
    show wpAny _ _ (dictGet d v >>= _) _ _ s
    refine wpAny_bind (dictGet_mix hu hk dk hm (fun h => ?_) fun j e hj he => ?_)
    · show wpAny _ _ (Builtin.Dict.missed d v >>= _) _ _ _
      exact wpAny_bind (wpAny_missed_other hd (wpAny_pure ⟨dflt, rfl, h1 h⟩))
    · exact wpAny_pure ⟨e.val, rfl, h2 j e hj he⟩
theorem in_mix {Q : Value → Shared → Prop} (hu : A.units + 16 < cLine) (hk : NestedIs s.heap k v) (dk : k.depth ≤ 8) (hd : (d == sysModules) = false) (hm : DX w s.heap d xs es)
    (q : Q (.bool (decide (k ∈ xs))) { s with toks := s.toks + k.draws }) : wpAny (model prog w) A (compareOp .In v (.ref d)) Q E s := by
  show wpAny _ _ (contains (.ref d) v >>= fun b => pure (.bool b)) Q E s
  refine wpAny_bind ?_
  unfold contains
  try with_reducible refine wpAny_holding ?_
  refine wpAny_bind (wpAny_specialOf hm.typeIs slot_dict_contains.lookup ?_)
  show wpAny _ _ (if (some (Value.builtin "dict.__contains__") == some Value.none) = true then _ else _) _ E s
  rw [if_neg (by rw [beq_builtin_none]; exact Bool.false_ne_true)]
  refine wpAny_bind (wpAny_callSpecialUnlessNone?_slot (name := Str.ofString "__contains__") hm.typeIs slot_dict_contains (wpAny_call_entry slot_dict_contains hm.typeIs entry_dict_contains ?_ (args_dict_contains _ _)))
  show wpAny _ _ (dictGet d v >>= _) _ _ s
  refine wpAny_bind (dictGet_mix (by simp only [Around.in1_units]; omega) hk dk hm (fun h => ?_) fun j e hj he => ?_)
  · rw [decide_eq_false h] at q
    show wpAny _ _ (Builtin.Dict.pendingKey? d v >>= _) _ _ _
    exact wpAny_bind (wpAny_pendingKey_other hd (wpAny_pure ⟨_, rfl, wpAny_truthy_bool (wpAny_pure q)⟩))
  · rw [decide_eq_true (List.mem_of_getElem? hj)] at q
    show wpAny _ _ (ret (.bool true)) _ _ _
    exact wpAny_pure ⟨_, rfl, wpAny_truthy_bool (wpAny_pure q)⟩
theorem getItem_mix {Q : Value → Shared → Prop} (hu : A.units + 16 < cLine) (hk : NestedIs s.heap k v) (dk : k.depth ≤ 8) (hm : DX w s.heap d xs es) {j : Nat} {e : DictEntry} (hj : xs[j]? = some k) (he : es[j]? = some e)
    (q : Q e.val { s with toks := s.toks + k.draws }) : wpAny (model prog w) A (getItem (.ref d) v) Q E s := by
  unfold getItem
  try with_reducible refine wpAny_holding ?_
  refine wpAny_bind (wpAny_sequenceKey hm.typeIs (by decide) ?_)
  refine wpAny_bind (wpAny_callSpecial?_slot (name := Str.ofString "__getitem__") hm.typeIs slot_dict_getitem (wpAny_call_entry slot_dict_getitem hm.typeIs entry_dict_getitem ?_ (args_dict_getitem _ _)))
  show wpAny _ _ (dictGet d v >>= _) _ _ s
  have hn : xs.Nodup := let ⟨_, _, _, _, _, _, _, hn⟩ := hm; hn
  refine wpAny_bind (dictGet_mix (by simp only [Around.in1_units]; omega) hk dk hm (fun h => absurd (List.mem_of_getElem? hj) h) fun i e2 hi he2 => ?_)
  have := get_unique hn hi hj
  subst this
  rw [he] at he2
  cases he2
  exact wpAny_pure ⟨e.val, rfl, wpAny_pure q⟩
theorem setItem_mix {u : Value} {Q : Unit → Shared → Prop} (hu : A.units + 16 < cLine) (hk : NestedIs s.heap k v) (dk : k.depth ≤ 8) (hm : DX w s.heap d xs es) (hz : es.size ≤ sizeLine)
    (hnone : k ∉ xs → ∀ h', (∃ o ep, h'.get? d = some o ∧ o.ExactDict ∧ o.data = .dict (es.push ⟨k.hash w, v, u⟩) ep) → Heap.SameBut d s.heap h' → Q () { s with heap := h', toks := s.toks + k.draws })
    (hsome : ∀ j : Nat, xs[j]? = some k → ∀ h', (∃ o ep, h'.get? d = some o ∧ o.ExactDict ∧ o.data = .dict (es.modify j fun e => { e with val := u }) ep) → Heap.SameBut d s.heap h' → Q () { s with heap := h', toks := s.toks + k.draws }) :
    wpAny (model prog w) A (setItem (.ref d) v u) Q E s := by
  unfold setItem
  try with_reducible refine wpAny_holding ?_
  refine wpAny_bind (wpAny_sequenceKey hm.typeIs (by decide) ?_)
  refine wpAny_bind (wpAny_callSpecial?_slot (name := Str.ofString "__setitem__") hm.typeIs slot_dict_setitem (wpAny_call_entry slot_dict_setitem hm.typeIs entry_dict_setitem ?_ (args_dict_setitem _ _ _)))
  show wpAny _ _ (Builtin.Dict.notOrdered "__setitem__" ⟨[.ref d, v, u], []⟩ >>= _) _ _ s
  refine wpAny_bind (wpAny_notOrdered_dict hm.typeIs ?_)
  show wpAny _ _ (dictSet d v u >>= _) _ _ s
  exact wpAny_bind (dictSet_mix (by simp only [Around.in1_units]; omega) hk dk hm hz (fun h h' hm' hs => wpAny_pure ⟨.none, rfl, wpAny_pure (hnone h h' hm' hs)⟩) fun j hj h' hm' hs => wpAny_pure ⟨.none, rfl, wpAny_pure (hsome j hj h' hm' hs)⟩)
end
end FL

set_option maxHeartbeats 2000000
/-! FLWD: dicts by values. -/
namespace FL
open PySem L2 Classical
mutual
theorem reads_key {h : Heap} : ∀ (k : NestedKey) (u : Value) (as : List Addr), Reads h u k.data as → NestedIs h k u
  | .none, _, _, r => by simp only [NestedKey.data] at r; cases r; exact .none
  | .num i, _, _, r => by simp only [NestedKey.data] at r; cases r; exact .int _ _
  | .text x, _, _, r => by simp only [NestedKey.data] at r; cases r; exact .text _ _
  | .tup ks, _, _, r => by
    simp only [NestedKey.data] at r
    cases r with
    | tuple h1 h2 h3 h4 => exact .tup h1 h2 h3 (reads_keys ks _ _ h4)
theorem reads_keys {h : Heap} : ∀ (ks : List NestedKey) (us : List Value) (as : List Addr), ReadsAll h us (NestedKey.datas ks) as → NestedAll h ks us
  | [], _, _, r => by simp only [NestedKey.datas] at r; cases r; exact .nil
  | k :: ks, _, _, r => by
    simp only [NestedKey.datas] at r
    cases r with
    | cons a b => exact .cons (reads_key k _ _ a) (reads_keys ks _ _ b)
end
mutual
theorem nk_data : ∀ (x : D) (k : NestedKey), nkD x = some k → toPy x = k.data ∧ (toPy x).plain = true
  | .non, _, e => by simp only [nkD] at e; cases e; exact ⟨rfl, rfl⟩
  | .int i, _, e => by simp only [nkD] at e; cases e; exact ⟨rfl, rfl⟩
  | .str i, _, e => by simp only [nkD] at e; cases e; exact ⟨rfl, rfl⟩
  | .tup xs, _, e => by
    simp only [nkD] at e
    cases h : nkDs xs with
    | none => rw [h] at e; cases e
    | some ks =>
      rw [h] at e
      cases e
      obtain ⟨a, b⟩ := nks_data xs ks h
      exact ⟨by simp only [toPy, NestedKey.data, a], by simp only [toPy, PyData.plain, b]⟩
  | .bl _, _, e => by simp [nkD] at e
  | .fn _, _, e => by simp [nkD] at e
  | .lst _, _, e => by simp [nkD] at e
  | .scr _, _, e => by simp [nkD] at e
  | .dic _ _, _, e => by simp [nkD] at e
  | .ins _ _ _, _, e => by simp [nkD] at e
  | .exc _, _, e => by simp [nkD] at e
theorem nks_data : ∀ (xs : List D) (ks : List NestedKey), nkDs xs = some ks → toPys xs = NestedKey.datas ks ∧ PyData.plainAll (toPys xs) = true
  | [], _, e => by simp only [nkDs] at e; cases e; exact ⟨rfl, rfl⟩
  | x :: xs, _, e => by
    simp only [nkDs] at e
    cases h1 : nkD x with
    | none => rw [h1] at e; cases e
    | some k =>
      cases h2 : nkDs xs with
      | none => rw [h1, h2] at e; cases e
      | some ks =>
        rw [h1, h2] at e
        cases e
        obtain ⟨a, b⟩ := nk_data x k h1
        obtain ⟨c, d⟩ := nks_data xs ks h2
        exact ⟨by simp only [toPys, NestedKey.datas, a, c], by simp only [toPys, PyData.plainAll, b, d, Bool.and_self]⟩
end
mutual
theorem nk_inj : ∀ (x y : D) (k : NestedKey), nkD x = some k → nkD y = some k → x = y
  | .non, y, _, e, f => by simp only [nkD] at e; cases e; cases y <;> simp [nkD] at f <;> first | rfl | (split at f <;> simp at f)
  | .int i, y, _, e, f => by simp only [nkD] at e; cases e; cases y <;> simp [nkD] at f <;> first | (subst f; rfl) | (split at f <;> simp at f)
  | .str i, y, _, e, f => by simp only [nkD] at e; cases e; cases y <;> simp [nkD] at f <;> first | (subst f; rfl) | (split at f <;> simp at f)
  | .tup xs, y, _, e, f => by
    simp only [nkD] at e
    cases h : nkDs xs with
    | none => rw [h] at e; cases e
    | some ks =>
      rw [h] at e
      cases e
      cases y with
      | tup ys =>
        simp only [nkD] at f
        cases h2 : nkDs ys with
        | none => rw [h2] at f; cases f
        | some ks2 =>
          rw [h2] at f
          cases f
          rw [nks_inj xs ys ks h h2]
      | _ => simp [nkD] at f
  | .bl _, _, _, e, _ => by simp [nkD] at e
  | .fn _, _, _, e, _ => by simp [nkD] at e
  | .lst _, _, _, e, _ => by simp [nkD] at e
  | .scr _, _, _, e, _ => by simp [nkD] at e
  | .dic _ _, _, _, e, _ => by simp [nkD] at e
  | .ins _ _ _, _, _, e, _ => by simp [nkD] at e
  | .exc _, _, _, e, _ => by simp [nkD] at e
theorem nks_inj : ∀ (xs ys : List D) (ks : List NestedKey), nkDs xs = some ks → nkDs ys = some ks → xs = ys
  | [], ys, _, e, f => by
    simp only [nkDs] at e; cases e
    cases ys with
    | nil => rfl
    | cons y ys => simp only [nkDs] at f; split at f <;> simp at f
  | x :: xs, ys, _, e, f => by
    simp only [nkDs] at e
    cases h1 : nkD x with
    | none => rw [h1] at e; cases e
    | some k =>
      cases h2 : nkDs xs with
      | none => rw [h1, h2] at e; cases e
      | some ks =>
        rw [h1, h2] at e
        cases e
        cases ys with
        | nil => simp [nkDs] at f
        | cons y ys =>
          simp only [nkDs] at f
          cases h3 : nkD y with
          | none => rw [h3] at f; cases f
          | some k2 =>
            cases h4 : nkDs ys with
            | none => rw [h3, h4] at f; cases f
            | some ks2 =>
              rw [h3, h4] at f
              cases f
              rw [nk_inj x y k h1 h3, nks_inj xs ys ks h2 h4]
end
theorem nkDs_len : ∀ {xs : List D} {ks : List NestedKey}, nkDs xs = some ks → xs.length = ks.length
  | [], _, e => by simp only [nkDs] at e; cases e; rfl
  | x :: xs, _, e => by
    simp only [nkDs] at e
    cases h1 : nkD x with
    | none => rw [h1] at e; cases e
    | some k =>
      cases h2 : nkDs xs with
      | none => rw [h1, h2] at e; cases e
      | some ks => rw [h1, h2] at e; cases e; simp [nkDs_len h2]
theorem nkDs_get : ∀ {xs : List D} {ks : List NestedKey} {i : Nat} {k : NestedKey}, nkDs xs = some ks → ks[i]? = some k → ∃ x, xs[i]? = some x ∧ nkD x = some k
  | [], _, i, k, e, h => by simp only [nkDs] at e; cases e; simp at h
  | x :: xs, _, i, k, e, h => by
    simp only [nkDs] at e
    cases h1 : nkD x with
    | none => rw [h1] at e; cases e
    | some k2 =>
      cases h2 : nkDs xs with
      | none => rw [h1, h2] at e; cases e
      | some ks =>
        rw [h1, h2] at e
        cases e
        cases i with
        | zero => simp at h; subst h; exact ⟨x, rfl, h1⟩
        | succ i => simpa using nkDs_get (i := i) h2 (by simpa using h)
theorem nkDs_app : ∀ {xs : List D} {ks : List NestedKey} {x : D} {k : NestedKey}, nkDs xs = some ks → nkD x = some k → nkDs (xs ++ [x]) = some (ks ++ [k])
  | [], _, x, k, e, h => by simp only [nkDs] at e; cases e; simp [nkDs, h]
  | y :: xs, _, x, k, e, h => by
    simp only [nkDs] at e
    cases h1 : nkD y with
    | none => rw [h1] at e; cases e
    | some k2 =>
      cases h2 : nkDs xs with
      | none => rw [h1, h2] at e; cases e
      | some ks =>
        rw [h1, h2] at e
        cases e
        simp only [List.cons_append, nkDs, h1, nkDs_app h2 h]
theorem KsOk.add {ks : List D} {nk : List NestedKey} {x : D} {k : NestedKey} (h : KsOk ks nk) (hx : nkD x = some k) (dk : k.depth ≤ 8) (hn : k ∉ nk) : KsOk (ks ++ [x]) (nk ++ [k]) := by
  refine ⟨nkDs_app h.eq hx, ?_, fun y hy => ?_⟩
  · rw [List.nodup_append]
    exact ⟨h.nd, by simp, fun a ha b hb => by simp at hb; subst hb; exact fun e => hn (e ▸ ha)⟩
  · rcases List.mem_append.mp hy with q | q
    · exact h.dp y q
    · simp at q; subst q; exact dk
/-! entries -/
theorem EntR.len {w : World} : ∀ {nk : List NestedKey} {kv : List (V × V)} {es : List DictEntry}, EntR w nk kv es → nk.length = kv.length ∧ nk.length = es.length
  | [], [], [], _ => ⟨rfl, rfl⟩
  | k :: nk, p :: kv, e :: es, r => by
    simp only [EntR] at r
    obtain ⟨a, b⟩ := r.2.2.2.len
    simp [← a, ← b]
  | [], _ :: _, _, r => by simp [EntR] at r
  | [], [], _ :: _, r => by simp [EntR] at r
  | _ :: _, [], _, r => by simp [EntR] at r
  | _ :: _, _ :: _, [], r => by simp [EntR] at r
theorem EntR.get {w : World} : ∀ {nk : List NestedKey} {kv : List (V × V)} {es : List DictEntry} {i : Nat} {k : NestedKey}, EntR w nk kv es → nk[i]? = some k → ∃ p e, kv[i]? = some p ∧ es[i]? = some e ∧ e.hash = k.hash w ∧ RelV p.1 e.key ∧ RelV p.2 e.val
  | [], [], [], i, k, _, h => by simp at h
  | k0 :: nk, p :: kv, e :: es, i, k, r, h => by
    simp only [EntR] at r
    cases i with
    | zero => simp at h; subst h; exact ⟨p, e, rfl, rfl, r.1, r.2.1, r.2.2.1⟩
    | succ i => simpa using EntR.get (i := i) r.2.2.2 (by simpa using h)
  | [], _ :: _, _, _, _, r, _ => by simp [EntR] at r
  | [], [], _ :: _, _, _, r, _ => by simp [EntR] at r
  | _ :: _, [], _, _, _, r, _ => by simp [EntR] at r
  | _ :: _, _ :: _, [], _, _, r, _ => by simp [EntR] at r
theorem EntR.add {w : World} {k0 : NestedKey} {p0 : V × V} {e0 : DictEntry} (h1 : e0.hash = k0.hash w) (h2 : RelV p0.1 e0.key) (h3 : RelV p0.2 e0.val) : ∀ {nk : List NestedKey} {kv : List (V × V)} {es : List DictEntry}, EntR w nk kv es → EntR w (nk ++ [k0]) (kv ++ [p0]) (es ++ [e0])
  | [], [], [], _ => ⟨h1, h2, h3, trivial⟩
  | k :: nk, p :: kv, e :: es, r => by
    simp only [EntR] at r
    exact ⟨r.1, r.2.1, r.2.2.1, r.2.2.2.add h1 h2 h3⟩
  | [], _ :: _, _, r => by simp [EntR] at r
  | [], [], _ :: _, r => by simp [EntR] at r
  | _ :: _, [], _, r => by simp [EntR] at r
  | _ :: _, _ :: _, [], r => by simp [EntR] at r
theorem EntR.put {w : World} {y : V} {u : Value} (hr : RelV y u) : ∀ {nk : List NestedKey} {kv : List (V × V)} {es : List DictEntry} (j : Nat), EntR w nk kv es → EntR w nk (kv.modify j fun p => (p.1, y)) (es.modify j fun e => { e with val := u })
  | [], [], [], j, _ => by simp [EntR]
  | k :: nk, p :: kv, e :: es, 0, r => by
    simp only [EntR] at r
    exact ⟨r.1, r.2.1, hr, r.2.2.2⟩
  | k :: nk, p :: kv, e :: es, j + 1, r => by
    simp only [EntR] at r
    exact ⟨r.1, r.2.1, r.2.2.1, r.2.2.2.put hr j⟩
  | [], _ :: _, _, _, r => by simp [EntR] at r
  | [], [], _ :: _, _, r => by simp [EntR] at r
  | _ :: _, [], _, _, r => by simp [EntR] at r
  | _ :: _, _ :: _, [], _, r => by simp [EntR] at r
/-- at a stands a dict whose keys are data -/
structure DcV (K : PySem.W.Frag) (w : World) (H : Hp) (a : Addr) (nk : List NestedKey) (kv : List (V × V)) : Prop where
  at_ : H a = some (DO w a nk kv)
  key : ∀ (i : Nat) (k : NestedKey) (p : V × V), nk[i]? = some k → kv[i]? = some p → Dp K H p.1 k.data
  nd : nk.Nodup
  dp : ∀ k ∈ nk, k.depth ≤ 8
section
variable {X : Cx} {pins : List (Addr × Obj)} {σ : L2.St} {H : Hp} {s : Shared} {a : Addr} {nk : List NestedKey} {kv : List (V × V)}
theorem key_is (I : L2.Inv X pins σ H s) {y : V} {u : Value} {k : NestedKey} (h : Dp X.K H y k.data) (r : RelV y u) : NestedIs s.heap k u :=
  let ⟨_, q⟩ := Dp.reads I _ _ _ h r; reads_key k u _ q
theorem DcV.dx (I : L2.Inv X pins σ H s) (h : DcV X.K X.w H a nk kv) : (a == sysModules) = false ∧ kv.length ≤ sizeLine ∧ ∃ es, DX X.w s.heap a nk es ∧ EntR X.w nk kv es.toList := by
  obtain ⟨⟨lo, hz, o, es, ep, ho, hx, hd, er⟩, _, _⟩ := (show ObjOk X.prog X.w H s.heap a (DO X.w a nk kv) from I.hok a _ h.at_)
  refine ⟨lo, hz, es, ⟨o, ep, ho, hx, hd, by rw [er.len.2, Array.length_toList], fun i k e hk he => ?_, h.nd⟩, er⟩
  obtain ⟨p, e2, h1, h2, h3, h4, h5⟩ := er.get hk
  rw [Array.getElem?_toList, he] at h2
  cases h2
  exact ⟨h3, key_is I (h.key i k p hk h1) h4, h.dp k (List.mem_of_getElem? hk)⟩
theorem DcV.put (I : L2.Inv X pins σ H s) (h : DcV X.K X.w H a nk kv) {h' : Heap} {nk' : List NestedKey} {kv' : List (V × V)} {es' : Array DictEntry} {t' : Nat} (ho : ∃ o ep, h'.get? a = some o ∧ o.ExactDict ∧ o.data = .dict es' ep) (hs : Heap.SameBut a s.heap h') (er : EntR X.w nk' kv' es'.toList) (hz : kv'.length ≤ sizeLine) :
    L2.Inv X pins σ (upd H a (DO X.w a nk' kv')) { s with heap := h', toks := t' } := by
  obtain ⟨lo, _, _⟩ := h.dx I
  obtain ⟨o, ep, h1, h2, h3⟩ := ho
  refine I.write (x := a) (e := a) (by rw [h.at_]; trivial) (.inl rfl) (fun b u hb q => (hs.2 b hb).trans q) ⟨o, h1⟩ ?_
  refine ⟨⟨lo, hz, o, es', ep, h1, h2, h3, er⟩, ⟨o, h1⟩, fun g1 g2 ⟨c1, c2, o1, e1, p1, c3, c4, c5, c6⟩ k => ⟨c1, c2, o1, e1, p1, k _ c3, c4, c5, c6⟩⟩
end
/-! ### the operations by values -/
def rDGet2 (K : PySem.W.Frag) (w : World) : V → List V → Hp → VK → Prop := fun x vs H Q => ∃ a nk kv y z k, x = .ref a ∧ vs = [y, z] ∧ DcV K w H a nk kv ∧ Dp K H y k.data ∧ k.depth ≤ 8 ∧ (k ∉ nk → Q z H) ∧ ∀ (j : Nat) (p : V × V), nk[j]? = some k → kv[j]? = some p → Q p.2 H
def rDGet1 (K : PySem.W.Frag) (w : World) : V → List V → Hp → VK → Prop := fun x vs H Q => ∃ a nk kv y k, x = .ref a ∧ vs = [y] ∧ DcV K w H a nk kv ∧ Dp K H y k.data ∧ k.depth ≤ 8 ∧ (k ∉ nk → Q .non H) ∧ ∀ (j : Nat) (p : V × V), nk[j]? = some k → kv[j]? = some p → Q p.2 H
def rDIx (K : PySem.W.Frag) (w : World) : R2 := fun x y H Q => ∃ (a : Addr) (nk : List NestedKey) (kv : List (V × V)) (k : NestedKey) (j : Nat) (p : V × V), x = .ref a ∧ DcV K w H a nk kv ∧ Dp K H y k.data ∧ k.depth ≤ 8 ∧ nk[j]? = some k ∧ kv[j]? = some p ∧ Q p.2 H
def rDIn (K : PySem.W.Frag) (w : World) : R2 := fun y x H Q => ∃ a nk kv k, x = .ref a ∧ DcV K w H a nk kv ∧ Dp K H y k.data ∧ k.depth ≤ 8 ∧ Q (.bl (decide (k ∈ nk))) H
def rDSet (K : PySem.W.Frag) (w : World) : TSet := fun o y v H Q => ∃ a nk kv k, o = .ref a ∧ DcV K w H a nk kv ∧ Dp K H y k.data ∧ k.depth ≤ 8 ∧ kv.length < sizeLine ∧
  (k ∉ nk → Q (upd H a (DO w a (nk ++ [k]) (kv ++ [(y, v)])))) ∧ ∀ j : Nat, nk[j]? = some k → Q (upd H a (DO w a nk (kv.modify j fun p => (p.1, v))))
def rDList (K : PySem.W.Frag) (w : World) : List V → Hp → VK → Prop := fun xs H Q => ∃ a nk kv, xs = [.ref a] ∧ DcV K w H a nk kv ∧ ∀ q, H q = none → Q (.ref q) (upd H q (.lst (kv.map fun p => p.1)))
section
variable {X : Cx}
theorem mt_dget2 (hu : X.A.units + 64 < cLine) : MtR X "dict.get" (rDGet2 X.K X.w) := by
  intro pins s σ H x xs v us Q I rx rs h
  obtain ⟨a, nk, kv, y, z, k, rfl, rfl, hd, hy, dk, q1, q2⟩ := h
  obtain rfl : v = Value.ref a := rx
  obtain ⟨u1, u2, rfl, r1, r2⟩ := vals2 rs
  obtain ⟨lo, hz, es, dx, er⟩ := hd.dx I
  refine call_meetsIn F.slot_dict_get dx.typeIs F.entry_dict_get (F.args_dict_get_3 _ _ _) (meets_get2 lo) ⟨by simp only [Around.in1_units]; omega, k, nk, es, key_is I hy r1, dk, dx, fun hn => ⟨z, H, I.tok _, r2, q1 hn⟩, fun j e hj he => ?_⟩
  obtain ⟨p, e2, h1, h2, h3, h4, h5⟩ := er.get hj
  rw [Array.getElem?_toList, he] at h2
  cases h2
  exact ⟨p.2, H, I.tok _, h5, q2 j p hj h1⟩
theorem mt_dget1 (hu : X.A.units + 64 < cLine) : MtR X "dict.get" (rDGet1 X.K X.w) := by
  intro pins s σ H x xs v us Q I rx rs h
  obtain ⟨a, nk, kv, y, k, rfl, rfl, hd, hy, dk, q1, q2⟩ := h
  obtain rfl : v = Value.ref a := rx
  obtain ⟨u1, rfl, r1⟩ := vals1 rs
  obtain ⟨lo, hz, es, dx, er⟩ := hd.dx I
  refine call_meetsIn F.slot_dict_get dx.typeIs F.entry_dict_get (F.args_dict_get_2 _ _) (meets_get1 lo) ⟨by simp only [Around.in1_units]; omega, k, nk, es, key_is I hy r1, dk, dx, fun hn => ⟨.non, H, I.tok _, rfl, q1 hn⟩, fun j e hj he => ?_⟩
  obtain ⟨p, e2, h1, h2, h3, h4, h5⟩ := er.get hj
  rw [Array.getElem?_toList, he] at h2
  cases h2
  exact ⟨p.2, H, I.tok _, h5, q2 j p hj h1⟩
theorem ix_dict (hu : X.A.units + 64 < cLine) : IxR X (rDIx X.K X.w) := by
  intro value slice pins s σ H x y v u Q I rx ry h hs
  obtain ⟨a, nk, kv, k, j, p, rfl, hd, hy, dk, hj, hp, q⟩ := h
  obtain rfl : v = Value.ref a := rx
  obtain ⟨lo, hz, es, dx, er⟩ := hd.dx I
  obtain ⟨p2, e2, h1, h2, h3, h4, h5⟩ := er.get hj
  rw [hp] at h1
  cases h1
  rw [Array.getElem?_toList] at h2
  exact PyProof.Rows.tail_any dx.typeIs slot_dict_getitem.lookup (getItem_mix (by omega) (key_is I hy ry) dk dx hj h2 ⟨p.2, H, I.tok _, h5, q⟩) hs
theorem op_inD (hu : X.A.units + 64 < cLine) : OpR X (compareOp .In) (rDIn X.K X.w) := by
  intro pins s σ H y x u v Q I ry rx h
  obtain ⟨a, nk, kv, k, rfl, hd, hy, dk, q⟩ := h
  obtain rfl : v = Value.ref a := rx
  obtain ⟨lo, hz, es, dx, er⟩ := hd.dx I
  exact in_mix (by omega) (key_is I hy ry) dk lo dx ⟨.bl _, H, I.tok _, rfl, q⟩
theorem set_dct (hu : X.A.units + 64 < cLine) : PSet X (rDSet X.K X.w) := by
  intro pins s σ H o y v ov iv u Q I ro ri rv h
  obtain ⟨a, nk, kv, k, rfl, hd, hy, dk, hz, q1, q2⟩ := h
  obtain rfl : ov = Value.ref a := ro
  obtain ⟨lo, _, es, dx, er⟩ := hd.dx I
  have hl := er.len
  refine setItem_mix (by omega) (key_is I hy ri) dk dx (by rw [← Array.length_toList]; omega) (fun hn h' ho hs => ?_) fun j hj h' ho hs => ?_
  · exact ⟨_, hd.put I (nk' := nk ++ [k]) (kv' := kv ++ [(y, v)]) ho hs (by rw [Array.toList_push]; exact er.add rfl ri rv) (by simp; omega), q1 hn⟩
  · refine ⟨_, hd.put I (nk' := nk) (kv' := kv.modify j fun p => (p.1, v)) ho hs ?_ (by rw [List.length_modify]; omega), q2 j hj⟩
    have := er.put rv j
    rw [Array.toList_modify]
    exact this
theorem call_dlist (hc : X.calm = true) : CallR X (.type "list") (rDList X.K X.w) := by
  intro pins s σ H xs us Q I r h
  obtain ⟨a, nk, kv, rfl, hd, q⟩ := h
  rw [Vals.ref1 r]
  obtain ⟨lo, hz, es, ⟨o, ep, ho, hx, hdd, hl, _, _⟩, er⟩ := hd.dx I
  have hlen := er.len
  have hes : es.size = kv.length := by rw [← hl, hlen.1]
  refine PySem.W.kdl_call (kdl_raw lo hx hdd) (I.ok.hd hc) ho (by rw [hes]; exact hz) fun h' tk acc' c' hkeep hS hacc => ?_
  refine ⟨.ref s.heap.objs.size, upd H s.heap.objs.size (.lst (kv.map fun p => p.1)), I.laid hkeep (Nat.le_refl _) (show ObjOk X.prog X.w _ _ _ (.lst (kv.map fun p => p.1)) from ⟨by rw [List.length_map]; exact hz, acc'.toList, c', ?_, by rw [Array.toArray_toList]; exact hS⟩), rfl, q _ (I.hok.fresh (Nat.le_refl _))⟩
  refine vals_of_at (by rw [List.length_map]; have := hacc.1; simp only [Array.length_toList]; omega) fun j x w h1 h2 => ?_
  obtain ⟨en, he, rfl⟩ := hacc.2 j w (by rw [← Array.getElem?_toList]; exact h2)
  have hj : j < kv.length := by rw [List.getElem?_map] at h1; cases hq : kv[j]? with
    | none => rw [hq] at h1; cases h1
    | some p => exact (List.getElem?_eq_some_iff.mp hq).1
  obtain ⟨p, e2, g1, g2, g3, g4, g5⟩ := er.get (i := j) (List.getElem?_eq_getElem (show j < nk.length by omega))
  rw [Array.getElem?_toList, he] at g2
  cases g2
  rw [List.getElem?_map, g1] at h1
  cases h1
  exact g4
def tDNew (w : World) : TE := fun _ H Q => ∀ p, H p = none → Q (.ref p) (upd H p (DO w p [] []))
theorem pe_dnew {pos : Pos} : PE X (.Dict [] [] pos) (tDNew X.w) := ⟨fun pins s σ H Q I h =>
  wpAny_Dict_empty ⟨.ref s.heap.objs.size, _, I.laid (a := s.heap.objs.size) (o := DO X.w s.heap.objs.size [] []) (t' := s.toks) (fun _ _ q => Heap.get?_push_of_some _ q) (Nat.le_refl _)
    ⟨⟨beq_eq_false_iff_ne.mpr (Ne.symm (Nat.ne_of_lt I.big)), Nat.zero_le _, _, #[], 0, Heap.get?_push_size _ rfl, ⟨rfl, rfl, rfl⟩, rfl, trivial⟩, ⟨_, Heap.get?_push_size _ rfl⟩, fun g1 g2 ⟨c1, c2, o1, e1, p1, c3, c4, c5, c6⟩ k => ⟨c1, c2, o1, e1, p1, k _ c3, c4, c5, c6⟩⟩, rfl, h _ (I.hok.fresh (Nat.le_refl _))⟩⟩
/-- a dict's method with arguments -/
def tBMD (K : PySem.W.Frag) (w : World) (r : V → List V → Hp → VK → Prop) (to : TE) (t : TA) : TE := fun σ H Q => to σ H fun x H1 => (∃ a nk kv, x = .ref a ∧ DcV K w H1 a nk kv) ∧ t σ H1 fun xs H2 => r x xs H2 Q
theorem pe_bmD {id : String} {name : Str} {r : V → List V → Hp → VK → Prop} {o e : Expr} {es : List Expr} {to : TE} {t : TA} {apos cpos : Pos} (slot : Slot "dict" name id) (hty : typeOf (.builtin id) = pure (.type "method_descriptor")) (hm : MtR X id r) (ho : PE X o to) (ha : PA X (e :: es) t)
    (hbase : attributeBase o name X.env (eval o X.env) = eval o X.env)
    (hfew : ((backTo cpos (starEach (e :: es) X.env)).all (fun x => !x.1) && (backToKw cpos (keywordEach [] X.env)).all (fun x => x.1.isSome) && decide ((e :: es).length + ([] : List Keyword).length + (if ([] : List Keyword).isEmpty then 0 else 1) < 30)) = true)
    (hline : (apos.endLine == cpos.line) = true) (hs : starEach (e :: es) X.env = (false, eval e X.env) :: starEach es X.env) (hplain : (backTo cpos (starEach es X.env)).any (·.1) = false) :
    PE X (.Call (.Attribute o name apos) (e :: es) [] cpos) (tBMD X.K X.w r to t) := by
  refine ⟨fun pins s σ H Q I h => ?_⟩
  refine wpAny_Call_method_late hbase hfew hline rfl (thn (ho.run pins s σ H _ I h) fun v s1 ⟨x, H1, I1, r1, ⟨a, nk, kv, ex, hd⟩, q1⟩ => ?_)
  subst ex
  obtain rfl : v = Value.ref a := r1
  obtain ⟨lo, hz, es', dx, er⟩ := hd.dx I1
  have dx2 := dx
  obtain ⟨ob, ep, hob, hx, _⟩ := dx2
  refine ⟨"dict", id, F.plainAttrs_dict, slot, hty, dx.typeIs, fun b e => by cases e; exact ⟨ob, hob, hx.2.1⟩, ?_⟩
  have hA := ha.run cpos pins s1 σ H1 _ I1 q1
  rw [hs] at hA ⊢
  refine Calls.callWith_builtin (by show (false || (backTo cpos (starEach es X.env)).any (·.1)) = false; rw [hplain] <;> rfl) (Calls.evalArgs_plain ?_)
  exact thn hA fun us s2 ⟨vs, H2, I2, r2, q2⟩ => hm pins s2 σ H2 (.ref a) vs (.ref a) us Q I2 rfl r2 q2
end
end FL

set_option maxHeartbeats 2000000
/-! FLWE: dicts over data. -/
namespace FL
open PySem L2 Classical
/-- a dict's keys and values -/
def dicM : M → Option (List D × List M)
  | .d (.dic ks xs) => some (ks, xs.map .d)
  | .dic ks ms => some (ks, ms)
  | _ => none
def keyOk (x : D) : Prop := ∃ k, nkD x = some k ∧ k.depth ≤ 8
noncomputable def dFind (ks : List D) (x : D) : Option Nat := ks.findIdx? fun y => decide (y = x)
theorem dFind_some {ks : List D} {nk : List NestedKey} {x : D} {k : NestedKey} {j : Nat} (h : KsOk ks nk) (hx : nkD x = some k) (e : dFind ks x = some j) : nk[j]? = some k ∧ ks[j]? = some x := by
  unfold dFind at e
  obtain ⟨hlt, h1, _⟩ := List.findIdx?_eq_some_iff_getElem.mp e
  have e1 : ks[j] = x := of_decide_eq_true h1
  have hl := nkDs_len h.eq
  obtain ⟨y, hy, hyk⟩ := nkDs_get h.eq (i := j) (List.getElem?_eq_getElem (show j < nk.length by omega))
  rw [List.getElem?_eq_getElem hlt, e1] at hy
  cases hy
  rw [hx] at hyk
  cases hyk
  exact ⟨List.getElem?_eq_getElem (by omega), by rw [List.getElem?_eq_getElem hlt, e1]⟩
theorem dFind_none {ks : List D} {nk : List NestedKey} {x : D} {k : NestedKey} (h : KsOk ks nk) (hx : nkD x = some k) (e : dFind ks x = none) : k ∉ nk := by
  unfold dFind at e
  intro hm
  obtain ⟨j, hj⟩ := List.mem_iff_getElem?.mp hm
  obtain ⟨y, hy, hyk⟩ := nkDs_get h.eq hj
  have := nk_inj x y k hx hyk
  subst this
  have := List.findIdx?_eq_none_iff.mp e x (List.mem_of_getElem? hy)
  simp at this
theorem key_mem {ks : List D} {nk : List NestedKey} {x : D} {k : NestedKey} (h : KsOk ks nk) (hx : nkD x = some k) : x ∈ ks ↔ k ∈ nk := by
  constructor
  · intro hm
    cases e : dFind ks x with
    | some j => exact List.mem_of_getElem? (dFind_some h hx e).1
    | none =>
      have := List.findIdx?_eq_none_iff.mp e x hm
      simp at this
  · intro hm
    obtain ⟨j, hj⟩ := List.mem_iff_getElem?.mp hm
    obtain ⟨y, hy, hyk⟩ := nkDs_get h.eq hj
    have := nk_inj x y k hx hyk
    subst this
    exact List.mem_of_getElem? hy
theorem getD_some {G : Gx} {Z : Hp} {xs : List D} {vs : List V} {i : Nat} {v : V} (r : RepDs G Z xs vs) (h : vs[i]? = some v) : ∃ x, xs[i]? = some x ∧ RepD G Z x v := by
  have hl := r.len
  have hi := (List.getElem?_eq_some_iff.mp h).1
  obtain ⟨v2, h1, h2⟩ := r.get (i := i) (List.getElem?_eq_getElem (show i < xs.length by omega))
  rw [h] at h1
  cases h1
  exact ⟨_, List.getElem?_eq_getElem (by omega), h2⟩
section
variable {G : Gx} {Z H : Hp}
theorem nk_dp (zh : Same Z H) {x : D} {v : V} {k : NestedKey} (r : RepD G Z x v) (h : nkD x = some k) : Dp G.K H v k.data := by
  obtain ⟨a, b⟩ := nk_data x k h
  rw [← a]
  exact RepD.dp zh x v b r
theorem dic_rep (zh : Same Z H) {m : M} {T : Rg} {v : V} {ks : List D} {ms : List M} (r : RepM G Z H m T v) (e : dicM m = some (ks, ms)) :
    ∃ a nk kv, v = .ref a ∧ DcV G.K G.w H a nk kv ∧ KsOk ks nk ∧ RepDs G Z ks (kv.map fun p => p.1) ∧ ∃ T0, (∀ b, T0 b → T b) ∧ RepMs G Z H ms T0 (kv.map fun p => p.2) := by
  have mk : ∀ {a nk kv}, H a = some (DO G.w a nk kv) → KsOk ks nk → RepDs G Z ks (kv.map fun p => p.1) → DcV G.K G.w H a nk kv := fun {a nk kv} h1 h2 h3 => by
    refine ⟨h1, fun i k p hk hp => ?_, h2.nd, h2.dp⟩
    obtain ⟨x, hx, rx⟩ := getD_some h3 (i := i) (v := p.1) (by rw [List.getElem?_map, hp]; rfl)
    obtain ⟨y, hy, hyk⟩ := nkDs_get h2.eq hk
    rw [hx] at hy
    cases hy
    exact nk_dp zh rx hyk
  cases m with
  | d x =>
    cases x with
    | dic ks0 xs =>
      simp only [dicM, Option.some.injEq, Prod.mk.injEq] at e
      obtain ⟨rfl, rfl⟩ := e
      simp only [RepM, RepD] at r
      obtain ⟨a, nk, kv, rfl, hz, hk, r1, r2⟩ := r
      exact ⟨a, nk, kv, rfl, mk (zh _ _ hz) hk r1, hk, r1, fun _ => False, fun _ z => z.elim, r2.toM⟩
    | _ => simp [dicM] at e
  | dic ks0 ms0 =>
    simp only [dicM, Option.some.injEq, Prod.mk.injEq] at e
    obtain ⟨rfl, rfl⟩ := e
    simp only [RepM] at r
    obtain ⟨a, nk, kv, T0, rfl, sa, nt, ts, ho, hk, r1, r2⟩ := r
    exact ⟨a, nk, kv, rfl, mk ho hk r1, hk, r1, T0, ts, r2⟩
  | _ => simp [dicM] at e
end
/-! ### d.get(k, x), d[k], k in d -/
noncomputable def mGet (m : M) (x : D) (dm : M) : Res M := match dicM m with
  | some (ks, ms) => if keyOk x then (match dFind ks x with
    | some j => match ms[j]? with
      | some y => .ok y
      | none => .bad
    | none => .ok dm) else .bad
  | none => .bad
noncomputable def vGet2 (g gk gd : VE) : VE := fun env => match g env, gk env, gd env with
  | .ok m, .ok (.d x), .ok dm => mGet m x dm
  | _, _, _ => .bad
noncomputable def vGet1 (g gk : VE) : VE := fun env => match g env, gk env with
  | .ok m, .ok (.d x) => mGet m x (.d .non)
  | _, _ => .bad
noncomputable def mDx (m : M) (x : D) : Res M := match dicM m with
  | some (ks, ms) => if keyOk x then (match dFind ks x with
    | some j => match ms[j]? with
      | some y => .ok y
      | none => .bad
    | none => .bad) else .bad
  | none => .bad
noncomputable def vDx (g gk : VE) : VE := fun env => match g env, gk env with
  | .ok m, .ok (.d x) => mDx m x
  | _, _ => .bad
noncomputable def oInD : DOp := fun m1 m2 => match m1, dicM m2 with
  | .d x, some (ks, _) => if keyOk x then .ok (.bl (decide (x ∈ ks))) else .bad
  | _, _ => .bad
section
variable {G : Gx} {X : Cx} {o e e1 e2 : Expr} {g gk gd : VE} {apos cpos pos : Pos}
theorem mGet_run {Z H : Hp} {m dm y : M} {x : D} {T T1 T2 : Rg} {v vk vd : V} {Q : VK} {R : Rg} (zh : Same Z H) (rm : RepM G Z H m T v) (rk : RepM G Z H (.d x) T1 vk) (rd : RepM G Z H dm T2 vd) (hT : ∀ a, T a → R a) (hT2 : ∀ a, T2 a → R a) (e : mGet m x dm = .ok y)
    (q : ∀ u T, (∀ a, T a → R a) → RepM G Z H y T u → Q u H) : rDGet2 G.K G.w v [vk, vd] H Q := by
  unfold mGet at e
  cases hd : dicM m with
  | none => rw [hd] at e; cases e
  | some p =>
    obtain ⟨ks, ms⟩ := p
    rw [hd] at e
    simp only at e
    by_cases ok : keyOk x
    case neg => rw [if_neg ok] at e; cases e
    rw [if_pos ok] at e
    obtain ⟨k, hk, dk⟩ := ok
    obtain ⟨a, nk, kv, rfl, dv, hks, r1, T0, ts, r2⟩ := dic_rep zh rm hd
    simp only [RepM] at rk
    refine ⟨a, nk, kv, vk, vd, k, rfl, rfl, dv, nk_dp zh rk hk, dk, fun hn => ?_, fun j p hj hp => ?_⟩
    · cases hf : dFind ks x with
      | some j => exact absurd (List.mem_of_getElem? (dFind_some hks hk hf).1) hn
      | none =>
        rw [hf] at e
        cases e
        exact q vd T2 hT2 rd
    · cases hf : dFind ks x with
      | none => exact absurd (List.mem_of_getElem? hj) (dFind_none hks hk hf)
      | some j2 =>
        rw [hf] at e
        simp only at e
        have := get_unique hks.nd (dFind_some hks hk hf).1 hj
        subst this
        cases hm : ms[j2]? with
        | none => rw [hm] at e; cases e
        | some y2 =>
          rw [hm] at e
          cases e
          obtain ⟨u, hu, ru⟩ := r2.get hm
          rw [List.getElem?_map, hp] at hu
          cases hu
          exact q _ T0 (fun b z => hT b (ts b z)) ru
theorem xv_get2 (hu : X.A.units + 64 < cLine) (hK : G.K = X.K) (hw : G.w = X.w) (ho : PVs G X o g) (hk : PVs G X e1 gk) (hd : PVs G X e2 gd)
    (hbase : attributeBase o "get" X.env (eval o X.env) = eval o X.env := by rfl)
    (hfew : ((backTo cpos (starEach (e1 :: [e2]) X.env)).all (fun x => !x.1) && (backToKw cpos (keywordEach [] X.env)).all (fun x => x.1.isSome) && decide ((e1 :: [e2]).length + ([] : List Keyword).length + (if ([] : List Keyword).isEmpty then 0 else 1) < 30)) = true := by rfl)
    (hline : (apos.endLine == cpos.line) = true := by rfl) (hs : starEach (e1 :: [e2]) X.env = (false, eval e1 X.env) :: starEach [e2] X.env := by rfl) (hs2 : starEach (e2 :: []) X.env = (false, eval e2 X.env) :: starEach [] X.env := by rfl) (hplain : (backTo cpos (starEach [e2] X.env)).any (·.1) = false := by rfl) :
    PVs G X (.Call (.Attribute o "get" apos) [e1, e2] [] cpos) (vGet2 g gk gd) := by
  obtain ⟨to, po, vo⟩ := ho.ex
  obtain ⟨t1, p1, v1⟩ := hk.ex
  obtain ⟨t2, p2, v2⟩ := hd.ex
  refine ⟨_, pe_bmD F.slot_dict_get F.type_dict_get (mt_dget2 hu) po (pa_cons p1 (pa_cons p2 pa_nil hs2) hs) hbase hfew hline hs hplain, fun Z H σ env S Q gd' => ?_⟩
  unfold vGet2
  cases q0 : g env with
  | bad => trivial
  | exc _ _ => trivial
  | ok m =>
  cases q1 : gk env with
  | bad => trivial
  | exc _ _ => trivial
  | ok mk =>
  cases mk with
  | d x =>
    cases q2 : gd env with
    | bad => trivial
    | exc _ _ => trivial
    | ok dm =>
      simp only
      cases q3 : mGet m x dm with
      | bad => trivial
      | exc _ _ => trivial
      | ok y =>
        simp only
        intro q
        have h0 := vo Z H σ env S (fun x H1 => (∃ a nk kv, x = .ref a ∧ DcV X.K X.w H1 a nk kv) ∧ tCons t1 (tCons t2 tNil) σ H1 fun xs H2 => rDGet2 X.K X.w x xs H2 Q) gd'
        rw [q0] at h0
        refine h0 fun v T hT r => ⟨?_, ?_⟩
        · have hd : ∃ p, dicM m = some p := by
            unfold mGet at q3
            cases hd : dicM m with
            | none => rw [hd] at q3; cases q3
            | some p => exact ⟨p, rfl⟩
          obtain ⟨⟨ks, ms⟩, hd⟩ := hd
          obtain ⟨a, nk, kv, e, dv, _⟩ := dic_rep gd'.zh r hd
          rw [← hK, ← hw]
          exact ⟨a, nk, kv, e, dv⟩
        · have h1 := v1 Z H σ env S (fun y H1 => t2 σ H1 fun z H2 => rDGet2 X.K X.w v [y, z] H2 Q) gd'
          rw [q1] at h1
          refine h1 fun vk T1 hT1 r1 => ?_
          have h2 := v2 Z H σ env S (fun z H2 => rDGet2 X.K X.w v [vk, z] H2 Q) gd'
          rw [q2] at h2
          refine h2 fun vd T2 hT2 r2 => ?_
          rw [← hK, ← hw]
          exact mGet_run gd'.zh r r1 r2 hT hT2 q3 q
  | _ => trivial
theorem mDx_run {Z H : Hp} {m y : M} {x : D} {T T1 : Rg} {v vk : V} {Q : VK} {R : Rg} (zh : Same Z H) (rm : RepM G Z H m T v) (rk : RepM G Z H (.d x) T1 vk) (hT : ∀ a, T a → R a) (e : mDx m x = .ok y)
    (q : ∀ u T, (∀ a, T a → R a) → RepM G Z H y T u → Q u H) : rDIx G.K G.w v vk H Q := by
  unfold mDx at e
  cases hd : dicM m with
  | none => rw [hd] at e; cases e
  | some p =>
    obtain ⟨ks, ms⟩ := p
    rw [hd] at e
    simp only at e
    by_cases ok : keyOk x
    case neg => rw [if_neg ok] at e; cases e
    rw [if_pos ok] at e
    obtain ⟨k, hk, dk⟩ := ok
    obtain ⟨a, nk, kv, rfl, dv, hks, r1, T0, ts, r2⟩ := dic_rep zh rm hd
    simp only [RepM] at rk
    cases hf : dFind ks x with
    | none => rw [hf] at e; cases e
    | some j =>
      rw [hf] at e
      simp only at e
      cases hm : ms[j]? with
      | none => rw [hm] at e; cases e
      | some y2 =>
        rw [hm] at e
        cases e
        obtain ⟨u, hu, ru⟩ := r2.get hm
        rw [List.getElem?_map] at hu
        cases hp : kv[j]? with
        | none => rw [hp] at hu; cases hu
        | some p =>
          rw [hp] at hu
          cases hu
          exact ⟨a, nk, kv, k, j, p, rfl, dv, nk_dp zh rk hk, dk, (dFind_some hks hk hf).1, hp, q _ T0 (fun b z => hT b (ts b z)) ru⟩
theorem xv_dx (hu : X.A.units + 64 < cLine) (hK : G.K = X.K) (hw : G.w = X.w) (ho : PVs G X o g) (hk : PVs G X e gk) (hs : PlainIx e := by exact fun _ _ => rfl) : PVs G X (.Subscript o e pos) (vDx g gk) := by
  obtain ⟨to, po, vo⟩ := ho.ex
  obtain ⟨t1, p1, v1⟩ := hk.ex
  refine ⟨_, pe_ix (ix_dict hu) po p1 hs, fun Z H σ env S Q gd' => ?_⟩
  unfold vDx
  cases q0 : g env with
  | bad => trivial
  | exc _ _ => trivial
  | ok m =>
  cases q1 : gk env with
  | bad => trivial
  | exc _ _ => trivial
  | ok mk =>
  cases mk with
  | d x =>
    simp only
    cases q3 : mDx m x with
    | bad => trivial
    | exc _ _ => trivial
    | ok y =>
      simp only
      intro q
      have h0 := vo Z H σ env S (fun x H1 => t1 σ H1 fun y H2 => rDIx X.K X.w x y H2 Q) gd'
      rw [q0] at h0
      refine h0 fun v T hT r => ?_
      have h1 := v1 Z H σ env S (fun y H2 => rDIx X.K X.w v y H2 Q) gd'
      rw [q1] at h1
      refine h1 fun vk T1 hT1 r1 => ?_
      rw [← hK, ← hw]
      exact mDx_run gd'.zh r r1 hT q3 q
  | _ => trivial
theorem vop_inD : VOP G (rDIn G.K G.w) oInD := fun Z H m1 T1 v1 m2 T2 v2 Q zh r1 r2 => by
  unfold oInD
  cases m1 with
  | d x =>
    cases hd : dicM m2 with
    | none => trivial
    | some p =>
      obtain ⟨ks, ms⟩ := p
      simp only
      by_cases ok : keyOk x
      case neg => rw [if_neg ok]; trivial
      rw [if_pos ok]
      intro q
      obtain ⟨k, hk, dk⟩ := ok
      obtain ⟨a, nk, kv, rfl, dv, hks, rk, _⟩ := dic_rep zh r2 hd
      simp only [RepM] at r1
      refine ⟨a, nk, kv, k, rfl, dv, nk_dp zh r1 hk, dk, ?_⟩
      have e : decide (k ∈ nk) = decide (x ∈ ks) := by
        by_cases h : k ∈ nk
        · rw [decide_eq_true h, decide_eq_true ((key_mem hks hk).mpr h)]
        · rw [decide_eq_false h, decide_eq_false fun z => h ((key_mem hks hk).mp z)]
      rw [e]
      exact q _ (by simp [RepD])
  | _ => trivial
end
/-! ### d[k] = v, list(d), {} -/
noncomputable def putD (ks : List D) (ms : List M) (x : D) (m : M) : M := match dFind ks x with
  | some j => .dic ks (ms.set j m)
  | none => .dic (ks ++ [x]) (ms ++ [m])
noncomputable def ssSetD (i : Nat) (gk : VE) (f : SE) : SS := fun env => match f env with
  | .ok (m, e1) => match getE e1 i, gk e1 with
    | .ok (.dic ks ms), .ok (.d x) => if keyOk x ∧ ks.length < sizeLine then .ok (.nx, e1.set i (some (putD ks ms x m))) else .bad
    | _, _ => .bad
  | .exc x e => .exc x e
  | .bad => .bad
theorem dic_own {G : Gx} {Z H : Hp} {ks : List D} {ms : List M} {T : Rg} {v : V} (l : Hld G Z H (fun _ => False) (.dic ks ms) T v) : ∃ a nk kv T0, v = .ref a ∧ T a ∧ ¬ T0 a ∧ (∀ b, T0 b → T b) ∧ H a = some (DO G.w a nk kv) ∧ KsOk ks nk ∧ RepDs G Z ks (kv.map fun p => p.1) ∧ RepMs G Z H ms T0 (kv.map fun p => p.2) ∧ Z a = none := by
  have r := l.rep
  simp only [RepM] at r
  obtain ⟨a, nk, kv, T0, rfl, sa, nt, ts, h, hk, r1, r2⟩ := r
  exact ⟨a, nk, kv, T0, rfl, sa, nt, ts, h, hk, r1, r2, l.zf a sa⟩
theorem dic_become {G : Gx} {Z H : Hp} {ks : List D} {nk : List NestedKey} {ms : List M} {kv : List (V × V)} {T Ts T1 : Rg} {a : Addr} (zh : Same Z H) (sa : T a) (za : Z a = none) (nT : ¬ T1 a) (hk : KsOk ks nk) (r1 : RepDs G Z ks (kv.map fun p => p.1)) (r : RepMs G Z H ms T1 (kv.map fun p => p.2)) (sub : ∀ b, T1 b → T b ∨ Ts b) (al : ∀ b, T b → H b ≠ none) (al2 : ∀ b, Ts b → H b ≠ none) (zf : ∀ b, T b → Z b = none) (zf2 : ∀ b, Ts b → Z b = none) :
    Stp Z H (fun b => T b ∨ Ts b) Z (upd H a (DO G.w a nk kv)) (fun b => (T1 b ∨ b = a) ∨ False) ∧ Hld G Z (upd H a (DO G.w a nk kv)) (fun _ => False) (.dic ks ms) (fun b => T1 b ∨ b = a) (.ref a) := by
  refine ⟨(Stp.upd zh (.inl sa) za).weak fun b z => ?_, ⟨?_, fun b z => ?_, fun b z => ?_, fun _ _ z => z⟩⟩
  · rcases z with (z | rfl) | z
    · exact sub b z
    · exact .inl sa
    · exact z.elim
  · simp only [RepM]
    exact ⟨a, nk, kv, T1, rfl, .inr rfl, nT, fun b z => .inl z, upd_same, hk, r1, RepMs.mono (Same.refl _) _ _ _ _ (fun _ z => z) (fun b o sb e => by rw [upd_ne (fun z => nT (by rw [← z]; exact sb))]; exact e) r⟩
  · rcases z with z | rfl
    · exact upd_al ((sub b z).elim (al b) (al2 b))
    · exact upd_al'
  · rcases z with z | rfl
    · exact (sub b z).elim (zf b) (zf2 b)
    · exact za
theorem modify_fst (kv : List (V × V)) (j : Nat) (v : V) : (kv.modify j fun p => (p.1, v)).map (fun p => p.1) = kv.map fun p => p.1 := by
  induction kv generalizing j with
  | nil => simp
  | cons p kv ih => cases j with
    | zero => simp
    | succ j => simp [ih]
theorem modify_snd (kv : List (V × V)) (j : Nat) (v : V) : (kv.modify j fun p => (p.1, v)).map (fun p => p.2) = (kv.map fun p => p.2).set j v := by
  induction kv generalizing j with
  | nil => simp
  | cons p kv ih => cases j with
    | zero => simp
    | succ j => simp [ih]
theorem xs_setD {G : Gx} {X : Cx} {W : WX'} {P : Px} {x : Str} {ie e : Expr} {gk : VE} {f : SE} {p ps pos : Pos} (i : Nat) (hu : X.A.units + 64 < cLine) (hK : G.K = X.K) (hw : G.w = X.w) (hi : PVs G X ie gk) (he : PEs G X W e f)
    (hN : X.N[i]? = some x := by rfl) (hv : Vis X.env.scope x := by first | exact Or.inl rfl | exact Or.inr (Or.inl rfl) | exact Or.inr (Or.inr rfl)) (hd : (x == ("__debug__" : Str)) = false := by decide) (hcd : (x == ("__classdict__" : Str)) = false := by decide)
    (ha : ∀ v, assign (.Subscript (.Name x p) ie ps) X.env v = (do
      let ov ← holding [v] (eval (.Name x p) X.env)
      let iv ← holding [v, ov] (eval ie X.env)
      standAt ps
      holding [v, ov, iv] (setItem ov iv v)
      release [v, ov, iv] []) := by intro _; rfl)
    (hs : swapsWithSole [.Subscript (.Name x p) ie ps] e pos.line X.env = pure false := by rfl) (hsw : swappedStores [.Subscript (.Name x p) ie ps] e X.env = pure none := by rfl)
    (h1 : (assignEach [.Subscript (.Name x p) ie ps] X.env).map (·.2) = [assign (.Subscript (.Name x p) ie ps) X.env] := by rfl) :
    PS' G X W P (.Assign [.Subscript (.Name x p) ie ps] e pos) (ssSetD i gk f) := by
  obtain ⟨t, q, h⟩ := he.ex
  obtain ⟨ti, qi, hi⟩ := hi.ex
  refine ⟨_, ps_asg q (pg_sub (pe_var hN hv hd hcd) qi (set_dct hu) ha) hs hsw h1, fun D Z H σ env S gd k => ?_⟩
  unfold ssSetD at k
  refine h.use gd ?_
  cases e1 : f env with
  | bad => rw [e1] at k; exact k.elim
  | exc x' e' => rw [e1] at k; exact fun cls d Z' H' S' hx s' g' => k cls d σ Z' H' S' hx Fix.refl s' g'
  | ok pr =>
    obtain ⟨m, env1⟩ := pr
    rw [e1] at k
    simp only at k
    intro v Z' H' S' T s' g' l
    rcases getE_cases env1 i with ⟨mx, e2⟩ | e2
    case inr => rw [e2] at k; exact k.elim
    rw [e2] at k
    cases mx with
    | dic ks ms =>
      cases e3 : gk env1 with
      | ok mi =>
        rw [e3] at k
        cases mi with
        | d di =>
          simp only at k
          by_cases ok : keyOk di ∧ ks.length < sizeLine
          case neg => rw [if_neg ok] at k; exact k.elim
          rw [if_pos ok] at k
          obtain ⟨⟨kk, hkk, dk⟩, hz⟩ := ok
          obtain ⟨w, hw0, g1, l1⟩ := g'.take (getE_ok e2)
          refine ⟨w, hw0, ?_⟩
          have h2 := hi Z' H' σ env1 S' (fun iv H2 => rDSet X.K X.w w iv v H2 fun H3 => D.nx σ H3) g'
          rw [e3] at h2
          refine h2 fun iv _ _ ri => ?_
          simp only [RepM] at ri
          obtain ⟨a, nk, kv, T0, rfl, sa, nt, ts, ho, hk, r1, r2, za⟩ := dic_own (G := G) (v := w) ⟨l1.rep, l1.al, l1.zf, fun _ _ z => z⟩
          have d0 : ∀ b, T b → ¬ S' i b := fun b z w => l.dj b z ⟨i, w⟩
          have hlen : ks.length = kv.length := by have := r1.len; simpa using this
          have hmd : dicM (.dic ks ms) = some (ks, ms) := rfl
          obtain ⟨a2, nk2, kv2, ea, dv, _⟩ := dic_rep (G := G) g'.zh l1.rep hmd
          cases ea
          have e5 := dv.at_
          have dv2 : DcV G.K G.w H' a nk kv := by
            refine ⟨ho, fun i k p hk' hp => ?_, hk.nd, hk.dp⟩
            obtain ⟨x, hx, rx⟩ := getD_some r1 (i := i) (v := p.1) (by rw [List.getElem?_map, hp]; rfl)
            obtain ⟨y, hy, hyk⟩ := nkDs_get hk.eq hk'
            rw [hx] at hy
            cases hy
            exact nk_dp g'.zh rx hyk
          have fin : ∀ {nk' : List NestedKey} {kv' : List (V × V)} {ks' : List FL.D} {ms' : List M}, KsOk ks' nk' → RepDs G Z' ks' (kv'.map fun p => p.1) → RepMs G Z' H' ms' (fun b => T0 b ∨ T b) (kv'.map fun p => p.2) → putD ks ms di m = .dic ks' ms' → D.nx σ (upd H' a (DO X.w a nk' kv')) := by
            intro nk' kv' ks' ms' h1 h2 h3 h4
            rw [h4] at k
            obtain ⟨s, l2⟩ := dic_become (G := G) (Ts := T) g'.zh sa za (fun z => z.elim nt fun z => d0 a z sa) h1 h2 h3 (fun b z => z.elim (fun z => .inl (ts b z)) .inr) l1.al l.al l1.zf l.zf
            obtain ⟨g2, d2⟩ := g1.move s fun b z w => w.elim (fun w => l1.dj b w z) fun w => l.dj b w (Rs.wipe_le z)
            have g3 := g2.back (i := i) (m := .dic ks' ms') (v := .ref a) ⟨l2.rep, l2.al, l2.zf, fun b z w => d2 b w (.inl z)⟩ hw0
            rw [show (env1.set i none).set i (some (M.dic ks' ms')) = env1.set i (some (.dic ks' ms')) from List.set_set ..] at g3
            rw [← hw]
            refine k σ Z' _ _ Fix.refl (s'.trans (((s.frame (U (S'.set i fun _ => False))).from fun b z => ?_).weak fun b z => ?_)) g3
            · rcases z with (z | z) | z
              · exact .inl ⟨i, z⟩
              · exact .inr z
              · exact .inl (Rs.wipe_le z)
            · rcases Rs.set_sub z with z | z
              · exact .inr z
              · exact .inl (.inl z)
          rw [← hK]
          rw [hw] at dv2
          refine ⟨a, nk, kv, kk, rfl, dv2, nk_dp g'.zh ri hkk, dk, by rw [← hlen]; exact hz, fun hn => ?_, fun j hj => ?_⟩
          · refine fin (hk.add hkk dk hn) (ks' := ks ++ [di]) (ms' := ms ++ [m]) ?_ ?_ ?_
            · rw [List.map_append]
              exact RepDs.app r1 (show RepDs G Z' [di] [iv] from by simp only [RepDs]; exact ⟨iv, [], rfl, ri, rfl⟩)
            · rw [List.map_append]
              exact RepMs.app r2 (RepMs.one l.rep) (fun _ z => .inl z) (fun _ z => .inr z) fun b z w => d0 b w (ts b z)
            · unfold putD
              cases hf : dFind ks di with
              | none => rfl
              | some j => exact absurd (List.mem_of_getElem? (dFind_some hk hkk hf).1) hn
          · refine fin hk (ks' := ks) (ms' := ms.set j m) (by rw [modify_fst]; exact r1) (by rw [modify_snd]; exact RepMs.set j r2 l.rep fun b z w => d0 b z (ts b w)) ?_
            unfold putD
            cases hf : dFind ks di with
            | none => exact absurd (List.mem_of_getElem? hj) (dFind_none hk hkk hf)
            | some j2 =>
              have := get_unique hk.nd (dFind_some hk hkk hf).1 hj
              subst this
              rfl
        | _ => exact k.elim
      | _ => rw [e3] at k; exact k.elim
    | _ => exact k.elim
def sDict0 : SE := fun env => .ok (.dic [] [], env)
theorem xe_dict0 {G : Gx} {X : Cx} {W : WX'} {pos : Pos} (hw : G.w = X.w) : PEs G X W (.Dict [] [] pos) sDict0 := by
  refine ⟨_, pe_dnew, SEok.mk' fun Z H σ env S Q gd k p hp => ?_⟩
  have pS : ¬ U S p := fun z => gd.al' p z hp
  have zp : Z p = none := by
    cases e : Z p with
    | none => rfl
    | some o => rw [gd.zh p o e] at hp; cases hp
  rw [← hw]
  refine k (.ref p) _ _ S (fun a => a = p) (Stp.new (o := DO G.w p [] []) gd.zh hp (U S)) (gd.move (Stp.new (o := DO G.w p [] []) gd.zh hp (fun _ => False)) fun _ _ z => z).1 ⟨?_, (fun a z => by rw [z, upd_same]; exact (fun z => nomatch z)), (fun a z => by rw [z]; exact zp), (fun a z => by rw [z]; exact pS)⟩
  simp only [RepM]
  exact ⟨p, [], [], fun _ => False, rfl, rfl, fun z => z, fun _ z => z.elim, upd_same, ⟨rfl, List.nodup_nil, fun x h => by simp at h⟩, by simp [RepDs], by simp [RepMs]⟩
noncomputable def sListD (g : VE) : SE := fun env => match g env with
  | .ok m => match dicM m with
    | some (ks, _) => .ok (.lst (ks.map .d), env)
    | none => .bad
  | _ => .bad
theorem xe_listD {G : Gx} {X : Cx} {W : WX'} {e : Expr} {g : VE} {p pos : Pos} (hc : X.calm = true) (hK : G.K = X.K) (hw : G.w = X.w) (hm : X.mg "list" = none) (ha : PVs G X e g) (hv : bootBuiltins "list" = some (.type "list") := by decide +kernel) (hg : Gl X "list" := by rfl) (hst : starEach [e] X.env = (false, eval e X.env) :: starEach [] X.env := by rfl) (hpl : (backTo pos (starEach [] X.env)).any (·.1) = false := by rfl) :
    PEs G X W (.Call (.Name "list" p) [e] [] pos) (sListD g) := by
  obtain ⟨t, q, h⟩ := ha.ex
  refine ⟨_, pe_callTy (call_dlist hc) hg hm hv (pa_cons q pa_nil hst) (by decide) (by decide) hst hpl, SEok.mk' fun Z H σ env S Q gd k => ?_⟩
  unfold sListD at k
  have h1 := h Z H σ env S (fun x H1 => rDList X.K X.w [x] H1 Q) gd
  cases e1 : g env with
  | bad => rw [e1] at k; exact k.elim
  | exc x e' => rw [e1] at k; exact k.elim
  | ok m =>
    rw [e1] at k h1
    simp only at k h1
    cases e3 : dicM m with
    | none => rw [e3] at k; exact k.elim
    | some pr =>
      obtain ⟨ks, ms⟩ := pr
      rw [e3] at k
      refine h1 fun v T _ r => ?_
      obtain ⟨a, nk, kv, rfl, dv, hks, r1, _⟩ := dic_rep gd.zh r e3
      rw [← hK, ← hw]
      refine ⟨a, nk, kv, rfl, dv, fun b hb => ?_⟩
      have pS : ¬ U S b := fun z => gd.al' b z hb
      exact k (.ref b) _ _ S (fun a => a = b) (Stp.new (o := .lst (kv.map fun p => p.1)) gd.zh hb (U S)) (gd.move (Stp.new (o := .lst (kv.map fun p => p.1)) gd.zh hb (fun _ => False)) fun _ _ z => z).1 (lst_newD gd.zh r1 hb pS)
end FL

set_option maxHeartbeats 2000000
/-! FLWF: dicts whose values are a function of their keys; comprehensions with a test. -/
namespace FL
open PySem L2 Classical
theorem dFind_mem {ks : List D} {x : D} (h : x ∈ ks) : ∃ j, dFind ks x = some j ∧ ks[j]? = some x := by
  unfold dFind
  cases e : ks.findIdx? fun y => decide (y = x) with
  | none =>
    have := List.findIdx?_eq_none_iff.mp e x h
    simp at this
  | some j =>
    obtain ⟨hlt, h1, _⟩ := List.findIdx?_eq_some_iff_getElem.mp e
    exact ⟨j, rfl, by rw [List.getElem?_eq_getElem hlt, of_decide_eq_true h1]⟩
theorem dFind_not {ks : List D} {x : D} (h : x ∉ ks) : dFind ks x = none := by
  unfold dFind
  refine List.findIdx?_eq_none_iff.mpr fun y hy => ?_
  exact decide_eq_false fun e => h (e ▸ hy)
theorem mGet_map {ks : List D} {φ : D → M} {x : D} {dm : M} (ok : keyOk x) : mGet (.dic ks (ks.map φ)) x dm = .ok (if x ∈ ks then φ x else dm) := by
  unfold mGet
  simp only [dicM, if_pos ok]
  by_cases h : x ∈ ks
  · obtain ⟨j, e, hj⟩ := dFind_mem h
    simp only [e, List.getElem?_map, hj, Option.map_some, if_pos h]
  · simp only [dFind_not h, if_neg h]
theorem mDx_map {ks : List D} {φ : D → M} {x : D} (ok : keyOk x) (h : x ∈ ks) : mDx (.dic ks (ks.map φ)) x = .ok (φ x) := by
  unfold mDx
  obtain ⟨j, e, hj⟩ := dFind_mem h
  simp only [dicM, if_pos ok, e, List.getElem?_map, hj, Option.map_some]
theorem putD_in {ks : List D} {φ : D → M} {x : D} {m : M} (hn : ks.Nodup) (h : x ∈ ks) : putD ks (ks.map φ) x m = .dic ks (ks.map fun k => if k = x then m else φ k) := by
  unfold putD
  obtain ⟨j, e, hj⟩ := dFind_mem h
  simp only [e]
  congr 1
  apply List.ext_getElem?
  intro i
  have hjl : j < ks.length := (List.getElem?_eq_some_iff.mp hj).1
  by_cases hij : j = i
  · subst hij
    rw [List.getElem?_set_self (by simpa using hjl), List.getElem?_map, hj]
    simp
  · rw [List.getElem?_set_ne hij, List.getElem?_map, List.getElem?_map]
    cases hi : ks[i]? with
    | none => rfl
    | some y =>
      have : y ≠ x := fun z => by
        subst z
        exact hij ((List.getElem?_inj hjl hn).mp (hj.trans hi.symm))
      simp [this]
theorem putD_new {ks : List D} {φ : D → M} {x : D} {m : M} (h : x ∉ ks) : putD ks (ks.map φ) x m = .dic (ks ++ [x]) ((ks ++ [x]).map fun k => if k = x then m else φ k) := by
  unfold putD
  simp only [dFind_not h]
  congr 1
  rw [List.map_append]
  congr 1
  · apply List.map_congr_left
    intro y hy
    have : y ≠ x := fun z => h (z ▸ hy)
    simp [this]
  · simp
theorem lcl_if {own : List Nat} {g : SG} {c : SB} {f : SE} {env : Env} {α : Type} (dd : α → D) (φ : α → M) (p : α → Bool) : ∀ (xs : List α) (acc : List M),
    (∀ x ∈ xs, ∃ e1 e2 e3, g (.d (dd x)) env = .ok e1 ∧ c e1 = .ok (p x, e2) ∧ (p x = true → f e2 = .ok (φ x, e3) ∧ killAll own e3 = env) ∧ (p x = false → killAll own e2 = env)) → lcl own g c f (xs.map dd) acc env = .ok (acc ++ (xs.filter p).map φ, env)
  | [], acc, _ => by simp [lcl]
  | x :: xs, acc, h => by
    obtain ⟨e1, e2, e3, h1, h2, h3, h4⟩ := h x (by simp)
    cases hp : p x with
    | true =>
      rw [hp] at h2
      obtain ⟨h5, h6⟩ := h3 hp
      simp only [List.map_cons, lcl, h1, h2, h5, h6]
      rw [lcl_if dd φ p xs (acc ++ [φ x]) fun y hy => h y (by simp [hy])]
      simp [hp]
    | false =>
      rw [hp] at h2
      simp only [List.map_cons, lcl, h1, h2, h4 hp]
      rw [lcl_if dd φ p xs acc fun y hy => h y (by simp [hy])]
      simp [hp]
theorem nk_rows : ∀ rs : List (List Nat × Int), ∃ ks, nkDs (rs.map rowD) = some ks ∧ NestedKey.depthAll ks ≤ 1
  | [] => ⟨[], rfl, by simp [NestedKey.depthAll]⟩
  | r :: rs => by
    obtain ⟨ks, h1, h2⟩ := nk_rows rs
    refine ⟨.tup [.text (sl r.1), .num r.2] :: ks, ?_, ?_⟩
    · simp only [List.map_cons, nkDs, rowD, nkD, h1]
    · simp only [NestedKey.depthAll, NestedKey.depth]; omega
theorem Out.key {x : D} (h : Out x) : keyOk x := by
  cases h with
  | non => exact ⟨.none, rfl, by simp [NestedKey.depth]⟩
  | int i => exact ⟨.num i, rfl, by simp [NestedKey.depth]⟩
  | rcd rs =>
    obtain ⟨ks, h1, h2⟩ := nk_rows rs
    exact ⟨.tup ks, by simp only [nkD, h1], by simp only [NestedKey.depth]; omega⟩
end FL

namespace FL
open PySem L2
theorem lk_re {env : PySem.Env} {k0 : NameKind} (p : NameKind → Prop) (h0 : p k0) (h1 : k0 = .free → p .cell) : ∀ {names : List (Str × NameKind)} {x : Str}, names.lookup x = some k0 →
    ∃ k, (names.map fun (n, k) => if (k == NameKind.free && env.scope.kind == .function && env.kindOf n == some .cell) then (n, NameKind.cell) else (n, k)).lookup x = some k ∧ p k
  | [], _, h => by simp at h
  | (n, k) :: r, x, h => by
    have ih := @lk_re env k0 p h0 h1 r x
    show ∃ k', List.lookup x ((if (k == NameKind.free && env.scope.kind == .function && env.kindOf n == some .cell) = true then (n, NameKind.cell) else (n, k)) :: _) = some k' ∧ p k'
    cases hx : x == n with
    | true =>
      simp only [List.lookup_cons, hx] at h
      cases h
      by_cases hc : (k0 == NameKind.free && env.scope.kind == .function && env.kindOf n == some .cell) = true
      · rw [if_pos hc]; simp only [List.lookup_cons, hx]
        refine ⟨_, rfl, h1 ?_⟩
        simp at hc; exact hc.1.1
      · rw [if_neg hc]; simp only [List.lookup_cons, hx]; exact ⟨_, rfl, h0⟩
    | false =>
      simp only [List.lookup_cons, hx] at h
      by_cases hc : (k == NameKind.free && env.scope.kind == .function && env.kindOf n == some .cell) = true
      · rw [if_pos hc]; simp only [List.lookup_cons, hx]; exact ih h
      · rw [if_neg hc]; simp only [List.lookup_cons, hx]; exact ih h
/-- a comprehension within a comprehension -/
theorem blkOk_re {N : List Str} {sc scope : Scope} {own : List (Str × Nat)} {env : PySem.Env} (ok : BlkOk N sc scope own) : BlkOk N (relabel sc env) scope own :=
  ⟨ok.kind, ok.uniq, ok.ix, fun y hy e => by
    rcases ok.free y hy e with z | z
    · obtain ⟨k, hk, e⟩ := lk_re (env := env) (fun k => k = .cell) rfl (fun z => nomatch z) z
      exact .inl (by subst e; exact hk)
    · obtain ⟨k, hk, e⟩ := lk_re (env := env) (fun k => k = .cell ∨ k = .free) (.inr rfl) (fun _ => .inl rfl) z
      rcases e with e | e
      · exact .inl (by subst e; exact hk)
      · exact .inr (by subst e; exact hk), ok.own⟩
end FL

/-! FLWH: a value frozen as soon as it is told. -/
namespace FL
open PySem L2 Classical
def sFz (f : SE) : SE := fun env => match f env with
  | .ok (m, e) => .ok (.d (fz m), e)
  | .exc x e => .exc x e
  | .bad => .bad
theorem SEok.fz {G : Gx} {W : WX'} {t : TE} {f : SE} (h : SEok G W t f) : SEok G W t (sFz f) := SEok.mk' fun Z H σ env S Q gd k => by
  unfold sFz at k
  refine h.use gd ?_
  cases e1 : f env with
  | bad => rw [e1] at k; exact k.elim
  | exc x e' => rw [e1] at k; exact k
  | ok pr =>
    obtain ⟨m, env1⟩ := pr
    rw [e1] at k
    simp only at k
    intro v Z' H' S' T s' g' l
    obtain ⟨rz, sz⟩ := l.frozen g'.zh
    have sT : Stp Z' H' T (Fzp Z' H' T) H' T := ⟨sz.z, sz.zh, fun _ _ e _ => e, fun _ z => .inl z, fun a z => by
      by_cases ta : T a
      · exact .inr (.inl ta)
      · rw [frz_out ta] at z; exact .inl z⟩
    have g2 := (g'.move sT fun a z w => l.dj a w z).1
    exact k v _ _ S' (fun _ => False) ((s'.trans sz).weak fun _ z => z.elim (fun z => z) fun z => z.elim) g2 (Hld.data rz)
theorem xe_fz {G : Gx} {X : Cx} {W : WX'} {e : Expr} {f : SE} (ha : PEs G X W e f) : PEs G X W e (sFz f) := by
  obtain ⟨t, q, h⟩ := ha.ex
  exact ⟨t, q, h.fz⟩
theorem sLc_eq {own : List Nat} {fi : SI} {g : SG} {c : SB} {f : SE} {env e e2 : FL.Env} {xs : List D} {ms : List M} (h1 : fi env = .ok (xs, e)) (h2 : xs.length ≤ sizeLine) (h3 : lcl own g c f xs [] (killAll own e) = .ok (ms, e2)) : sLc own fi g c f env = .ok (.lst ms, e2) := by
  unfold sLc
  rw [h1]
  simp only []
  rw [if_pos h2, h3]
theorem sLcW_eq {own ws : List Nat} {fi : SIw} {g : SG} {c : SB} {f : SE} {env e2 : FL.Env} {xs : List D} {ms : List M} (h1 : fi env = .ok xs) (h2 : xs.length ≤ sizeLine) (h0 : ∀ i ∈ ws, i ∉ own) (h3 : lclw own ws env g c f xs [] (killAll own env) = .ok (ms, e2)) : sLcW own ws fi g c f env = .ok (.lst ms, e2) := by
  unfold sLcW
  rw [h1]
  simp only []
  rw [if_pos ⟨h2, h0⟩, h3]
theorem ssSet_eq {i : Nat} {f : SE} {env e : FL.Env} {m : M} (h : f env = .ok (m, e)) (hi : i < e.length) : ssSet i f env = .ok (.nx, e.set i (some m)) := by
  unfold ssSet
  rw [h]
  simp only []
  rw [if_pos hi]
theorem ssFor_eq {fi : SI} {g : SG} {b : SS} {env e : FL.Env} {xs : List D} (h : fi env = .ok (xs, e)) : ssFor fi g b env = fl g b xs e := by
  unfold ssFor
  rw [h]
theorem ssForW_eq {ws : List Nat} {fi : SIw} {g : SG} {b : SS} {env : FL.Env} {xs : List D} (h : fi env = .ok xs) : ssForW ws fi g b env = flw ws env g b xs env := by
  unfold ssForW
  rw [h]
end FL

/-! FLWI: single steps of the plain readings, each as a law of its own. -/
namespace FL
open PySem L2 Classical
theorem saNil_eq (env : FL.Env) : saNil env = .ok ([], env) := rfl
theorem saCons_eq {f : SE} {fs : SA} {env e1 e2 : FL.Env} {m : M} {ms : List M} (h : f env = .ok (m, e1)) (h2 : fs e1 = .ok (ms, e2)) : saCons f fs env = .ok (m :: ms, e2) := by
  unfold saCons; rw [h]; simp only []; rw [h2]
theorem sa1_eq {f : SE} {env e1 : FL.Env} {m : M} (h : f env = .ok (m, e1)) : saCons f saNil env = .ok ([m], e1) := saCons_eq h rfl
theorem sa2_eq {f g : SE} {env e1 e2 : FL.Env} {m n : M} (h : f env = .ok (m, e1)) (h2 : g e1 = .ok (n, e2)) : saCons f (saCons g saNil) env = .ok ([m, n], e2) := saCons_eq h (sa1_eq h2)
theorem sa3_eq {f g k : SE} {env e1 e2 e3 : FL.Env} {m n o : M} (h : f env = .ok (m, e1)) (h2 : g e1 = .ok (n, e2)) (h3 : k e2 = .ok (o, e3)) : saCons f (saCons g (saCons k saNil)) env = .ok ([m, n, o], e3) := saCons_eq h (sa2_eq h2 h3)
theorem sCall_eq {F : FS} {bk : Bk} {fs : SA} {env e1 ms' : FL.Env} {ms : List M} {r : M} (h : fs env = .ok (ms, e1)) (h2 : F ms = .ok (r, ms')) : sCall F bk fs env = .ok (r, putBack bk ms' e1) := by
  unfold sCall; rw [h]; simp only []; rw [h2]
theorem putBack_none : ∀ (bk : Bk) (ms env : FL.Env), (∀ x ∈ bk, x = none) → putBack bk ms env = env
  | [], ms, env, _ => by cases ms <;> rfl
  | x :: bk, [], env, h => by
    have := h x (by simp); subst this; rfl
  | x :: bk, m :: ms, env, h => by
    have := h x (by simp); subst this
    show putBack bk ms env = env
    exact putBack_none bk ms env fun y hy => h y (by simp [hy])
theorem sCall_n {F : FS} {bk : Bk} {fs : SA} {env e1 ms' : FL.Env} {ms : List M} {r : M} (hb : ∀ x ∈ bk, x = none) (h : fs env = .ok (ms, e1)) (h2 : F ms = .ok (r, ms')) : sCall F bk fs env = .ok (r, e1) := by
  rw [sCall_eq h h2, putBack_none bk ms' e1 hb]
theorem sFz_eq {f : SE} {env e : FL.Env} {m : M} (h : f env = .ok (m, e)) : sFz f env = .ok (.d (fz m), e) := by
  unfold sFz; rw [h]
theorem s2_eq {op : DOp} {f g : SE} {env e1 e2 : FL.Env} {m1 m2 : M} {x : D} (h1 : f env = .ok (m1, e1)) (h2 : g e1 = .ok (m2, e2)) (h3 : op m1 m2 = .ok x) : s2 op f g env = .ok (.d x, e2) := by
  unfold s2; rw [h1]; simp only []; rw [h2]; simp only []; rw [h3]
theorem s2v_eq {op : DOp} {f : SE} {g : VE} {env e1 : FL.Env} {m1 m2 : M} {x : D} (h1 : f env = .ok (m1, e1)) (h2 : g e1 = .ok m2) (h3 : op m1 m2 = .ok x) : s2v op f g env = .ok (.d x, e1) := by
  unfold s2v; rw [h1]; simp only []; rw [h2]; simp only []; rw [h3]
theorem sB_eq {op : LOp} {fs : SA} {env e : FL.Env} {ms : List M} {x : D} (h : fs env = .ok (ms, e)) (h2 : op ms = .ok x) : sB op fs env = .ok (.d x, e) := by
  unfold sB; rw [h]; simp only []; rw [h2]
theorem sbE_eq {f : SE} {env e : FL.Env} {b : Bool} (h : f env = .ok (.d (.bl b), e)) : sbE f env = .ok (b, e) := by
  unfold sbE; rw [h]
theorem sbNot_eq {c : SB} {env e : FL.Env} {b : Bool} (h : c env = .ok (b, e)) : sbNot c env = .ok (!b, e) := by
  unfold sbNot; rw [h]
theorem ssIf_t {c : SB} {f g : SS} {env e : FL.Env} (h : c env = .ok (true, e)) : ssIf c f g env = f e := by
  unfold ssIf; rw [h]
theorem ssIf_f {c : SB} {f g : SS} {env e : FL.Env} (h : c env = .ok (false, e)) : ssIf c f g env = g e := by
  unfold ssIf; rw [h]
theorem ssRet_eq {f : SE} {env e : FL.Env} {m : M} (h : f env = .ok (m, e)) : ssRet f env = .ok (.ret m, e) := by
  unfold ssRet; rw [h]
theorem ssDrop_eq {f : SE} {env e : FL.Env} {m : M} (h : f env = .ok (m, e)) : ssDrop f env = .ok (.nx, e) := by
  unfold ssDrop; rw [h]
theorem sMeth_eq {isT : M → Bool} {i : Nat} {op : MM} {fs : SA} {env e : FL.Env} {m0 m m' x : M} {ms : List M} (h0 : getE env i = .ok m0) (ht : isT m0 = true) (h : fs env = .ok (ms, e)) (h1 : getE e i = .ok m) (h2 : op m ms = .ok (x, m')) : sMeth isT i op fs env = .ok (x, e.set i (some m')) := by
  unfold sMeth; rw [h0]; simp only []; rw [if_pos ht, h]; simp only []; rw [h1]; simp only []; rw [h2]
end FL

set_option maxHeartbeats 2000000
/-! FLWJ: sorted(a dict, key=f). -/
namespace PySem.W
open PySem PySem.Calls PyProof.Rows PyProof.V PySem.Spec
section
variable {prog : Program} {w : World} {A : Around} {E : Value → Shared → Prop} {s : Shared} {T : String} {r d : Addr} {n : Nat} {P : Nat → Value → Prop} {OK : Heap → Prop} {β : Type} {bs : List β} {R : Value → β → Prop}
theorem sorted_src_key {f : Value} {kw : List (Str × Value)} {b : Bool} {Q : Value → Shared → Prop} (K : KdlSrc prog w T r d n P OK) (hh : A.handled = none) (hok : OK s.heap) (hn : n ≤ sizeLine) (k : β → PyData) (hbn : bs.length = n) (hbs : ∀ acc : Array Value, ItemsOf P acc n → EachIs R acc.toList bs)
    (hal : AllAlike (bs.map k)) (hk : Sortable (bs.map k)) (hu : ∀ x, x ∈ bs → A.units + 2 + (k x).depth < cLine) (ha1 : argsOk "sorted" ⟨[.ref r], kw⟩) (ha2 : ∀ x, argsOk "list.sort" ⟨[.ref x], kw⟩) (ht : ∀ x, Builtin.«list.sort» ⟨[.ref x], kw⟩ = ksk_tree x f b)
    (turn : ∀ (v : Value) (x : β), R v x → x ∈ bs → ∀ (h : Heap) (tk : Nat), (∀ b o, s.heap.get? b = some o → h.get? b = some o) →
      wpAny (model prog w) A.in1.in1 (call f [v]) (KeyPure (k x) { s with heap := h, toks := tk }) (fun _ _ => False) { s with heap := h, toks := tk })
    (h : ∀ (D : Addr) out c h' tk, (∀ b o, s.heap.get? b = some o → h'.get? b = some o) → s.heap.get? D = none → h'.get? D = some (seqObj "list" (List.toArray out) c) → out.length = bs.length → EachIs R out (bs.mergeSort (dataLe b k)) →
      Q (.ref D) { s with heap := h', toks := tk }) :
    wpAny (model prog w) A (call (.builtin "sorted") [.ref r] kw) Q E s := by
  refine call_function_entry_kw kind_sorted plain_sorted entry_sorted ha1 ?_
  unfold Builtin.«sorted»
  refine wpAny_bind (m := checkCount "sorted" 1 1 _) (wpAny_pure ?_)
  refine wpAny_bind (kdu_collect (A := A.in1) K hh hok hn fun h1 tk acc hk1 hacc => ?_)
  have hl : acc.toList.length = n := by rw [Array.length_toList]; exact hacc.1
  refine wpAny_bind (wpAny_newList ?_ (by rw [hl]; exact hn))
  have e := hbs acc hacc
  have hle : s.heap.get? h1.objs.size = none := by
    cases q : s.heap.get? h1.objs.size with
    | none => rfl
    | some o => exact absurd (Heap.lt_size (hk1 _ o q)) (Nat.lt_irrefl _)
  have up : ∀ {g : Heap}, KeepsBut h1.objs.size (h1.push { cls := .type "list", data := .seq acc.toList.toArray }) g → ∀ b o, s.heap.get? b = some o → g.get? b = some o := fun {g} kp b o q =>
    kp b o (Nat.ne_of_lt (Heap.lt_size (hk1 b o q))) (Heap.get?_push_of_some _ (hk1 b o q))
  refine wpAny_bind (wpAny_holding (wpAny_mono (list_sort_key_data (A := A.in1) (s := { s with heap := h1.push { cls := .type "list", data := .seq acc.toList.toArray }, toks := tk }) (a := h1.objs.size) (n := 0) (b := b) (Q := fun _ s' => Q (.ref h1.objs.size) s') k (Heap.get?_push_size _ rfl) e hal hk (by rw [hbn]; exact hn) (fun x hx => hu x hx) (ha2 _) (ht _)
    (fun v x hR hx g tk' kp => turn v x hR hx g tk' (up kp)) fun out c g tk' kp hD hlen eo => h h1.objs.size out c g tk' (up kp) hle hD hlen eo) (fun _ s' x => ?_) fun _ _ e => e))
  exact wpAny_pure ⟨_, rfl, x⟩
end
end PySem.W
namespace FL
open PySem L2 Classical
def rSrtKD (K : PySem.W.Frag) (w : World) (f : Addr) (kd : PyData → PyData → Prop) : List V → List V → Hp → VK → Prop := fun vs zs H Q => ∃ (a : Addr) (nk : List NestedKey) (kv : List (V × V)) (ps : List KItem), vs = [.ref a] ∧ zs = [.ref f] ∧ DcV K w H a nk kv ∧ ps.map (·.v) = kv.map (·.1) ∧
  (∀ p ∈ ps, Dp K H p.v p.x ∧ noL p.x = true ∧ kd p.x p.key ∧ p.key.depth ≤ 60) ∧ PySem.W.AllAlike (ps.map (·.key)) ∧ PySem.W.Sortable (ps.map (·.key)) ∧
  ∀ q, H q = none → Q (.ref q) (upd H q (.lst ((ps.mergeSort (PySem.W.dataLe false (fun p : KItem => p.key))).map (·.v))))
theorem cr_srtKD {X : Cx} {k : Nat} {f : Addr} {kd : PyData → PyData → Prop} (hc : X.calm = true) (T : KeyT X.prog X.w X.K X.mg X.base k f kd) (hr : Room (k + 2) X.A) : CallRK X (.builtin "sorted") [Str.ofString "key"] (rSrtKD X.K X.w f kd) := by
  intro pins s σ H vs zs us ws Q I r rz h
  obtain ⟨a, nk, kv, ps, rfl, rfl, hd, hpv, hdp, hal, hk, q⟩ := h
  rw [Vals.ref1 r]
  obtain ⟨w1, rfl, e1⟩ := vals1 rz
  obtain rfl : w1 = Value.ref f := e1
  have hun : X.A.units + 66 < cLine := by have := hr.un; omega
  obtain ⟨lo, hz, es, ⟨o, ep, ho, hx, hdd, hl, _, _⟩, er⟩ := hd.dx I
  have hlen := er.len
  have hes : es.size = kv.length := by rw [← hl, hlen.1]
  have hpl : ps.length = kv.length := by have := congrArg List.length hpv; simpa using this
  refine PySem.W.sorted_src_key (b := false) (f := Value.ref f) (kw := [(Str.ofString "key", Value.ref f)]) (R := fun v (p : KItem) => RelV p.v v ∧ Reads s.heap v p.x [] ∧ kd p.x p.key) (kdl_raw lo hx hdd) (I.ok.hd hc) ho (by rw [hes]; exact hz) (fun p : KItem => p.key) (by rw [hes]; exact hpl) (fun acc' hacc => ?_) hal hk (fun p hp => by have := (hdp p hp).2.2.2; omega) (PyProof.Rows.ksk_s1 _ _) (fun _ => PyProof.Rows.ksk_l1 _ _) (fun _ => PyProof.Rows.ksk_t1 _ _)
    (fun v p ⟨_, hrd, hkd⟩ _ h tk kp => T X.A.in1.in1 X.stack _ v p.x p.key _ I.mod hr.in1.in1 (Kp.trans (show Kp X.base s.heap from I.bk) kp) (PyProof.Rows.Reads.keeps kp hrd) hkd) fun D out c h' tk kp hge hD hln eo => ?_
  · have hv : Vals (ps.map (·.v)) acc'.toList := by
      rw [hpv]
      refine vals_of_at (by rw [List.length_map]; have := hacc.1; simp only [Array.length_toList]; omega) fun j x w h1 h2 => ?_
      obtain ⟨en, he, rfl⟩ := hacc.2 j w (by rw [← Array.getElem?_toList]; exact h2)
      have hj : j < kv.length := by rw [List.getElem?_map] at h1; cases hq : kv[j]? with
        | none => rw [hq] at h1; cases h1
        | some p => exact (List.getElem?_eq_some_iff.mp hq).1
      obtain ⟨p, e2, g1, g2, g3, g4, g5⟩ := er.get (i := j) (List.getElem?_eq_getElem (show j < nk.length by omega))
      rw [Array.getElem?_toList, he] at g2
      cases g2
      rw [List.getElem?_map, g1] at h1
      cases h1
      exact g4
    have key : ∀ {us : List Value} {qs : List KItem}, PySem.W.EachIs (fun u (p : KItem) => RelV p.v u) us qs → (∀ p ∈ qs, Dp X.K H p.v p.x ∧ noL p.x = true ∧ kd p.x p.key ∧ p.key.depth ≤ 60) → PySem.W.EachIs (fun v (p : KItem) => RelV p.v v ∧ Reads s.heap v p.x [] ∧ kd p.x p.key) us qs := by
      intro us qs e'
      induction e' with
      | nil => intro _; exact .nil
      | cons a b ih =>
        intro hh
        rename_i b0 _ _
        have h0 := hh b0 (by simp)
        obtain ⟨as, r0⟩ := Dp.reads I _ _ _ h0.1 a
        have := reads_nil _ _ _ r0 h0.2.1
        subst this
        exact .cons ⟨a, r0, h0.2.2.1⟩ (ih fun p hp => hh p (by simp [hp]))
    exact key (items_each hv) hdp
  · have hv := each_items eo fun _ _ z => z.1
    have hlen2 : ((ps.mergeSort (PySem.W.dataLe false (fun p : KItem => p.key))).map (·.v)).length ≤ sizeLine := by
      rw [List.length_map, List.length_mergeSort, hpl]
      exact hz
    exact ⟨.ref D, upd H D (.lst ((ps.mergeSort (PySem.W.dataLe false (fun p : KItem => p.key))).map (·.v))), I.laidN (t' := tk) kp hge (I.hok.gone hge) ⟨hlen2, out, c, hv, hD⟩, rfl, q _ (I.hok.gone hge)⟩
theorem srtKD_data {G : Gx} {Z H : Hp} {a f : Addr} {kf : PyData → Option PyData} {xs : List D} {nk : List NestedKey} {kv : List (V × V)} {Q : VK} (zh : Same Z H) (hs : DcV G.K G.w H a nk kv) (rr : RepDs G Z xs (kv.map fun p => p.1)) (ok : SrtKOk kf xs) (q : ∀ p ws, H p = none → RepDs G Z (srtK kf xs) ws → Q (.ref p) (upd H p (.lst ws))) :
    rSrtKD G.K G.w f (fun x y => kf x = some y) [.ref a] [.ref f] H Q := by
  obtain ⟨us, hus⟩ : ∃ us, us = kv.map fun p => p.1 := ⟨_, rfl⟩
  rw [← hus] at rr
  have hl := rr.len
  have e1 := zip_fst hl
  have e2 := zip_snd hl
  have hr := repDs_zip rr
  let mk : D × V → KItem := fun p => ⟨toPy p.1, keyOf kf p.1, p.2⟩
  let ps : List KItem := (List.zip xs us).map mk
  have p1 : ps.map (·.key) = xs.map (keyOf kf) := by
    show ((List.zip xs us).map mk).map (·.key) = _
    have h := congrArg (List.map (keyOf kf)) e1
    rw [List.map_map] at h ⊢
    exact h
  have p2 : ps.map (·.v) = us := by
    show ((List.zip xs us).map mk).map (·.v) = _
    rw [List.map_map]
    exact e2
  refine ⟨a, nk, kv, ps, rfl, rfl, hs, by rw [p2]; exact hus, fun p hp => ?_, by rw [p1]; exact ok.2.1, by rw [p1]; exact ok.2.2, fun b hb => ?_⟩
  · obtain ⟨w, hw, rfl⟩ := List.mem_map.mp hp
    have hx : w.1 ∈ xs := by rw [← e1]; exact List.mem_map_of_mem hw
    have h0 := ok.1 _ hx
    refine ⟨RepD.dp zh _ _ h0.1 (hr w hw), h0.2.1, ?_, h0.2.2.2⟩
    obtain ⟨y, hy⟩ := Option.isSome_iff_exists.mp h0.2.2.1
    show kf (toPy w.1) = some (keyOf kf w.1)
    unfold keyOf
    rw [hy]; rfl
  · have m1 : ps.mergeSort (PySem.W.dataLe false (fun p : KItem => p.key)) = ((List.zip xs us).mergeSort (PySem.W.dataLe false fun p : D × V => keyOf kf p.1)).map mk := by
      show ((List.zip xs us).map mk).mergeSort _ = _
      rw [List.map_mergeSort]
      intro a _ b _
      rfl
    have m2 : srtK kf xs = ((List.zip xs us).mergeSort (PySem.W.dataLe false fun p : D × V => keyOf kf p.1)).map (·.1) := by
      have h : srtK kf xs = srtK kf ((List.zip xs us).map (·.1)) := by rw [e1]
      rw [h]
      unfold srtK
      rw [List.map_mergeSort]
      intro a _ b _
      rfl
    rw [m1, List.map_map]
    have hq : ∀ p ∈ (List.zip xs us).mergeSort (PySem.W.dataLe false fun p : D × V => keyOf kf p.1), RepD G Z p.1 p.2 := fun p hp => hr p ((List.mergeSort_perm _ _).mem_iff.mp hp)
    have := repDs_of hq
    rw [← m2] at this
    exact q b _ hb this
noncomputable def sSortedKD (kf : PyData → Option PyData) (g : VE) : SE := fun env => match g env with
  | .ok m => match dicM m with
    | some (ks, _) => if SrtKOk kf ks then .ok (.lst ((srtK kf ks).map .d), env) else .bad
    | none => .bad
  | _ => .bad
section
variable {G : Gx} {X : Cx} {W : WX'} {e : Expr} {g : VE} {p p2 kp pos : Pos} {k k' : Nat} {nm : Str} {kf : PyData → Option PyData}
theorem xe_sortedKD (T : KeyA X.prog X.w G X.mg X.base k nm kf) (hr : Room k' X.A) (hk : k + 2 ≤ k') (hc : X.calm = true) (hK : G.K = X.K) (hw : G.w = X.w) (hm : X.mg "sorted" = none) (ha : PVs G X e g) (hgk : Gl X nm := by rfl) (hdk : (nm == ("__debug__" : Str)) = false := by decide) (hv : bootBuiltins "sorted" = some (.builtin "sorted") := by decide +kernel) (hg : Gl X "sorted" := by rfl) (hst : starEach [e] X.env = (false, eval e X.env) :: starEach [] X.env := by rfl) (hpl : (backTo pos (starEach [e] X.env)).any (·.1) = false := by rfl)
    (hall : (backToKw pos (keywordEach [⟨some "key", .Name nm p2, kp⟩] X.env)).all (·.1.isSome) = true := by rfl) (hnone : (backToKw pos (keywordEach [⟨some "key", .Name nm p2, kp⟩] X.env)).any (·.1.isNone) = false := by rfl) (hks : (backToKw pos (keywordEach [⟨some "key", .Name nm p2, kp⟩] X.env)).filterMap (·.1) = [Str.ofString "key"] := by rfl) :
    PEs G X W (.Call (.Name "sorted" p) [e] [⟨some "key", .Name nm p2, kp⟩] pos) (sSortedKD kf g) := by
  obtain ⟨t, q, h⟩ := ha.ex
  obtain ⟨f, T, hf⟩ := T.ex
  rw [hK] at T
  refine ⟨_, pe_callBK (cr_srtKD hc T (hr.mono hk)) hg hm hv (pa_cons q pa_nil hst) (pk_cons (pe_glob (v := .ref f) hgk hf rfl hdk) pk_nil) (by decide) (by decide) (by rw [hst]; rfl) hpl hall hnone hks, SEok.mk' fun Z H σ env S Q gd k => ?_⟩
  unfold sSortedKD at k
  have h1 := h Z H σ env S (fun x H1 => rSrtKD X.K X.w f (fun x y => kf x = some y) [x] [.ref f] H1 Q) gd
  cases e1 : g env with
  | bad => rw [e1] at k; exact k.elim
  | exc x e' => rw [e1] at k; exact k.elim
  | ok m =>
    rw [e1] at k h1
    simp only at k h1
    cases e3 : dicM m with
    | none => rw [e3] at k; exact k.elim
    | some pr =>
      obtain ⟨ks, ms⟩ := pr
      rw [e3] at k
      simp only at k
      by_cases ok : SrtKOk kf ks
      case neg => rw [if_neg ok] at k; exact k.elim
      rw [if_pos ok] at k
      refine h1 fun v T _ r => ?_
      obtain ⟨a, nk, kv, rfl, dv, hks, r1, _⟩ := dic_rep gd.zh r e3
      rw [← hK, ← hw]
      refine srtKD_data gd.zh dv r1 ok fun b ws hb rw' => ?_
      have pS : ¬ U S b := fun z => gd.al' b z hb
      exact k (.ref b) _ _ S (fun a => a = b) (Stp.new (o := .lst ws) gd.zh hb (U S)) (gd.move (Stp.new (o := .lst ws) gd.zh hb (fun _ => False)) fun _ _ z => z).1 (lst_newD gd.zh rw' hb pS)
end
end FL

set_option maxHeartbeats 2000000
/-! FLWK: d.items() sorted. -/
namespace FL
open PySem L2 Classical PyProof.Rows PySem.Spec
theorem each_ix {α β : Type} {R : α → β → Prop} : ∀ (us : List α) (bs : List β), us.length = bs.length → (∀ (j : Nat) (u : α) (b : β), us[j]? = some u → bs[j]? = some b → R u b) → PySem.W.EachIs R us bs
  | [], [], _, _ => .nil
  | [], _ :: _, h, _ => by simp at h
  | _ :: _, [], h, _ => by simp at h
  | u :: us, b :: bs, h, k => .cons (k 0 u b rfl rfl) (each_ix us bs (by simpa using h) fun j x y hx hy => k (j + 1) x y (by simpa using hx) (by simpa using hy))
abbrev BI := PyData × (V × V)
theorem each_addr {as : List Addr} {bs : List BI} : ∀ {out : List Value} {ms : List BI}, PySem.W.EachIs (fun v b => ∃ (a : Addr) (j : Nat), v = .ref a ∧ as[j]? = some a ∧ bs[j]? = some b) out ms →
    ∃ zs : List (BI × Addr), zs.map (·.1) = ms ∧ out = zs.map (fun z => Value.ref z.2) ∧ ∀ z ∈ zs, ∃ j : Nat, as[j]? = some z.2 ∧ bs[j]? = some z.1 := by
  intro out ms e
  induction e with
  | nil => exact ⟨[], rfl, rfl, fun _ h => nomatch h⟩
  | @cons v b _ _ h t ih =>
    obtain ⟨zs, z1, z2, z3⟩ := ih
    obtain ⟨a, j, rfl, h1, h2⟩ := h
    exact ⟨(b, a) :: zs, by rw [List.map_cons, z1], by rw [List.map_cons, z2], fun z hz => by
      rcases List.mem_cons.mp hz with rfl | hz
      · exact ⟨j, h1, h2⟩
      · exact z3 z hz⟩
def rSortItD (K : PySem.W.Frag) (w : World) : List V → Hp → VK → Prop := fun vs H Q => ∃ (p a : Addr) (nk : List NestedKey) (kv : List (V × V)) (ds : List PyData), vs = [.ref p] ∧ H p = some (DX.itemsO p a) ∧ DcV K w H a nk kv ∧ ds.length = kv.length ∧
  (∀ (j : Nat) (q : V × V) (d : PyData), kv[j]? = some q → ds[j]? = some d → ∃ x y, d = .tuple [x, y] ∧ Dp K H q.1 x ∧ Dp K H q.2 y ∧ noL x = true ∧ noL y = true ∧ d.depth ≤ 60) ∧ PySem.W.AllAlike ds ∧ PySem.W.Sortable ds ∧
  ∀ (H' : Hp) (l : Addr) (zs : List (BI × Addr)), (∀ b o, H b = some o → H' b = some o) → H l = none → (∀ z ∈ zs, H z.2 = none ∧ z.2 ≠ l) → zs.map (·.1) = (List.zip ds kv).mergeSort (PySem.W.dataLe false (fun b : BI => b.1)) →
    H' l = some (.lst (zs.map fun z => V.ref z.2)) → (∀ z ∈ zs, H' z.2 = some (.tup [z.1.2.1, z.1.2.2])) → Q (.ref l) H'
theorem cr_sortItD {X : Cx} (hc : X.calm = true) (hu : X.A.units + 64 < cLine) : CallR X (.builtin "sorted") (rSortItD X.K X.w) := by
  intro pins s σ H xs us Q I r h
  obtain ⟨p, a, nk, kv, ds, rfl, hp, hd, hdl, hdat, hal, hsk, q⟩ := h
  obtain rfl := Vals.ref1 r
  have view : s.heap.IsItemsView p a := (show ObjOk X.prog X.w H s.heap p (DX.itemsO p a) from I.hok p _ hp).1
  obtain ⟨lo, hz, es, ⟨o, ep, ho, hx, hdd, hl, _, _⟩, er⟩ := hd.dx I
  have hlen := er.len
  have hes : es.size = kv.length := by rw [← hl, hlen.1]
  have hh : X.A.handled = none := I.ok.hd hc
  refine DT.sortedI (es := es) (ep := ep) hh view ⟨o, ho, hx, hdd⟩ (by rw [hes]; exact hz) fun h' tk as hk hlt hla hG => ?_
  have lak : as.length = kv.length := by omega
  obtain ⟨bs, hbs⟩ : ∃ bs : List BI, bs = List.zip ds kv := ⟨_, rfl⟩
  have hbl : bs.length = kv.length := by rw [hbs, List.length_zip]; omega
  have pr : ∀ (j : Nat) (b : Addr), as[j]? = some b → ∃ (qv : V × V) (en : DictEntry), kv[j]? = some qv ∧ RelV qv.1 en.key ∧ RelV qv.2 en.val ∧ h'.get? b = some { cls := .type "tuple", data := .seq #[en.key, en.val] } := by
    intro j b hj
    obtain ⟨en, he, hg⟩ := hG.pairs j b hj
    have hjl : j < nk.length := by have := (List.getElem?_eq_some_iff.mp hj).1; omega
    obtain ⟨qv, e2, g1, g2, g3, g4, g5⟩ := er.get (i := j) (List.getElem?_eq_getElem hjl)
    rw [Array.getElem?_toList, he] at g2
    cases g2
    exact ⟨qv, en, g1, g4, g5, hg⟩
  have hob : (h'.push { cls := .type "list", data := .seq (as.map Value.ref).toArray }).get? h'.objs.size = some (seqObj "list" (as.map Value.ref).toArray 0) := Heap.get?_push_size _ rfl
  have kb : ∀ b o, s.heap.get? b = some o → (h'.push { cls := .type "list", data := .seq (as.map Value.ref).toArray }).get? b = some o := fun b o e => Heap.get?_push_of_some _ (hk b o e)
  have ne0 : ∀ b o, h'.get? b = some o → b ≠ h'.objs.size := fun b o e => Nat.ne_of_lt (Heap.lt_size e)
  generalize hh2 : h'.push { cls := .type "list", data := .seq (as.map Value.ref).toArray } = h2 at hob kb ⊢
  have ka : ∀ b o, h'.get? b = some o → h2.get? b = some o := fun b o e => by rw [← hh2]; exact Heap.get?_push_of_some _ e
  have I0 : Inv X pins σ H { s with heap := h2, toks := tk } := I.kept (t' := tk) kb
  have rd : ∀ (j : Nat) (b : Addr) (d : PyData), as[j]? = some b → ds[j]? = some d → Reads h2 (.ref b) d [] := by
    intro j b d hj hdj
    obtain ⟨qv, en, g1, g2, g3, hg⟩ := pr j b hj
    obtain ⟨x, y, rfl, d1, d2, n1, n2, _⟩ := hdat j qv d g1 hdj
    obtain ⟨a1, r1⟩ := Dp.reads I0 _ _ _ d1 g2
    obtain ⟨a2, r2⟩ := Dp.reads I0 _ _ _ d2 g3
    have e1 := reads_nil _ _ _ r1 n1
    have e2 := reads_nil _ _ _ r2 n2
    subst e1 e2
    have ra : ReadsAll h2 [en.key, en.val] [x, y] ([] ++ ([] ++ [])) := .cons r1 (.cons r2 .nil)
    exact .tuple (ka b _ hg) rfl rfl (by simpa using ra)
  have e : PySem.W.EachIs (fun v (b : BI) => ∃ (a : Addr) (j : Nat), v = Value.ref a ∧ as[j]? = some a ∧ bs[j]? = some b) (as.map Value.ref) bs := each_ix _ _ (by rw [List.length_map]; omega) fun j u b hu hb => by
    rw [List.getElem?_map] at hu
    cases hj : as[j]? with
    | none => rw [hj] at hu; cases hu
    | some c => rw [hj] at hu; cases hu; exact ⟨c, j, rfl, hj, hb⟩
  have er2 : PySem.W.EachIs (fun v (b : BI) => ∃ cs, Reads h2 v b.1 cs ∧ h'.objs.size ∉ cs) (as.map Value.ref) bs := each_ix _ _ (by rw [List.length_map]; omega) fun j u b hu hb => by
    rw [List.getElem?_map] at hu
    cases hj : as[j]? with
    | none => rw [hj] at hu; cases hu
    | some c =>
      rw [hj] at hu; cases hu
      rw [hbs, List.getElem?_zip_eq_some] at hb
      exact ⟨[], rd j c b.1 hj hb.1, by simp⟩
  have hmap : bs.map (·.1) = ds := by rw [hbs]; exact List.map_fst_zip (by omega)
  refine PySem.W.list_sort_data (A := X.A.in1) (s := { s with heap := h2, toks := tk }) (enc := fun b : BI => b.1) (vs := as.map Value.ref) hob e er2 (by rw [hmap]; exact hal) (by rw [hmap]; exact hsk) (by rw [hbl]; exact hz) (fun b hb => ?_) fun out hlo hE => ?_
  · obtain ⟨j, hj⟩ := List.mem_iff_getElem?.mp hb
    rw [hbs, List.getElem?_zip_eq_some] at hj
    obtain ⟨x, y, e1, _, _, _, _, hdp⟩ := hdat j b.2 b.1 hj.2 hj.1
    show X.A.in1.units + 1 + b.1.depth < cLine
    have : X.A.in1.units = X.A.units + 1 := rfl
    omega
  · obtain ⟨zs, z1, z2, z3⟩ := each_addr hE
    rw [hbs] at z1
    have kF : ∀ b o, b ≠ h'.objs.size → h2.get? b = some o → (sortedHeap h2 h'.objs.size (as.map Value.ref) (List.toArray out)).get? b = some o := fun b o hb e => (PyProof.Rows.sortedHeap_old hb (Heap.lt_size e)).trans e
    have kS : ∀ b o, s.heap.get? b = some o → (sortedHeap h2 h'.objs.size (as.map Value.ref) (List.toArray out)).get? b = some o := fun b o e => kF b o (ne0 _ _ (hk b o e)) (kb b o e)
    obtain ⟨eF, heF⟩ := PyProof.Rows.sortedHeap_at (vs := as.map Value.ref) (out := List.toArray out) hob
    have I1 : Inv X pins σ H { s with heap := sortedHeap h2 h'.objs.size (as.map Value.ref) (List.toArray out), toks := tk } := I.kept (t' := tk) kS
    have hn0 : H h'.objs.size = none := I.hok.fresh (Nat.le_of_lt hlt)
    have hlen : (zs.map fun z => V.ref z.2).length ≤ sizeLine := by
      have := congrArg List.length z2
      rw [List.length_map] at this
      rw [List.length_map, ← this, hlo, hbl]
      exact hz
    have rv : Vals (zs.map fun z => V.ref z.2) (List.toArray out).toList := by
      rw [List.toList_toArray, z2]
      exact vals_maps (fun z : BI × Addr => V.ref z.2) (fun z => Value.ref z.2) zs fun _ _ => rfl
    have I2 : Inv X pins σ (upd H h'.objs.size (.lst (zs.map fun z => V.ref z.2))) { s with heap := sortedHeap h2 h'.objs.size (as.map Value.ref) (List.toArray out), toks := tk } :=
      I1.take (h' := sortedHeap h2 h'.objs.size (as.map Value.ref) (List.toArray out)) (t' := tk) (fun b ob _ e => e) (I.fpOk (Nat.le_of_lt hlt) hn0) ⟨hlen, (List.toArray out).toList, eF, rv, heF⟩
    have nd : as.Nodup := List.Pairwise.imp (fun h => Nat.ne_of_lt h) hG.rise
    have hnone : ∀ b ∈ as, s.heap.objs.size ≤ b ∧ H b = none ∧ b ≠ h'.objs.size := fun b hb => by
      have hbl : s.heap.objs.size ≤ b := Nat.le_of_lt (hG.above b hb)
      exact ⟨hbl, I.hok.fresh hbl, Nat.ne_of_lt (hG.there hb)⟩
    obtain ⟨H2, I3, g, qt⟩ := DX.takeT (P := fun b vs => ∃ (j : Nat) (qv : V × V), as[j]? = some b ∧ kv[j]? = some qv ∧ vs = [qv.1, qv.2]) I as _ I2 nd fun b hb => by
      obtain ⟨j, hj⟩ := List.mem_iff_getElem?.mp hb
      obtain ⟨qv, en, g1, g2, g3, hg⟩ := pr j b hj
      obtain ⟨k1, k2, k3⟩ := hnone b hb
      refine ⟨k1, by rw [upd_ne k3]; exact k2, [qv.1, qv.2], ⟨j, qv, hj, g1, rfl⟩, fun H3 => ⟨(by rw [sizeLine_eq]; show 2 ≤ 16777216; omega), [en.key, en.val], .cons g2 (.cons g3 .nil), ⟨_, kF _ _ (ne0 _ _ hg) (ka _ _ hg), rfl, 0, rfl⟩⟩⟩
    have gr : ∀ b o, H b = some o → H2 b = some o := fun b o e => g b o (by rw [upd_ne (ne_of_none e hn0)]; exact e)
    refine ⟨.ref h'.objs.size, H2, I3, rfl, q H2 h'.objs.size zs gr hn0 (fun z hz => ?_) z1 (g _ _ upd_same) fun z hz => ?_⟩
    · obtain ⟨j, j1, j2⟩ := z3 z hz
      exact (hnone z.2 (List.mem_of_getElem? j1)).2
    · obtain ⟨j, j1, j2⟩ := z3 z hz
      obtain ⟨vs, ⟨i, qv, i1, i2, ev⟩, hH⟩ := qt z.2 (List.mem_of_getElem? j1)
      have eij : i = j := (List.getElem?_inj (List.getElem?_eq_some_iff.mp i1).1 nd).mp (i1.trans j1.symm)
      subst eij
      rw [hbs, List.getElem?_zip_eq_some] at j2
      rw [i2] at j2
      have := Option.some.inj j2.2
      rw [ev, this] at hH
      exact hH
def rItemsD (K : PySem.W.Frag) (w : World) : V → List V → Hp → VK → Prop := fun x xs H Q => ∃ (a : Addr) (nk : List NestedKey) (kv : List (V × V)), x = .ref a ∧ xs = [] ∧ DcV K w H a nk kv ∧ ∀ p, H p = none → Q (.ref p) (upd H p (DX.itemsO p a))
theorem mt_itemsD {X : Cx} : MtR X "dict.items" (rItemsD X.K X.w) := by
  intro pins s σ H x xs v us Q I rx rxs h
  obtain ⟨a, nk, kv, rfl, rfl, hd, q⟩ := h
  cases rx
  cases rxs
  obtain ⟨lo, hz, es, ⟨o, ep, ho, hx, hdd, hl, _, _⟩, er⟩ := hd.dx I
  refine DT.callItems (es := es) (ep := ep) lo ⟨o, ho, hx, hdd⟩ ?_
  have hf : H s.heap.objs.size = none := I.hok.fresh (Nat.le_refl _)
  exact ⟨.ref s.heap.objs.size, upd H s.heap.objs.size (DX.itemsO s.heap.objs.size a), I.laid (t' := s.toks) (fun b u e => Heap.get?_push_of_some _ e) (Nat.le_refl _) (DX.itemsO_ok (Heap.get?_push_size _ rfl)), rfl, q _ hf⟩
def tBMD0 (K : PySem.W.Frag) (w : World) (r : V → List V → Hp → VK → Prop) (to : TE) : TE := fun σ H Q => to σ H fun x H1 => (∃ a nk kv, x = .ref a ∧ DcV K w H1 a nk kv) ∧ r x [] H1 Q
theorem pe_bmD0 {X : Cx} {id : String} {name : Str} {r : V → List V → Hp → VK → Prop} {o : Expr} {to : TE} {apos cpos : Pos} (slot : Slot "dict" name id) (hty : typeOf (.builtin id) = pure (.type "method_descriptor")) (hm : MtR X id r) (ho : PE X o to)
    (hbase : attributeBase o name X.env (eval o X.env) = eval o X.env) (hline : (apos.endLine == cpos.line) = true) :
    PE X (.Call (.Attribute o name apos) [] [] cpos) (tBMD0 X.K X.w r to) := by
  refine ⟨fun pins s σ H Q I h => ?_⟩
  refine wpAny_Call_method0_late hbase hline (thn (ho.run pins s σ H _ I h) fun v s1 ⟨x, H1, I1, r1, ⟨a, nk, kv, ex, hd⟩, q1⟩ => ?_)
  subst ex
  obtain rfl : v = Value.ref a := r1
  obtain ⟨lo, hz, es', dx, er⟩ := hd.dx I1
  have dx2 := dx
  obtain ⟨ob, ep, hob, hx, _⟩ := dx2
  exact ⟨"dict", id, F.plainAttrs_dict, slot, hty, dx.typeIs, fun b e => by cases e; exact ⟨ob, hob, hx.2.1⟩, Calls.callWith_builtin rfl (PySem.evalArgs_none (hm pins s1 σ H1 (.ref a) [] (.ref a) [] Q I1 rfl .nil q1))⟩
/-- what sorted makes of a dict's items -/
noncomputable def sSortIt (g : VE) : SE := fun env => match g env with
  | .ok m => match dicM m with
    | some (ks, ms) => if ms.all isD = true ∧ (∀ x ∈ ks, (toPy x).plain = true ∧ noL (toPy x) = true) ∧ (∀ x ∈ ms.map unD, (toPy x).plain = true ∧ noL (toPy x) = true) ∧ SrtOk (List.zipWith pairD ks (ms.map unD)) then .ok (.lst ((srtD (List.zipWith pairD ks (ms.map unD))).map .d), env) else .bad
    | none => .bad
  | _ => .bad
theorem zip3 {α β γ : Type} (f : α → β → γ) : ∀ (xs : List α) (ys : List β), List.zipWith f xs ys = (List.zip xs ys).map fun p => f p.1 p.2
  | [], _ => by simp
  | _ :: _, [] => by simp
  | x :: xs, y :: ys => by simp [zip3 f xs ys]
section
variable {G : Gx} {X : Cx} {W : WX'} {e : Expr} {g : VE} {p apos cpos pos : Pos}
theorem xe_sortIt (hu : X.A.units + 64 < cLine) (hc : X.calm = true) (hK : G.K = X.K) (hw : G.w = X.w) (hm : X.mg "sorted" = none) (ha : PVs G X e g) (hv : bootBuiltins "sorted" = some (.builtin "sorted") := by decide +kernel) (hg : Gl X "sorted" := by rfl)
    (hst : starEach [.Call (.Attribute e "items" apos) [] [] cpos] X.env = (false, eval (.Call (.Attribute e "items" apos) [] [] cpos) X.env) :: starEach [] X.env := by rfl) (hpl : (backTo pos (starEach [] X.env)).any (·.1) = false := by rfl)
    (hbase : attributeBase e "items" X.env (eval e X.env) = eval e X.env := by rfl) (hline : (apos.endLine == cpos.line) = true := by rfl) :
    PEs G X W (.Call (.Name "sorted" p) [.Call (.Attribute e "items" apos) [] [] cpos] [] pos) (sSortIt g) := by
  obtain ⟨t, q, h⟩ := ha.ex
  refine ⟨_, pe_callB (cr_sortItD hc hu) hg hm hv (pa_cons (pe_bmD0 F.slot_dict_items F.type_dict_items mt_itemsD q hbase hline) pa_nil hst) (by decide) (by decide) hst hpl, SEok.mk' fun Z H σ env S Q gd k => ?_⟩
  unfold sSortIt at k
  have h1 := h Z H σ env S (fun x H1 => (∃ a nk kv, x = .ref a ∧ DcV X.K X.w H1 a nk kv) ∧ rItemsD X.K X.w x [] H1 fun y H2 => rSortItD X.K X.w [y] H2 Q) gd
  cases e1 : g env with
  | bad => rw [e1] at k; exact k.elim
  | exc x e' => rw [e1] at k; exact k.elim
  | ok m =>
    rw [e1] at k h1
    simp only at k h1
    cases e3 : dicM m with
    | none => rw [e3] at k; exact k.elim
    | some pr =>
      obtain ⟨ks, ms⟩ := pr
      rw [e3] at k
      simp only at k
      by_cases ok : ms.all isD = true ∧ (∀ x ∈ ks, (toPy x).plain = true ∧ noL (toPy x) = true) ∧ (∀ x ∈ ms.map unD, (toPy x).plain = true ∧ noL (toPy x) = true) ∧ SrtOk (List.zipWith pairD ks (ms.map unD))
      case neg => rw [if_neg ok] at k; exact k.elim
      rw [if_pos ok] at k
      obtain ⟨hD, hk1, hk2, hso⟩ := ok
      refine h1 fun v T hT r => ?_
      obtain ⟨a, nk, kv, rfl, dv, hks, r1, T0, hT0, r2⟩ := dic_rep gd.zh r e3
      have rv := allD_rep r2 hD
      rw [← hK, ← hw]
      refine ⟨⟨a, nk, kv, rfl, dv⟩, a, nk, kv, rfl, rfl, dv, fun pv hpv => ?_⟩
      -- the heap with the view
      have st1 := Stp.new (o := DX.itemsO pv a) gd.zh hpv (fun _ => False)
      have zh1 : Same Z (upd H pv (DX.itemsO pv a)) := st1.zh
      have rm1 : RepM G Z (upd H pv (DX.itemsO pv a)) m T (.ref a) := RepM.mono (Same.refl _) m T T _ (fun _ z => z) (fun b o sb eo => by rw [upd_ne (ne_of_none eo hpv)]; exact eo) r
      obtain ⟨a', nk', kv', ea, dv', hks', r1', T0', hT0', r2'⟩ := dic_rep zh1 rm1 e3
      obtain rfl : a = a' := by injection ea
      have rv' := allD_rep r2' hD
      obtain ⟨vs, hvs⟩ : ∃ vs, vs = ms.map unD := ⟨_, rfl⟩
      rw [← hvs] at rv' hk2 hso k
      have lk : ks.length = kv'.length := by have := r1'.len; simpa using this
      have lv : vs.length = kv'.length := by have := rv'.len; simpa using this
      have hat : ∀ (j : Nat) (qv : V × V) (x y : D), kv'[j]? = some qv → ks[j]? = some x → vs[j]? = some y → RepD G Z x qv.1 ∧ RepD G Z y qv.2 := fun j qv x y h1 h2 h3 => by
        have z1 := repDs_zip r1' (x, qv.1) (List.mem_of_getElem? (i := j) (by rw [List.getElem?_zip_eq_some]; exact ⟨h2, by rw [List.getElem?_map, h1]; rfl⟩))
        have z2 := repDs_zip rv' (y, qv.2) (List.mem_of_getElem? (i := j) (by rw [List.getElem?_zip_eq_some]; exact ⟨h3, by rw [List.getElem?_map, h1]; rfl⟩))
        exact ⟨z1, z2⟩
      have hds : (List.zipWith pairD ks vs).map toPy = (List.zip ks vs).map fun p => PyData.tuple [toPy p.1, toPy p.2] := by
        rw [zip3, List.map_map]
        apply List.map_congr_left
        intro p _
        simp [pairD, toPy, toPys]
      refine ⟨pv, a, nk', kv', (List.zipWith pairD ks vs).map toPy, rfl, upd_same, dv', by simp; omega, fun j qv d hj hd => ?_, hso.2.1, hso.2.2, fun H' l zs ext hl hzs z1 hl2 hz2 => ?_⟩
      · rw [hds, List.getElem?_map] at hd
        cases hz : (List.zip ks vs)[j]? with
        | none => rw [hz] at hd; cases hd
        | some xy =>
          rw [hz] at hd
          cases hd
          rw [List.getElem?_zip_eq_some] at hz
          obtain ⟨q1, q2⟩ := hat j qv xy.1 xy.2 hj hz.1 hz.2
          have p1 := hk1 _ (List.mem_of_getElem? hz.1)
          have p2 := hk2 _ (List.mem_of_getElem? hz.2)
          have hmem : pairD xy.1 xy.2 ∈ List.zipWith pairD ks vs := by
            rw [zip3]
            exact List.mem_map.mpr ⟨xy, List.mem_of_getElem? (i := j) (by rw [List.getElem?_zip_eq_some]; exact hz), rfl⟩
          have hdp := (hso.1 _ hmem).2
          refine ⟨toPy xy.1, toPy xy.2, rfl, RepD.dp zh1 _ _ p1.1 q1, RepD.dp zh1 _ _ p2.1 q2, p1.2, p2.2, ?_⟩
          simpa [pairD, toPy, toPys] using hdp
      · -- what is told
        have extH : ∀ b o, H b = some o → H' b = some o := fun b o eo => ext b o (by rw [upd_ne (ne_of_none eo hpv)]; exact eo)
        have hnH : ∀ b, (upd H pv (DX.itemsO pv a)) b = none → H b = none := fun b hb => by
          by_cases e : b = pv
          · rw [e]; exact hpv
          · rw [upd_ne e] at hb; exact hb
        obtain ⟨Z', hZ'⟩ : ∃ Z' : Hp, Z' = fun b => if ∃ z ∈ zs, z.2 = b then H' b else Z b := ⟨_, rfl⟩
        have zin : ∀ z ∈ zs, Z' z.2 = H' z.2 := fun z hz => by rw [hZ']; exact if_pos ⟨z, hz, rfl⟩
        have zout : ∀ b, (¬ ∃ z ∈ zs, z.2 = b) → Z' b = Z b := fun b hb => by rw [hZ']; exact if_neg hb
        have hzz : Same Z Z' := fun b u hb => by
          by_cases e : ∃ z ∈ zs, z.2 = b
          · obtain ⟨z, hz, rfl⟩ := e
            have := hnH _ (hzs z hz).1
            rw [gd.zh _ _ hb] at this; cases this
          · rw [zout b e]; exact hb
        have hzh : Same Z' H' := fun b u hb => by
          by_cases e : ∃ z ∈ zs, z.2 = b
          · obtain ⟨z, hz, rfl⟩ := e
            rw [zin z hz] at hb; exact hb
          · rw [zout b e] at hb; exact extH _ _ (gd.zh _ _ hb)
        have hzn : ∀ b, Z' b ≠ none → Z b ≠ none ∨ H b = none := fun b hb => by
          by_cases e : ∃ z ∈ zs, z.2 = b
          · obtain ⟨z, hz, rfl⟩ := e
            exact .inr (hnH _ (hzs z hz).1)
          · rw [zout b e] at hb; exact .inl hb
        have hlH := hnH l hl
        have stU : Stp Z H (U S) Z' H' (fun b => U S b ∨ b = l) := ⟨hzz, hzh, fun b o eo _ => extH b o eo, fun b hb => hb.elim .inl fun e => .inr (e ▸ hlH), fun b hb => (hzn b hb).elim .inl fun z => .inr (.inr z)⟩
        have st0 : Stp Z H (fun _ => False) Z' H' (fun _ => False) := ⟨hzz, hzh, fun b o eo _ => extH b o eo, fun b hb => hb.elim, fun b hb => (hzn b hb).elim .inl fun z => .inr (.inr z)⟩
        have g2 := (gd.move st0 fun _ _ z => z).1
        obtain ⟨xs, hxs⟩ : ∃ xs, xs = List.zipWith pairD ks vs := ⟨_, rfl⟩
        rw [← hxs] at z1 k
        have lx : xs.length = kv'.length := by rw [hxs, List.length_zipWith]; omega
        obtain ⟨L, hL⟩ : ∃ L : List (D × (V × V)), L = List.zip xs kv' := ⟨_, rfl⟩
        have eL : List.zip (xs.map toPy) kv' = L.map fun p => (toPy p.1, p.2) := by
          rw [hL]
          have key : ∀ (xs : List D) (kv : List (V × V)), List.zip (xs.map toPy) kv = (List.zip xs kv).map fun p => (toPy p.1, p.2) := by
            intro xs
            induction xs with
            | nil => intro kv; simp
            | cons x xs ih => intro kv; cases kv with
              | nil => simp
              | cons q kv => simp [ih]
          exact key xs kv'
        obtain ⟨ML, hML⟩ : ∃ ML, ML = L.mergeSort (PySem.W.dataLe false fun p : D × (V × V) => toPy p.1) := ⟨_, rfl⟩
        have z1' : zs.map (·.1) = ML.map fun p => (toPy p.1, p.2) := by
          rw [z1, eL, hML, List.map_mergeSort]
          intro a _ b _
          rfl
        have hsr : srtD xs = ML.map (·.1) := by
          have e0 : L.map (·.1) = xs := by rw [hL]; exact zip_fst lx
          rw [← e0]
          unfold srtD
          rw [hML, List.map_mergeSort]
          intro a _ b _
          rfl
        have lz : ML.length = zs.length := by have := congrArg List.length z1'; simpa using this.symm
        have hrep : ∀ p ∈ List.zip ML zs, RepD G Z' p.1.1 (.ref p.2.2) := fun p hp => by
          obtain ⟨i, hi⟩ := List.mem_iff_getElem?.mp hp
          rw [List.getElem?_zip_eq_some] at hi
          have e0 := congrArg (fun l => l[i]?) z1'
          simp only [List.getElem?_map, hi.1, hi.2, Option.map_some] at e0
          have e1 := Option.some.inj e0
          have hm : p.1 ∈ L := by have := List.mem_of_getElem? hi.1; rw [hML] at this; exact (List.mergeSort_perm _ _).mem_iff.mp this
          rw [hL] at hm
          obtain ⟨j, hj⟩ := List.mem_iff_getElem?.mp hm
          rw [List.getElem?_zip_eq_some] at hj
          have hx := hj.1
          rw [hxs] at hx
          obtain ⟨x, y, hx1, hy1, exy⟩ := zw_get hx
          obtain ⟨q1, q2⟩ := hat j p.1.2 x y hj.2 hx1 hy1
          have hzm := List.mem_of_getElem? hi.2
          have ht := hz2 p.2 hzm
          rw [e1] at ht
          rw [exy]
          simp only [pairD, RepD, RepDs]
          refine ⟨p.2.2, [p.1.2.1, p.1.2.2], rfl, SqT.of ?_, p.1.2.1, [p.1.2.2], rfl, RepD.mono hzz _ _ q1, p.1.2.2, [], rfl, RepD.mono hzz _ _ q2, rfl⟩
          rw [zin p.2 hzm]
          exact ht
        have hRR : RepDs G Z' (srtD xs) (zs.map fun z => V.ref z.2) := by
          have h0 := repDs_of (G := G) (Z := Z') (ps := (List.zip ML zs).map fun p => (p.1.1, V.ref p.2.2)) fun q hq => by
            obtain ⟨p, hp, rfl⟩ := List.mem_map.mp hq
            exact hrep p hp
          rw [List.map_map, List.map_map] at h0
          have f1 : (List.zip ML zs).map ((fun x : D × V => x.1) ∘ fun p => (p.1.1, V.ref p.2.2)) = srtD xs := by
            rw [hsr]
            have := congrArg (List.map fun p : D × (V × V) => p.1) (zip_fst lz)
            rw [List.map_map] at this
            exact this
          have f2 : (List.zip ML zs).map ((fun x : D × V => x.2) ∘ fun p => (p.1.1, V.ref p.2.2)) = zs.map fun z => V.ref z.2 := by
            have := congrArg (List.map fun z : BI × Addr => V.ref z.2) (zip_snd lz)
            rw [List.map_map] at this
            exact this
          rw [f1, f2] at h0
          exact h0
        have hlz : Z' l = none := by
          have hnot : ¬ ∃ z ∈ zs, z.2 = l := fun ⟨z, hz, e⟩ => (hzs z hz).2 e
          rw [zout l hnot]
          cases q : Z l with
          | none => rfl
          | some u => rw [gd.zh _ _ q] at hlH; cases hlH
        refine k (.ref l) Z' H' S (fun b => b = l) stU g2 ⟨?_, fun b hb => ?_, fun b hb => ?_, fun b hb hS => ?_⟩
        · simp only [RepM]
          exact ⟨l, _, fun _ => False, rfl, rfl, fun z => z, fun _ z => z.elim, hl2, RepDs.toM hRR⟩
        · rw [hb, hl2]; exact fun z => nomatch z
        · rw [hb]; exact hlz
        · rw [hb] at hS
          exact gd.al' l hS hlH
end
end FL

set_option maxHeartbeats 2000000
/-! FLWL: d[e] = x, the key any value. -/
namespace FL
open PySem L2 Classical
noncomputable def ssSetDE (i : Nat) (gk : SE) (f : SE) : SS := fun env => match f env with
  | .ok (m, e1) => match getE e1 i, gk e1 with
    | .ok _, .ok (mk, e2) => match getE e2 i, mk with
      | .ok (.dic ks ms), .d x => if keyOk x ∧ ks.length < sizeLine then .ok (.nx, e2.set i (some (putD ks ms x m))) else .bad
      | _, _ => .bad
    | _, _ => .bad
  | .exc x e => .exc x e
  | .bad => .bad
theorem xs_setDE {G : Gx} {X : Cx} {W : WX'} {P : Px} {x : Str} {ie e : Expr} {gk : SE} {f : SE} {p ps pos : Pos} (i : Nat) (hu : X.A.units + 64 < cLine) (hK : G.K = X.K) (hw : G.w = X.w) (hi : PEs G X W ie gk) (he : PEs G X W e f)
    (hN : X.N[i]? = some x := by rfl) (hv : Vis X.env.scope x := by first | exact Or.inl rfl | exact Or.inr (Or.inl rfl) | exact Or.inr (Or.inr rfl)) (hd : (x == ("__debug__" : Str)) = false := by decide) (hcd : (x == ("__classdict__" : Str)) = false := by decide)
    (ha : ∀ v, assign (.Subscript (.Name x p) ie ps) X.env v = (do
      let ov ← holding [v] (eval (.Name x p) X.env)
      let iv ← holding [v, ov] (eval ie X.env)
      standAt ps
      holding [v, ov, iv] (setItem ov iv v)
      release [v, ov, iv] []) := by intro _; rfl)
    (hs : swapsWithSole [.Subscript (.Name x p) ie ps] e pos.line X.env = pure false := by rfl) (hsw : swappedStores [.Subscript (.Name x p) ie ps] e X.env = pure none := by rfl)
    (h1 : (assignEach [.Subscript (.Name x p) ie ps] X.env).map (·.2) = [assign (.Subscript (.Name x p) ie ps) X.env] := by rfl) :
    PS' G X W P (.Assign [.Subscript (.Name x p) ie ps] e pos) (ssSetDE i gk f) := by
  obtain ⟨t, q, h⟩ := he.ex
  obtain ⟨ti, qi, hi⟩ := hi.ex
  refine ⟨_, ps_asg q (pg_sub (pe_var hN hv hd hcd) qi (set_dct hu) ha) hs hsw h1, fun D Z H σ env S gd k => ?_⟩
  unfold ssSetDE at k
  refine h.use gd ?_
  cases e1 : f env with
  | bad => rw [e1] at k; exact k.elim
  | exc x' e' => rw [e1] at k; exact fun cls d Z' H' S' hx s' g' => k cls d σ Z' H' S' hx Fix.refl s' g'
  | ok pr =>
    obtain ⟨m, env1⟩ := pr
    rw [e1] at k
    simp only at k
    intro v Z' H' S' T s' g' l
    rcases getE_cases env1 i with ⟨mx0, e20⟩ | e20
    case inr => rw [e20] at k; exact k.elim
    rw [e20] at k
    cases e3 : gk env1 with
    | bad => rw [e3] at k; exact k.elim
    | exc _ _ => rw [e3] at k; exact k.elim
    | ok pk =>
    obtain ⟨mi, env2⟩ := pk
    rw [e3] at k
    simp only at k
    rcases getE_cases env2 i with ⟨mx, e2⟩ | e2
    case inr => rw [e2] at k; exact k.elim
    rw [e2] at k
    cases mx with
    | dic ks ms =>
        cases mi with
        | d di =>
          simp only at k
          by_cases ok : keyOk di ∧ ks.length < sizeLine
          case neg => rw [if_neg ok] at k; exact k.elim
          rw [if_pos ok] at k
          obtain ⟨⟨kk, hkk, dk⟩, hz⟩ := ok
          -- the slot's value is there before the key is told
          have hslot : ∃ w0, σ[i]? = some (some w0) := by obtain ⟨v0, hv0, _⟩ := g'.rep i mx0 (getE_ok e20); exact ⟨v0, hv0⟩
          obtain ⟨w0, hw00⟩ := hslot
          refine ⟨w0, hw00, ?_⟩
          have h2 := hi Z' H' σ env1 S' (fun iv H2 => rDSet X.K X.w w0 iv v H2 fun H3 => D.nx σ H3) g'
          rw [e3] at h2
          refine h2 fun iv Z2 H2 S2 T2 s2 gg2 lk => ?_
          have ri : RepD G Z2 di iv := lk.free
          have l := l.step s2
          have sAll : Stp Z H (U S) Z2 H2 (fun a => (U S2 a ∨ T2 a) ∨ T a) := s'.trans (s2.frame T)
          obtain ⟨w, hw0, g1, l1⟩ := gg2.take (getE_ok e2)
          rw [hw00] at hw0
          obtain rfl : w0 = w := Option.some.inj (Option.some.inj hw0)
          obtain ⟨a, nk, kv, T0, rfl, sa, nt, ts, ho, hk, r1, r2, za⟩ := dic_own (G := G) (v := w0) ⟨l1.rep, l1.al, l1.zf, fun _ _ z => z⟩
          have d0 : ∀ b, T b → ¬ S2 i b := fun b z w' => l.dj b z (.inl ⟨i, w'⟩)
          have hlen : ks.length = kv.length := by have := r1.len; simpa using this
          have hmd : dicM (.dic ks ms) = some (ks, ms) := rfl
          obtain ⟨a2, nk2, kv2, ea, dv, _⟩ := dic_rep (G := G) gg2.zh l1.rep hmd
          cases ea
          have e5 := dv.at_
          have dv2 : DcV G.K G.w H2 a nk kv := by
            refine ⟨ho, fun i k p hk' hp => ?_, hk.nd, hk.dp⟩
            obtain ⟨x, hx, rx⟩ := getD_some r1 (i := i) (v := p.1) (by rw [List.getElem?_map, hp]; rfl)
            obtain ⟨y, hy, hyk⟩ := nkDs_get hk.eq hk'
            rw [hx] at hy
            cases hy
            exact nk_dp gg2.zh rx hyk
          have fin : ∀ {nk' : List NestedKey} {kv' : List (V × V)} {ks' : List FL.D} {ms' : List M}, KsOk ks' nk' → RepDs G Z2 ks' (kv'.map fun p => p.1) → RepMs G Z2 H2 ms' (fun b => T0 b ∨ T b) (kv'.map fun p => p.2) → putD ks ms di m = .dic ks' ms' → D.nx σ (upd H2 a (DO X.w a nk' kv')) := by
            intro nk' kv' ks' ms' h1 h2 h3 h4
            rw [h4] at k
            obtain ⟨s, l2⟩ := dic_become (G := G) (Ts := T) gg2.zh sa za (fun z => z.elim nt fun z => d0 a z sa) h1 h2 h3 (fun b z => z.elim (fun z => .inl (ts b z)) .inr) l1.al l.al l1.zf l.zf
            obtain ⟨g2, d2⟩ := g1.move s fun b z w => w.elim (fun w => l1.dj b w z) fun w => l.dj b w (.inl (Rs.wipe_le z))
            have g3 := g2.back (i := i) (m := .dic ks' ms') (v := .ref a) ⟨l2.rep, l2.al, l2.zf, fun b z w => d2 b w (.inl z)⟩ hw00
            rw [show (env2.set i none).set i (some (M.dic ks' ms')) = env2.set i (some (.dic ks' ms')) from List.set_set ..] at g3
            rw [← hw]
            refine k σ Z2 _ _ Fix.refl (sAll.trans (((s.frame (U (S2.set i fun _ => False))).from fun b z => ?_).weak fun b z => ?_)) g3
            · rcases z with (z | z) | z
              · exact .inl (.inl ⟨i, z⟩)
              · exact .inr z
              · exact .inl (.inl (Rs.wipe_le z))
            · rcases Rs.set_sub z with z | z
              · exact .inr z
              · exact .inl (.inl z)
          rw [← hK]
          rw [hw] at dv2
          refine ⟨a, nk, kv, kk, rfl, dv2, nk_dp gg2.zh ri hkk, dk, by rw [← hlen]; exact hz, fun hn => ?_, fun j hj => ?_⟩
          · refine fin (hk.add hkk dk hn) (ks' := ks ++ [di]) (ms' := ms ++ [m]) ?_ ?_ ?_
            · rw [List.map_append]
              exact RepDs.app r1 (show RepDs G Z2 [di] [iv] from by simp only [RepDs]; exact ⟨iv, [], rfl, ri, rfl⟩)
            · rw [List.map_append]
              exact RepMs.app r2 (RepMs.one l.rep) (fun _ z => .inl z) (fun _ z => .inr z) fun b z w => d0 b w (ts b z)
            · unfold putD
              cases hf : dFind ks di with
              | none => rfl
              | some j => exact absurd (List.mem_of_getElem? (dFind_some hk hkk hf).1) hn
          · refine fin hk (ks' := ks) (ms' := ms.set j m) (by rw [modify_fst]; exact r1) (by rw [modify_snd]; exact RepMs.set j r2 l.rep fun b z w => d0 b z (ts b w)) ?_
            unfold putD
            cases hf : dFind ks di with
            | none => exact absurd (List.mem_of_getElem? hj) (dFind_none hk hkk hf)
            | some j2 =>
              have := get_unique hk.nd (dFind_some hk hkk hf).1 hj
              subst this
              rfl
        | _ => exact k.elim
    | _ => exact k.elim
end FL

set_option maxHeartbeats 4000000
namespace K43
open PySem L2 FL Classical
abbrev top (i : Nat) : Stmt := PySem.Challenge.pw_flipwright_k43_prices_by_rows.main.body.getD i (.Pass ⟨0, 0, 0, 0⟩)
abbrev st_divisor : Stmt := top 4
abbrev N_divisor : List Str := ["one", "other", "here", "there", "rest"]
theorem sc_divisor : FnScope N_divisor ["one", "other"] (defScope st_divisor) := ⟨rfl, rfl, rfl, by decide +kernel, rfl, by decide +kernel, by decide +kernel⟩
abbrev st_fraction : Stmt := top 5
abbrev N_fraction : List Str := ["top", "bottom", "by"]
theorem sc_fraction : FnScope N_fraction ["top", "bottom"] (defScope st_fraction) := ⟨rfl, rfl, rfl, by decide +kernel, rfl, by decide +kernel, by decide +kernel⟩
abbrev st_times : Stmt := top 6
abbrev N_times : List Str := ["one", "other"]
theorem sc_times : FnScope N_times ["one", "other"] (defScope st_times) := ⟨rfl, rfl, rfl, by decide +kernel, rfl, by decide +kernel, by decide +kernel⟩
abbrev st_under : Stmt := top 7
abbrev N_under : List Str := ["one", "other"]
theorem sc_under : FnScope N_under ["one", "other"] (defScope st_under) := ⟨rfl, rfl, rfl, by decide +kernel, rfl, by decide +kernel, by decide +kernel⟩
abbrev st_shares_of : Stmt := top 9
abbrev N_shares_of : List Str := ["draw", "whole", "number", "weight"]
theorem sc_shares_of : FnScope N_shares_of ["draw"] (defScope st_shares_of) := ⟨rfl, rfl, rfl, by decide +kernel, rfl, by decide +kernel, by decide +kernel⟩
abbrev st_skipped : Stmt := top 11
abbrev N_skipped : List Str := ["draws", "low", "high", "top", "bottom", "draw", "weights", "number", "weight"]
theorem sc_skipped : FnScope N_skipped ["draws", "low", "high"] (defScope st_skipped) := ⟨rfl, rfl, rfl, by decide +kernel, rfl, by decide +kernel, by decide +kernel⟩
abbrev st_own_site : Stmt := top 12
abbrev N_own_site : List Str := ["entry", "draws"]
theorem sc_own_site : FnScope N_own_site ["entry", "draws"] (defScope st_own_site) := ⟨rfl, rfl, rfl, by decide +kernel, rfl, by decide +kernel, by decide +kernel⟩
abbrev st_worths : Stmt := top 13
abbrev N_worths : List Str := ["entry", "parts", "draws", "found", "worth", "share", "child", "between"]
theorem sc_worths : FnScope N_worths ["entry", "parts", "draws", "found"] (defScope st_worths) := ⟨rfl, rfl, rfl, by decide +kernel, rfl, by decide +kernel, by decide +kernel⟩
abbrev st_prices : Stmt := top 14
abbrev N_prices : List Str := ["parts", "draws", "found", "entry", "best", "worth"]
theorem sc_prices : FnScope N_prices ["parts", "draws"] (defScope st_prices) := ⟨rfl, rfl, rfl, by decide +kernel, rfl, by decide +kernel, by decide +kernel⟩
abbrev st__law_cell_at : Stmt := top 16
abbrev N__law_cell_at : List Str := ["_law_script", "_law_k"]
theorem sc__law_cell_at : FnScope N__law_cell_at ["_law_script", "_law_k"] (defScope st__law_cell_at) := ⟨rfl, rfl, rfl, by decide +kernel, rfl, by decide +kernel, by decide +kernel⟩
abbrev st__law_whole : Stmt := top 17
abbrev N__law_whole : List Str := ["_law_found"]
theorem sc__law_whole : FnScope N__law_whole ["_law_found"] (defScope st__law_whole) := ⟨rfl, rfl, rfl, by decide +kernel, rfl, by decide +kernel, by decide +kernel⟩
abbrev st__law_mix : Stmt := top 18
abbrev N__law_mix : List Str := ["_law_cell", "_law_k", "_law_figure"]
theorem sc__law_mix : FnScope N__law_mix ["_law_cell", "_law_k"] (defScope st__law_mix) := ⟨rfl, rfl, rfl, by decide +kernel, rfl, by decide +kernel, by decide +kernel⟩
abbrev st__law_same : Stmt := top 19
abbrev N__law_same : List Str := ["_law_found", "_law_due_here", "_law_k"]
theorem sc__law_same : FnScope N__law_same ["_law_found", "_law_due_here"] (defScope st__law_same) := ⟨rfl, rfl, rfl, by decide +kernel, rfl, by decide +kernel, by decide +kernel⟩
abbrev st__law_word : Stmt := top 20
abbrev N__law_word : List Str := ["_law_figure", "_law_letters", "_law_word_here", "_law_k"]
theorem sc__law_word : FnScope N__law_word ["_law_figure"] (defScope st__law_word) := ⟨rfl, rfl, rfl, by decide +kernel, rfl, by decide +kernel, by decide +kernel⟩
abbrev st__law_outcome : Stmt := top 21
abbrev N__law_outcome : List Str := ["_law_cell", "_law_fields", "_law_k"]
theorem sc__law_outcome : FnScope N__law_outcome ["_law_cell"] (defScope st__law_outcome) := ⟨rfl, rfl, rfl, by decide +kernel, rfl, by decide +kernel, by decide +kernel⟩
abbrev st__law_divisor : Stmt := top 22
abbrev N__law_divisor : List Str := ["_law_one", "_law_other"]
theorem sc__law_divisor : FnScope N__law_divisor ["_law_one", "_law_other"] (defScope st__law_divisor) := ⟨rfl, rfl, rfl, by decide +kernel, rfl, by decide +kernel, by decide +kernel⟩
abbrev st__law_is_share : Stmt := top 23
abbrev N__law_is_share : List Str := ["_law_found"]
theorem sc__law_is_share : FnScope N__law_is_share ["_law_found"] (defScope st__law_is_share) := ⟨rfl, rfl, rfl, by decide +kernel, rfl, by decide +kernel, by decide +kernel⟩
abbrev st__law_widths : Stmt := top 24
abbrev N__law_widths : List Str := ["_law_script", "_law_cell", "_law_some"]
theorem sc__law_widths : FnScope N__law_widths ["_law_script"] (defScope st__law_widths) := ⟨rfl, rfl, rfl, by decide +kernel, rfl, by decide +kernel, by decide +kernel⟩
abbrev st__law_draws : Stmt := top 25
abbrev N__law_draws : List Str := ["_law_script", "_law_widths_here", "_law_draws_here", "_law_turn", "_law_cell", "_law_draw", "_law_k", "_law_figure"]
theorem sc__law_draws : FnScope N__law_draws ["_law_script", "_law_widths_here"] (defScope st__law_draws) := ⟨rfl, rfl, rfl, by decide +kernel, rfl, by decide +kernel, by decide +kernel⟩
abbrev st__law_site : Stmt := top 26
abbrev N__law_site : List Str := ["_law_entry"]
theorem sc__law_site : FnScope N__law_site ["_law_entry"] (defScope st__law_site) := ⟨rfl, rfl, rfl, by decide +kernel, rfl, by decide +kernel, by decide +kernel⟩
abbrev st__law_lists : Stmt := top 27
abbrev N__law_lists : List Str := ["_law_script", "_law_widths_here", "_law_parts", "_law_k", "_law_cell", "_law_turn", "_law_some", "_law_children", "_law_place", "_law_j"]
theorem sc__law_lists : FnScope N__law_lists ["_law_script", "_law_widths_here"] (defScope st__law_lists) := ⟨rfl, rfl, rfl, by decide +kernel, rfl, by decide +kernel, by decide +kernel⟩
abbrev st__law_copy : Stmt := top 28
abbrev N__law_copy : List Str := ["_law_parts", "_law_entry", "_law_children"]
theorem sc__law_copy : FnScope N__law_copy ["_law_parts"] (defScope st__law_copy) := ⟨rfl, rfl, rfl, by decide +kernel, rfl, by decide +kernel, by decide +kernel⟩
abbrev st__law_lead : Stmt := top 29
abbrev N__law_lead : List Str := ["_law_parts", "_law_place", "_law_row", "_law_entry"]
theorem sc__law_lead : FnScope N__law_lead ["_law_parts", "_law_place", "_law_row"] (defScope st__law_lead) := ⟨rfl, rfl, rfl, by decide +kernel, rfl, by decide +kernel, by decide +kernel⟩
abbrev st__law_rows : Stmt := top 30
abbrev N__law_rows : List Str := ["_law_widths_here", "_law_rows_here", "_law_many", "_law_longer", "_law_row", "_law_turn"]
theorem sc__law_rows : FnScope N__law_rows ["_law_widths_here"] (defScope st__law_rows) := ⟨rfl, rfl, rfl, by decide +kernel, rfl, by decide +kernel, by decide +kernel⟩
abbrev st__law_due : Stmt := top 31
abbrev N__law_due : List Str := ["_law_parts", "_law_place", "_law_rows_here", "_law_draws_here", "_law_site_here", "_law_best", "_law_row", "_law_whole_here", "_law_k", "_law_weight", "_law_pair"]
theorem sc__law_due : FnScope N__law_due ["_law_parts", "_law_place", "_law_rows_here", "_law_draws_here"] (defScope st__law_due) := ⟨rfl, rfl, rfl, by decide +kernel, rfl, by decide +kernel, by decide +kernel⟩
abbrev st_law : Stmt := top 32
abbrev N_law : List Str := ["_law_script", "_law_widths_here", "_law_draws_here", "_law_parts", "_law_rows_here", "_law_handed", "_law_also", "_law_found", "_law_place", "_law_kept", "_law_draw", "_law_best", "_law_whole_here"]
theorem sc_law : FnScope N_law ["_law_script"] (defScope st_law) := ⟨rfl, rfl, rfl, by decide +kernel, rfl, by decide +kernel, by decide +kernel⟩
noncomputable def wc_divisor_1 : SB := sbE (sV (v2 oNe (vN 3) (vC (.int 0))))
noncomputable def wb_divisor_1 : SS := ssSeq (ssSet 4 (sV (v2 oMod (vN 2) (vN 3))))
  (ssSeq (ssSet 2 (sN 3))
  (ssSet 3 (sN 4)))
noncomputable def b_divisor : SS := ssSeq (ssSet 2 (sV (vB bAbs (vaCons (vN 0) (vaNil)))))
  (ssSeq (ssSet 3 (sV (vB bAbs (vaCons (vN 1) (vaNil)))))
  (ssSeq (ssWhile wc_divisor_1 wb_divisor_1)
  (ssRet (sT 2))))
noncomputable def F_divisor : FS := runF 5 2 [] b_divisor
noncomputable def b_fraction : SS := ssSeq (ssIf (sbE (sV (v2 oEq (vN 1) (vC (.int 0))))) (ssRaise "NoShare") (ssNil))
  (ssSeq (ssSet 2 (sCall F_divisor [none, none] (saCons (sN 0) (saCons (sN 1) (saNil)))))
  (ssSeq (ssIf (sbE (sV (v2 oLt (vN 1) (vC (.int 0))))) (ssSet 2 (sV (v2 oSub (vC (.int 0)) (vN 2)))) (ssNil))
  (ssRet (sTup (saCons (sV (v2 oFdiv (vN 0) (vN 2))) (saCons (sV (v2 oFdiv (vN 1) (vN 2))) (saNil)))))))
noncomputable def F_fraction : FS := runF 3 2 [] b_fraction
noncomputable def b_times : SS := ssRet (sCall F_fraction [none, none] (saCons (sV (v2 oMul (vIx (vN 0) (vC (.int 0))) (vIx (vN 1) (vC (.int 0))))) (saCons (sV (v2 oMul (vIx (vN 0) (vC (.int 1))) (vIx (vN 1) (vC (.int 1))))) (saNil))))
noncomputable def F_times : FS := runF 2 2 [] b_times
noncomputable def b_under : SS := ssRet (sV (v2 oLt (v2 oMul (vIx (vN 0) (vC (.int 0))) (vIx (vN 1) (vC (.int 1)))) (v2 oMul (vIx (vN 1) (vC (.int 0))) (vIx (vN 0) (vC (.int 1))))))
noncomputable def F_under : FS := runF 2 2 [] b_under
noncomputable def b_shares_of : SS := ssSeq (ssSet 1 (sB bSum (saCons (sLcW [2, 3] [0] (iwN 0) (sgTup 2 (sgCons (sgN 2) (sgCons (sgN 3) (sgNil)))) sbYes (sN 3)) (saNil))))
  (ssRet (sLcW [2, 3] [0] (iwN 0) (sgTup 2 (sgCons (sgN 2) (sgCons (sgN 3) (sgNil)))) sbYes (sCall F_fraction [none, none] (saCons (sN 3) (saCons (sN 1) (saNil))))))
noncomputable def F_shares_of : FS := runF 4 1 [] b_shares_of
noncomputable def fg_skipped_1 : SG := sgN 5
noncomputable def fb_skipped_1 : SS := ssSeq (ssSet 6 (sLcW [7, 8] [5] (iwN 5) (sgTup 2 (sgCons (sgN 7) (sgCons (sgN 8) (sgNil)))) sbYes (sN 8)))
  (ssSeq (ssSet 3 (sV (v2 oMul (vN 3) (vB bMaxL (vaCons (vN 6) vaNil)))))
  (ssSet 4 (sV (v2 oMul (vN 4) (vB bSum (vaCons (vN 6) (vaNil)))))))
noncomputable def b_skipped : SS := ssSeq (ssSet 3 (sV (vC (.int 1))))
  (ssSeq (ssSet 4 (sV (vC (.int 1))))
  (ssSeq (ssFor (siQ (sSl (vN 0) (voI (vN 1)) (voI (vN 2)))) fg_skipped_1 fb_skipped_1)
  (ssRet (sCall F_fraction [none, none] (saCons (sN 3) (saCons (sN 4) (saNil)))))))
noncomputable def F_skipped : FS := runF 9 3 [] b_skipped
noncomputable def b_own_site : SS := ssSeq (ssIf (sbE (sV (v2 oEq (vIx (vN 0) (vC (.int 0))) (vC (.str (Str.ofString "leaf")))))) (ssRet (sV (vB bLen (vaCons (vN 1) (vaNil))))) (ssNil))
  (ssRet (sV (vIx (vN 0) (vC (.int 1)))))
noncomputable def F_own_site : FS := runF 2 2 [] b_own_site
noncomputable def fg_worths_1 : SG := sgTup 2 (sgCons (sgN 5) (sgCons (sgN 6) (sgNil)))
noncomputable def fb_worths_1 : SS := ssSeq (ssSet 7 (sCall F_skipped [none, none, none] (saCons (sN 2) (saCons (sV (v2 oAdd (vIx (vN 0) (vC (.int 1))) (vC (.int 1)))) (saCons (sCall F_own_site [none, none] (saCons (sV (vIx (vN 1) (vN 6))) (saCons (sN 2) (saNil)))) (saNil))))))
  (ssDrop (sMeth isLst 4 mAppend (saCons (sCall F_times [none, none] (saCons (sCall F_times [none, none] (saCons (sN 5) (saCons (sN 7) (saNil)))) (saCons (sV (vIx (vN 3) (vN 6))) (saNil)))) (saNil))))
noncomputable def b_worths : SS := ssSeq (ssSet 4 (sLst (saNil)))
  (ssSeq (ssFor (siZip (saCons (sCall F_shares_of [none] (saCons (sV (vIx (vN 2) (vIx (vN 0) (vC (.int 1))))) (saNil))) (saCons (sV (vIx (vN 0) (vC (.int 2)))) (saNil)))) fg_worths_1 fb_worths_1)
  (ssRet (sT 4)))
noncomputable def F_worths : FS := runF 8 4 [] b_worths
noncomputable def fg_prices_2 : SG := sgN 5
noncomputable def fb_prices_2 : SS := ssIf (sbE (sCall F_under [none, none] (saCons (sN 4) (saCons (sN 5) (saNil))))) (ssSet 4 (sN 5)) (ssNil)
noncomputable def fg_prices_1 : SG := sgN 3
noncomputable def fb_prices_1 : SS := ssIf (sbE (sV (v2 oEq (vIx (vN 3) (vC (.int 0))) (vC (.str (Str.ofString "leaf")))))) (ssDrop (sMeth isLst 2 mAppend (saCons (sTup (saCons (sV (vB bInt (vaCons (v2 oIsNot (vIx (vN 3) (vC (.int 1))) (vC .non)) (vaNil)))) (saCons (sV (vC (.int 1))) (saNil)))) (saNil)))) (ssSeq (ssSet 4 (sTup (saCons (sV (vC (.int 0))) (saCons (sV (vC (.int 1))) (saNil)))))
  (ssSeq (ssFor (siQ (sCall F_worths [none, none, none, some 2] (saCons (sN 3) (saCons (sN 0) (saCons (sN 1) (saCons (sT 2) (saNil))))))) fg_prices_2 fb_prices_2)
  (ssDrop (sMeth isLst 2 mAppend (saCons (sN 4) (saNil))))))
noncomputable def b_prices : SS := ssSeq (ssSet 2 (sLst (saNil)))
  (ssSeq (ssForW [0] (iwN 0) fg_prices_1 fb_prices_1)
  (ssRet (sT 2)))
noncomputable def F_prices : FS := runF 6 2 [] b_prices
noncomputable def b__law_cell_at : SS := ssSeq (ssIf (sbE (sV (v2 oLt (vN 1) (vB bLen (vaCons (vN 0) (vaNil)))))) (ssRet (sV (vIx (vN 0) (vN 1)))) (ssNil))
  (ssRet (sV (vC (.int 0))))
noncomputable def F__law_cell_at : FS := runF 2 2 [] b__law_cell_at
noncomputable def b__law_whole : SS := ssRet (sAndV (sV (vIsi "int" (vN 0))) (sNotV (sV (vIsi "bool" (vN 0)))))
noncomputable def F__law_whole : FS := runF 1 1 [] b__law_whole
noncomputable def b__law_mix : SS := ssSeq (ssSet 2 (sV (v2 oMod (v2 oMul (v2 oAdd (v2 oAdd (v2 oAdd (v2 oMod (vN 0) (vC (.int 2147483647))) (v2 oMul (v2 oMul (vC (.int 7919)) (vN 1)) (vN 1))) (vN 1)) (vC (.int 1))) (vC (.int 48271))) (vC (.int 2147483629)))))
  (ssRet (sV (v2 oMod (v2 oMul (vN 2) (vN 2)) (vC (.int 2147483587)))))
noncomputable def F__law_mix : FS := runF 3 2 [] b__law_mix
noncomputable def fg__law_same_1 (rF : FS) : SG := sgN 2
noncomputable def fb__law_same_1 (rF : FS) : SS := ssIf (sbNot (sbE (sCall rF [none, none] (saCons (sV (vIx (vN 0) (vN 2))) (saCons (sV (vIx (vN 1) (vN 2))) (saNil)))))) (ssRet (sV (vC (.bl false)))) (ssNil)
noncomputable def b__law_same (rF : FS) : SS := ssSeq (ssIf (sbOr (sbE (sV (vIsi "tuple" (vN 1)))) (sbE (sV (vIsi "list" (vN 1))))) (ssSeq (ssIf (sbOr (sbE (sV (v2 oNe (vIsi "tuple" (vN 0)) (vIsi "tuple" (vN 1))))) (sbE (sV (v2 oNe (vIsi "list" (vN 0)) (vIsi "list" (vN 1)))))) (ssRet (sV (vC (.bl false)))) (ssNil))
  (ssSeq (ssIf (sbE (sV (v2 oNe (vB bLen (vaCons (vN 0) (vaNil))) (vB bLen (vaCons (vN 1) (vaNil)))))) (ssRet (sV (vC (.bl false)))) (ssNil))
  (ssSeq (ssFor (siR1 (saCons (sV (vB bLen (vaCons (vN 1) (vaNil)))) (saNil))) (fg__law_same_1 rF) (fb__law_same_1 rF))
  (ssRet (sV (vC (.bl true))))))) (ssNil))
  (ssSeq (ssIf (sbE (sV (v2 oIs (vN 1) (vC .non)))) (ssRet (sV (v2 oIs (vN 0) (vC .non)))) (ssNil))
  (ssSeq (ssIf (sbE (sV (vIsi "int" (vN 1)))) (ssRet (sAndV (sCall F__law_whole [none] (saCons (sN 0) (saNil))) (sV (v2 oEq (vN 0) (vN 1))))) (ssNil))
  (ssRet (sAndV (sV (vIsi "str" (vN 0))) (sV (v2 oEq (vN 0) (vN 1)))))))
noncomputable def F__law_same : Nat → FS
  | 0 => fun _ => .bad
  | n + 1 => runF 3 2 [] (b__law_same (F__law_same n))
noncomputable def fg__law_word_1 : SG := sgN 3
noncomputable def fb__law_word_1 : SS := ssSet 2 (sV (v2 oAdd (vN 2) (vIx (vN 1) (v2 oMod (v2 oFdiv (vN 0) (v2 oAdd (vC (.int 8)) (v2 oMul (vN 3) (vN 3)))) (vC (.int 26))))))
noncomputable def b__law_word : SS := ssSeq (ssSet 1 (sV (vC (.str (Str.ofString "abcdefghijklmnopqrstuvwxyz")))))
  (ssSeq (ssSet 2 (sV (vC (.str (Str.ofString "")))))
  (ssSeq (ssFor (siR1 (saCons (sV (v2 oAdd (vC (.int 1)) (v2 oMod (vN 0) (vC (.int 8))))) (saNil))) fg__law_word_1 fb__law_word_1)
  (ssRet (sT 2))))
noncomputable def F__law_word : FS := runF 4 1 [] b__law_word
noncomputable def fg__law_outcome_1 : SG := sgN 2
noncomputable def fb__law_outcome_1 : SS := ssSetDE 1 (sCall F__law_word [none] (saCons (sCall F__law_mix [none, none] (saCons (sN 0) (saCons (sN 2) (saNil)))) (saNil))) (s2 oMod (s2 oMul (sCall F__law_mix [none, none] (saCons (sN 0) (saCons (sV (v2 oAdd (vN 2) (vC (.int 5)))) (saNil)))) (sCall F__law_mix [none, none] (saCons (sN 0) (saCons (sV (v2 oAdd (vN 2) (vC (.int 9)))) (saNil))))) (sV (v2 oPow (vC (.int 10)) (vC (.int 12)))))
noncomputable def b__law_outcome : SS := ssSeq (ssIf (sbE (sV (v2 oEq (v2 oMod (vN 0) (vC (.int 7))) (vC (.int 0))))) (ssRet (sV (vC .non))) (ssNil))
  (ssSeq (ssIf (sbE (sV (v2 oLt (v2 oMod (vN 0) (vC (.int 7))) (vC (.int 3))))) (ssRet (sV (v2 oMod (v2 oFdiv (vN 0) (vC (.int 7))) (vC (.int 4))))) (ssNil))
  (ssSeq (ssIf (sbE (sV (v2 oLt (v2 oMod (vN 0) (vC (.int 7))) (vC (.int 5))))) (ssRet (sV (v2 oMod (v2 oMul (v2 oFdiv (vN 0) (vC (.int 7))) (vN 0)) (v2 oPow (vC (.int 10)) (vC (.int 12)))))) (ssNil))
  (ssSeq (ssSet 1 (sDict0))
  (ssSeq (ssFor (siR1 (saCons (sV (v2 oAdd (vC (.int 1)) (v2 oMod (v2 oFdiv (vN 0) (vC (.int 7))) (vC (.int 3))))) (saNil))) fg__law_outcome_1 fb__law_outcome_1)
  (ssSeq (ssIf (sbE (sV (v2 oEq (v2 oMod (vN 0) (vC (.int 7))) (vC (.int 5))))) (ssSetD 1 (vC (.str (Str.ofString "a"))) (sV (v2 oMod (v2 oFdiv (vN 0) (vC (.int 21))) (vC (.int 2))))) (ssNil))
  (ssRet (sTupOf (sSortIt (vN 1)))))))))
noncomputable def F__law_outcome : FS := runF 3 1 [] b__law_outcome
noncomputable def wc__law_divisor_1 : SB := sbE (sV (v2 oGt (vN 1) (vC (.int 0))))
noncomputable def wb__law_divisor_1 : SS := ssPar [0, 1] (saCons (sN 1) (saCons (sV (v2 oMod (vN 0) (vN 1))) (saNil)))
noncomputable def b__law_divisor : SS := ssSeq (ssWhile wc__law_divisor_1 wb__law_divisor_1)
  (ssRet (sT 0))
noncomputable def F__law_divisor : FS := runF 2 2 [0, 1] b__law_divisor
noncomputable def b__law_is_share : SS := ssSeq (ssIf (sbOr (sbNot (sbE (sV (vIsi "tuple" (vN 0))))) (sbOr (sbE (sV (v2 oNe (vB bLen (vaCons (vN 0) (vaNil))) (vC (.int 2))))) (sbOr (sbNot (sbE (sCall F__law_whole [none] (saCons (sV (vIx (vN 0) (vC (.int 0)))) (saNil))))) (sbNot (sbE (sCall F__law_whole [none] (saCons (sV (vIx (vN 0) (vC (.int 1)))) (saNil)))))))) (ssRet (sV (vC (.bl false)))) (ssNil))
  (ssRet (sAndV (sV (v2 oGe (vIx (vN 0) (vC (.int 0))) (vC (.int 0)))) (sAndV (sV (v2 oGt (vIx (vN 0) (vC (.int 1))) (vC (.int 0)))) (s2v oEq (sCall F__law_divisor [none, none] (saCons (sV (vIx (vN 0) (vC (.int 0)))) (saCons (sV (vIx (vN 0) (vC (.int 1)))) (saNil)))) (vC (.int 1))))))
noncomputable def F__law_is_share : FS := runF 1 1 [] b__law_is_share
noncomputable def b__law_widths : SS := ssSeq (ssSet 1 (sCall F__law_cell_at [none, none] (saCons (sN 0) (saCons (sV (vC (.int 1))) (saNil)))))
  (ssSeq (ssSet 2 (sFz (sLst (saCons (sLst (saCons (sV (vC (.int 2))) (saCons (sV (v2 oAdd (vC (.int 1)) (v2 oMod (vN 1) (vC (.int 2))))) (saCons (sV (vC (.int 1))) (saCons (sV (v2 oAdd (vC (.int 1)) (v2 oMod (v2 oFdiv (vN 1) (vC (.int 2))) (vC (.int 2))))) (saNil)))))) (saCons (sLst (saCons (sV (vC (.int 1))) (saCons (sV (vC (.int 2))) (saCons (sV (vC (.int 4))) (saCons (sV (vC (.int 1))) (saNil)))))) (saCons (sLst (saCons (sV (vC (.int 3))) (saCons (sV (vC (.int 1))) (saCons (sV (vC (.int 2))) (saNil))))) (saCons (sLst (saCons (sV (vC (.int 1))) (saCons (sV (vC (.int 6))) (saNil)))) (saCons (sLst (saCons (sV (vC (.int 2))) (saCons (sV (vC (.int 2))) (saCons (sV (vC (.int 2))) (saNil))))) (saCons (sLst (saCons (sV (v2 oAdd (vC (.int 1)) (v2 oMod (vN 1) (vC (.int 6))))) (saNil))) (saNil))))))))))
  (ssRet (s2n oIdx 2 (s2 oMod (sCall F__law_mix [none, none] (saCons (sN 1) (saCons (sV (vC (.int 1))) (saNil)))) (sV (vC (.int 6)))))))
noncomputable def F__law_widths : FS := runF 3 1 [] b__law_widths
noncomputable def fg__law_draws_2 : SG := sgN 6
noncomputable def fb__law_draws_2 : SS := ssSeq (ssSet 7 (sCall F__law_mix [none, none] (saCons (sN 4) (saCons (sN 6) (saNil)))))
  (ssDrop (sMeth isLst 5 mAppend (saCons (sTup (saCons (sV (v2 oAdd (v2 oMod (vN 4) (vC (.int 89))) (vN 6))) (saCons (s2 oAdd (sV (vC (.int 1))) (s2v oIdx (sLst (saCons (sV (v2 oMod (vN 7) (vC (.int 3)))) (saCons (sV (v2 oMod (v2 oMul (vN 7) (vN 7)) (v2 oPow (vC (.int 10)) (vC (.int 6))))) (saNil)))) (v2 oMod (v2 oFdiv (vN 4) (vC (.int 89))) (vC (.int 2))))) (saNil)))) (saNil))))
noncomputable def fg__law_draws_1 : SG := sgN 3
noncomputable def fb__law_draws_1 : SS := ssSeq (ssSet 4 (sCall F__law_mix [none, none] (saCons (sCall F__law_cell_at [none, none] (saCons (sN 0) (saCons (sV (vC (.int 0))) (saNil)))) (saCons (sV (v2 oAdd (vN 3) (vC (.int 60)))) (saNil)))))
  (ssSeq (ssSet 5 (sLst (saNil)))
  (ssSeq (ssFor (siR1 (saCons (sV (vIx (vN 1) (vN 3))) (saNil))) fg__law_draws_2 fb__law_draws_2)
  (ssDrop (sMeth isLst 2 mAppend (saCons (sN 5) (saNil))))))
noncomputable def b__law_draws : SS := ssSeq (ssSet 2 (sLst (saNil)))
  (ssSeq (ssFor (siR1 (saCons (sV (vB bLen (vaCons (vN 1) (vaNil)))) (saNil))) fg__law_draws_1 fb__law_draws_1)
  (ssRet (sT 2)))
noncomputable def F__law_draws : FS := runF 8 2 [] b__law_draws
noncomputable def b__law_site : SS := ssSeq (ssIf (sbE (sV (v2 oEq (vIx (vN 0) (vC (.int 0))) (vC (.str (Str.ofString "leaf")))))) (ssRet (sV (vC (.int 100)))) (ssNil))
  (ssRet (sV (vIx (vN 0) (vC (.int 1)))))
noncomputable def F__law_site : FS := runF 1 1 [] b__law_site
noncomputable def fg__law_lists_1 : SG := sgN 3
noncomputable def fb__law_lists_1 : SS := ssSeq (ssSet 4 (sCall F__law_mix [none, none] (saCons (sV (vIx (vN 0) (vN 3))) (saCons (sN 3) (saNil)))))
  (ssSeq (ssSet 5 (s2 oMod (sCall F__law_mix [none, none] (saCons (sN 4) (saCons (sV (vC (.int 1))) (saNil)))) (sV (vB bLen (vaCons (vN 1) (vaNil))))))
  (ssSeq (ssSet 6 (sLc [8] (siR1 (saCons (sV (vB bLen (vaCons (vN 2) (vaNil)))) (saNil))) (sgN 8) (sbE (s2v oGt (sCall F__law_site [none] (saCons (sV (vIx (vN 2) (vN 8))) (saNil))) (vN 5))) (sN 8)))
  (ssIf (sbOr (sbE (sV (v2 oEq (vB bLen (vaCons (vN 6) (vaNil))) (vC (.int 0))))) (sbE (sV (v2 oEq (v2 oMod (vN 4) (vC (.int 4))) (vC (.int 0)))))) (ssDrop (sMeth isLst 2 mAppend (saCons (sTup (saCons (sV (vC (.str (Str.ofString "leaf")))) (saCons (sCall F__law_outcome [none] (saCons (sV (v2 oFdiv (vN 4) (vC (.int 4)))) (saNil))) (saNil)))) (saNil)))) (ssSeq (ssSet 7 (sLc [9] (siR1 (saCons (sV (vIx (vN 1) (vN 5))) (saNil))) (sgN 9) sbYes (s2n oIdx 6 (s2 oMod (sCall F__law_mix [none, none] (saCons (sN 4) (saCons (sV (v2 oAdd (vC (.int 2)) (vN 9))) (saNil)))) (sV (vB bLen (vaCons (vN 6) (vaNil))))))))
  (ssDrop (sMeth isLst 2 mAppend (saCons (sTup (saCons (sV (vC (.str (Str.ofString "ask")))) (saCons (sN 5) (saCons (sN 7) (saNil))))) (saNil))))))))
noncomputable def b__law_lists : SS := ssSeq (ssSet 2 (sLst (saNil)))
  (ssSeq (ssFor (siR2 (saCons (sV (vC (.int 2))) (saCons (sV (vB bMin2 (vaCons (vB bLen (vaCons (vN 0) (vaNil))) (vaCons (vC (.int 62)) vaNil)))) (saNil)))) fg__law_lists_1 fb__law_lists_1)
  (ssRet (sT 2)))
noncomputable def F__law_lists : FS := runF 10 2 [] b__law_lists
noncomputable def b__law_copy : SS := ssRet (sLcW [1] [0] (iwN 0) (sgN 1) sbYes (s2m mAdd (sTup (saCons (sV (vIx (vN 1) (vC (.int 0)))) (saCons (sV (vIx (vN 1) (vC (.int 1)))) (saNil)))) (sTupOf (sLc [2] (siQ (sSl (vN 1) (voI (vC (.int 2))) (voNo))) (sgN 2) sbYes (sListV (vN 2))))))
noncomputable def F__law_copy : FS := runF 3 1 [] b__law_copy
noncomputable def wc__law_lead_1 : SB := sbE (sV (v2 oEq (vIx (vN 3) (vC (.int 0))) (vC (.str (Str.ofString "ask")))))
noncomputable def wb__law_lead_1 : SS := ssSet 3 (sV (vIx (vN 0) (vIx (vIx (vN 3) (vC (.int 2))) (vIx (vN 2) (vIx (vN 3) (vC (.int 1)))))))
noncomputable def b__law_lead : SS := ssSeq (ssSet 3 (sV (vIx (vN 0) (vN 1))))
  (ssSeq (ssWhile wc__law_lead_1 wb__law_lead_1)
  (ssRet (sV (vIx (vN 3) (vC (.int 1))))))
noncomputable def F__law_lead : FS := runF 4 3 [] b__law_lead
noncomputable def fg__law_rows_3 : SG := sgN 5
noncomputable def fb__law_rows_3 : SS := ssDrop (sMeth isLst 3 mAppend (saCons (sFz (s2m mAdd (sN 4) (sLst (saCons (sN 5) (saNil))))) (saNil)))
noncomputable def fg__law_rows_2 : SG := sgN 4
noncomputable def fb__law_rows_2 : SS := ssFor (siR1 (saCons (sN 2) (saNil))) fg__law_rows_3 fb__law_rows_3
noncomputable def fg__law_rows_1 : SG := sgN 2
noncomputable def fb__law_rows_1 : SS := ssSeq (ssSet 3 (sLst (saNil)))
  (ssSeq (ssForW [1] (iwN 1) fg__law_rows_2 fb__law_rows_2)
  (ssSet 1 (sN 3)))
noncomputable def b__law_rows : SS := ssSeq (ssSet 1 (sFz (sLst (saCons (sLst (saNil)) (saNil)))))
  (ssSeq (ssForW [0] (iwN 0) fg__law_rows_1 fb__law_rows_1)
  (ssRet (sT 1)))
noncomputable def F__law_rows : FS := runF 6 1 [] b__law_rows
noncomputable def fg__law_due_2 : SG := sgN 8
noncomputable def fb__law_due_2 : SS := ssSet 9 (sV (v2 oMul (vN 9) (vIx (vIx (vIx (vN 3) (vN 8)) (vIx (vN 6) (vN 8))) (vC (.int 1)))))
noncomputable def fg__law_due_1 : SG := sgN 6
noncomputable def fb__law_due_1 : SS := ssSeq (ssSet 9 (sV (vC (.int 1))))
  (ssSeq (ssFor (siR2 (saCons (sN 4) (saCons (sV (vB bLen (vaCons (vN 3) (vaNil)))) (saNil)))) fg__law_due_2 fb__law_due_2)
  (ssIf (sbE (s2v oIsNot (sCall F__law_lead [none, none, none] (saCons (sN 0) (saCons (sN 1) (saCons (sN 6) (saNil))))) (vC .non))) (ssSet 5 (sV (vB bMax2 (vaCons (vN 5) (vaCons (vN 9) vaNil))))) (ssNil)))
noncomputable def fg__law_due_3 : SG := sgN 8
noncomputable def fb__law_due_3 : SS := ssSet 7 (s2 oMul (sN 7) (sB bSum (saCons (sLc [10] (siQ (sV (vIx (vN 3) (vN 8)))) (sgN 10) sbYes (sV (vIx (vN 10) (vC (.int 1))))) (saNil))))
noncomputable def b__law_due : SS := ssSeq (ssSet 4 (sB bMin2 (saCons (sCall F__law_site [none] (saCons (sV (vIx (vN 0) (vN 1))) (saNil))) (saCons (sV (vB bLen (vaCons (vN 3) (vaNil)))) (saNil)))))
  (ssSeq (ssSet 5 (sV (vC (.int 0))))
  (ssSeq (ssForW [2] (iwN 2) fg__law_due_1 fb__law_due_1)
  (ssSeq (ssSet 7 (sV (vC (.int 1))))
  (ssSeq (ssFor (siR2 (saCons (sN 4) (saCons (sV (vB bLen (vaCons (vN 3) (vaNil)))) (saNil)))) fg__law_due_3 fb__law_due_3)
  (ssRet (sTup (saCons (sN 5) (saCons (sN 7) (saNil)))))))))
noncomputable def F__law_due : FS := runF 11 4 [] b__law_due
noncomputable def fg_law_1 : SG := sgN 8
noncomputable def fb_law_1 : SS := ssSeq (ssAsg (sCall F__law_due [none, none, none, none] (saCons (sN 3) (saCons (sN 8) (saCons (sN 4) (saCons (sN 2) (saNil)))))) (sgTup 2 (sgCons (sgN 11) (sgCons (sgN 12) (sgNil)))))
  (ssIf (sbOr (sbNot (sbE (sCall F__law_is_share [none] (saCons (sV (vIx (vN 7) (vN 8))) (saNil))))) (sbE (sV (v2 oNe (v2 oMul (vIx (vIx (vN 7) (vN 8)) (vC (.int 0))) (vN 12)) (v2 oMul (vN 11) (vIx (vIx (vN 7) (vN 8)) (vC (.int 1)))))))) (ssRet (sV (vC (.bl false)))) (ssNil))
noncomputable def b_law : SS := ssSeq (ssSet 1 (sCall F__law_widths [none] (saCons (sN 0) (saNil))))
  (ssSeq (ssSet 2 (sFz (sCall F__law_draws [none, none] (saCons (sN 0) (saCons (sN 1) (saNil))))))
  (ssSeq (ssSet 3 (sFz (sCall F__law_lists [none, none] (saCons (sN 0) (saCons (sN 1) (saNil))))))
  (ssSeq (ssSet 4 (sFz (sCall F__law_rows [none] (saCons (sN 1) (saNil)))))
  (ssSeq (ssSet 5 (sFz (sCall F__law_copy [none] (saCons (sN 3) (saNil)))))
  (ssSeq (ssSet 6 (sLcW [10] [2] (iwN 2) (sgN 10) sbYes (sListV (vN 10))))
  (ssSeq (ssSet 7 (sCall F_prices [none, none] (saCons (sN 5) (saCons (sN 6) (saNil)))))
  (ssSeq (ssIf (sbOr (sbNot (sbE (sV (vIsi "list" (vN 7))))) (sbOr (sbE (sV (v2 oNe (vB bLen (vaCons (vN 7) (vaNil))) (vB bLen (vaCons (vN 3) (vaNil)))))) (sbOr (sbE (sV (v2 oNe (vN 5) (vN 3)))) (sbE (sV (v2 oNe (vN 6) (vN 2))))))) (ssRet (sV (vC (.bl false)))) (ssNil))
  (ssSeq (ssFor (siR1 (saCons (sV (vB bLen (vaCons (vN 3) (vaNil)))) (saNil))) fg_law_1 fb_law_1)
  (ssSeq (ssSet 9 (sListV (vN 7)))
  (ssSeq (ssDrop (sMeth isLst 7 mClear saNil))
  (ssRet (sCall (F__law_same 60) [none, none] (saCons (sFz (sCall F_prices [none, none] (saCons (sN 5) (saCons (sN 6) (saNil))))) (saCons (sN 9) (saNil)))))))))))))))
noncomputable def F_law : FS := runF 13 1 [] b_law
structure ExcG (G : Gx) (mg : Str → Option Value) (nm : String) (x : Str) : Prop where
  gC : mg x = some (.ref (G.ad nm))
  xP : PySem.W.excIn G.K (G.ad nm) [.type "ValueError", .type "Exception", .type "BaseException", .type "object"] "ValueError.__new__" = true
  kP : PySem.W.keepIn G.K (.ref (G.ad nm)) = true
  bP : PySem.W.subIn G.K (.ref (G.ad nm)) (.type "BaseException") = some true
  tP : PySem.W.typeIn G.K (.ref (G.ad nm)) = some (.type "type")
theorem ExcG.at {G : Gx} {X : Cx} {nm : String} {x : Str} (h : ExcG G X.mg nm x) (hK : G.K = X.K := by rfl) : ExcA G X nm x := by
  obtain ⟨h1, h2, h3, h4, h5⟩ := h
  rw [hK] at h2 h3 h4 h5
  exact ⟨h1, h2, h3, h4, h5⟩
structure Tx (G : Gx) (mg : Str → Option Value) : Prop where
  z_len : mg "len" = none
  z_abs : mg "abs" = none
  z_bool : mg "bool" = none
  z_int : mg "int" = none
  z_isinstance : mg "isinstance" = none
  z_list : mg "list" = none
  z_max : mg "max" = none
  z_min : mg "min" = none
  z_range : mg "range" = none
  z_sorted : mg "sorted" = none
  z_str : mg "str" = none
  z_sum : mg "sum" = none
  z_tuple : mg "tuple" = none
  z_zip : mg "zip" = none
  e_NoShare : ExcG G mg "NoShare" "NoShare"
theorem a_divisor {P : Program} {G : Gx} {mg : Str → Option Value} {base : Heap} {f : Addr} {fd : FuncData} (T : Tx G mg) (Ff : Fun G.K "divisor" "divisor" st_divisor f fd) (hm : mg "divisor" = some (.ref f)) : FnA P G.w G mg base 1 "divisor" 2 F_divisor :=
  fnA_mk [] Ff hm (Ff.binds (ps := ["one", "other"]) (fun _ _ _ _ _ _ us hl => match us, hl with | [_, _], _ => rfl)) sc_divisor rfl fun cdv A outer s H E hr tk hp =>
  xs_cons (xs_set 2 sc_divisor.nd (xe_v (xv_bi bop_abs call_abs T.z_abs (by decide +kernel) (xva_cons (xv_name 0) (xva_nil)))))
  (xs_cons (xs_set 3 sc_divisor.nd (xe_v (xv_bi bop_abs call_abs T.z_abs (by decide +kernel) (xva_cons (xv_name 1) (xva_nil)))))
  (xs_cons (xs_while hp (xb_cmpv (op_neP hr.units) vop_ne (xv_name 3) (xv_int) (nomark _)) (xs_cons (xs_set 4 sc_divisor.nd (xe_v (xv_op op_modG vop_mod (xv_name 2) (xv_name 3))))
  (xs_cons (xs_set 2 sc_divisor.nd (xe_name 3))
  (xs_one (xs_set 3 sc_divisor.nd (xe_name 4))))))
  (xs_one (xs_ret (xe_take 2)))))
theorem a_fraction {P : Program} {G : Gx} {mg : Str → Option Value} {base : Heap} {f : Addr} {fd : FuncData} (T : Tx G mg) (h_divisor : FnA P G.w G mg base 1 "divisor" 2 F_divisor) (Ff : Fun G.K "fraction" "fraction" st_fraction f fd) (hm : mg "fraction" = some (.ref f)) : FnA P G.w G mg base 2 "fraction" 2 F_fraction :=
  fnA_mk [] Ff hm (Ff.binds (ps := ["top", "bottom"]) (fun _ _ _ _ _ _ us hl => match us, hl with | [_, _], _ => rfl)) sc_fraction rfl fun cdv A outer s H E hr tk hp =>
  xs_cons (xs_if (xb_cmpv (op_eqP hr.units) vop_eq (xv_name 1) (xv_int) (nomark _)) (xs_one (xs_raise "NoShare" (T.e_NoShare.at) rfl tk)) (xs_nil))
  (xs_cons (xs_set 2 sc_fraction.nd (xe_call' h_divisor rfl hr (by decide) tk (xa_cons (xe_name 0) (xa_cons (xe_name 1) (xa_nil))) (saCons_len (saCons_len saNil_len))))
  (xs_cons (xs_if (xb_cmpv opr_lt vop_lt (xv_name 1) (xv_int) (nomark _)) (xs_one (xs_set 2 sc_fraction.nd (xe_v (xv_op op_sub vop_sub (xv_int) (xv_name 2))))) (xs_nil))
  (xs_one (xs_ret (xe_tup (xa_cons (xe_v (xv_op op_fdivG vop_fdiv (xv_name 0) (xv_name 2))) (xa_cons (xe_v (xv_op op_fdivG vop_fdiv (xv_name 1) (xv_name 2))) (xa_nil))))))))
theorem a_times {P : Program} {G : Gx} {mg : Str → Option Value} {base : Heap} {f : Addr} {fd : FuncData} (T : Tx G mg) (h_fraction : FnA P G.w G mg base 2 "fraction" 2 F_fraction) (Ff : Fun G.K "times" "times" st_times f fd) (hm : mg "times" = some (.ref f)) : FnA P G.w G mg base 3 "times" 2 F_times :=
  fnA_mk [] Ff hm (Ff.binds (ps := ["one", "other"]) (fun _ _ _ _ _ _ us hl => match us, hl with | [_, _], _ => rfl)) sc_times rfl fun cdv A outer s H E hr tk hp =>
  xs_one (xs_ret (xe_call' h_fraction rfl hr (by decide) tk (xa_cons (xe_v (xv_op opr_mul vop_mul (xv_ix rfl (xv_name 0) (xv_int)) (xv_ix rfl (xv_name 1) (xv_int)))) (xa_cons (xe_v (xv_op opr_mul vop_mul (xv_ix rfl (xv_name 0) (xv_int)) (xv_ix rfl (xv_name 1) (xv_int)))) (xa_nil))) (saCons_len (saCons_len saNil_len))))
theorem a_under {P : Program} {G : Gx} {mg : Str → Option Value} {base : Heap} {f : Addr} {fd : FuncData} (T : Tx G mg) (Ff : Fun G.K "under" "under" st_under f fd) (hm : mg "under" = some (.ref f)) : FnA P G.w G mg base 1 "under" 2 F_under :=
  fnA_mk [] Ff hm (Ff.binds (ps := ["one", "other"]) (fun _ _ _ _ _ _ us hl => match us, hl with | [_, _], _ => rfl)) sc_under rfl fun cdv A outer s H E hr tk hp =>
  xs_one (xs_ret (xe_v (xv_cmp opr_lt vop_lt (xv_op opr_mul vop_mul (xv_ix rfl (xv_name 0) (xv_int)) (xv_ix rfl (xv_name 1) (xv_int))) (xv_op opr_mul vop_mul (xv_ix rfl (xv_name 1) (xv_int)) (xv_ix rfl (xv_name 0) (xv_int))) (nomark _))))
theorem a_shares_of {P : Program} {G : Gx} {mg : Str → Option Value} {base : Heap} {f : Addr} {fd : FuncData} (T : Tx G mg) (h_fraction : FnA P G.w G mg base 2 "fraction" 2 F_fraction) (Ff : Fun G.K "shares_of" "shares_of" st_shares_of f fd) (hm : mg "shares_of" = some (.ref f)) : FnA P G.w G mg base 3 "shares_of" 1 F_shares_of :=
  fnA_mk [] Ff hm (Ff.binds (ps := ["draw"]) (fun _ _ _ _ _ _ us hl => match us, hl with | [_], _ => rfl)) sc_shares_of rfl fun cdv A outer s H E hr tk hp =>
  xs_cons (xs_set 1 sc_shares_of.nd (xe_bi bop_sum (cr_sum rfl) T.z_sum (by decide +kernel) (xa_cons (xe_lcW (own := [("number", 2), ("weight", 3)]) rfl sc_shares_of.nd (blkOk_by (own := [("number", 2), ("weight", 3)]) (N := N_shares_of) (sc := defScope st_shares_of) (by decide +kernel)) (xw_name 0 rfl) (fun _ _ _ _ _ => xg_tup rfl rfl (xgs_cons (xg_name 2 sc_shares_of.nd) (xgs_cons (xg_name 3 sc_shares_of.nd) (xgs_nil)))) (fun _ _ _ _ _ => xe_name 3)) (xa_nil))))
  (xs_one (xs_ret (xe_lcW (own := [("number", 2), ("weight", 3)]) rfl sc_shares_of.nd (blkOk_by (own := [("number", 2), ("weight", 3)]) (N := N_shares_of) (sc := defScope st_shares_of) (by decide +kernel)) (xw_name 0 rfl) (fun _ _ _ _ _ => xg_tup rfl rfl (xgs_cons (xg_name 2 sc_shares_of.nd) (xgs_cons (xg_name 3 sc_shares_of.nd) (xgs_nil)))) (fun _ _ _ _ _ => xe_call' h_fraction rfl hr (by decide) takes0 (xa_cons (xe_name 3) (xa_cons (xe_name 1) (xa_nil))) (saCons_len (saCons_len saNil_len))))))
theorem a_skipped {P : Program} {G : Gx} {mg : Str → Option Value} {base : Heap} {f : Addr} {fd : FuncData} (T : Tx G mg) (h_fraction : FnA P G.w G mg base 2 "fraction" 2 F_fraction) (Ff : Fun G.K "skipped" "skipped" st_skipped f fd) (hm : mg "skipped" = some (.ref f)) : FnA P G.w G mg base 3 "skipped" 3 F_skipped :=
  fnA_mk [] Ff hm (Ff.binds (ps := ["draws", "low", "high"]) (fun _ _ _ _ _ _ us hl => match us, hl with | [_, _, _], _ => rfl)) sc_skipped rfl fun cdv A outer s H E hr tk hp =>
  xs_cons (xs_set 3 sc_skipped.nd (xe_v (xv_int)))
  (xs_cons (xs_set 4 sc_skipped.nd (xe_v (xv_int)))
  (xs_cons (xs_for hp rfl (xi_q rfl (xe_sl rfl (xv_name 0) (xo_some (xv_name 1)) (xo_some (xv_name 2)))) (xg_name 5 sc_skipped.nd) (xs_cons (xs_setLcW (own := [("number", 7), ("weight", 8)]) 6 rfl sc_skipped.nd (blkOk_by (own := [("number", 7), ("weight", 8)]) (N := N_skipped) (sc := defScope st_skipped) (by decide +kernel)) (xw_name 5 rfl) (fun _ _ _ _ _ => xg_tup rfl rfl (xgs_cons (xg_name 7 sc_skipped.nd) (xgs_cons (xg_name 8 sc_skipped.nd) (xgs_nil)))) (fun _ _ _ _ _ => xe_name 8) (sw_true rfl rfl rfl (by decide +kernel)))
  (xs_cons (xs_set 3 sc_skipped.nd (xe_v (xv_op opr_mul vop_mul (xv_name 3) (xv_bi bop_maxL (cr_max rfl) T.z_max (by decide +kernel) (xva_cons (xv_name 6) xva_nil)))))
  (xs_one (xs_set 4 sc_skipped.nd (xe_v (xv_op opr_mul vop_mul (xv_name 4) (xv_bi bop_sum (cr_sum rfl) T.z_sum (by decide +kernel) (xva_cons (xv_name 6) (xva_nil))))))))))
  (xs_one (xs_ret (xe_call' h_fraction rfl hr (by decide) tk (xa_cons (xe_name 3) (xa_cons (xe_name 4) (xa_nil))) (saCons_len (saCons_len saNil_len)))))))
theorem a_own_site {P : Program} {G : Gx} {mg : Str → Option Value} {base : Heap} {f : Addr} {fd : FuncData} (T : Tx G mg) (Ff : Fun G.K "own_site" "own_site" st_own_site f fd) (hm : mg "own_site" = some (.ref f)) : FnA P G.w G mg base 1 "own_site" 2 F_own_site :=
  fnA_mk [] Ff hm (Ff.binds (ps := ["entry", "draws"]) (fun _ _ _ _ _ _ us hl => match us, hl with | [_, _], _ => rfl)) sc_own_site rfl fun cdv A outer s H E hr tk hp =>
  xs_cons (xs_if (xb_cmpv (op_eqP hr.units) vop_eq (xv_ix rfl (xv_name 0) (xv_int)) (xv_str) (nomark _)) (xs_one (xs_ret (xe_v (xv_bi bop_len call_len T.z_len (by decide +kernel) (xva_cons (xv_name 1) (xva_nil)))))) (xs_nil))
  (xs_one (xs_ret (xe_v (xv_ix rfl (xv_name 0) (xv_int)))))
theorem a_worths {P : Program} {G : Gx} {mg : Str → Option Value} {base : Heap} {f : Addr} {fd : FuncData} (T : Tx G mg) (h_own_site : FnA P G.w G mg base 1 "own_site" 2 F_own_site) (h_shares_of : FnA P G.w G mg base 3 "shares_of" 1 F_shares_of) (h_skipped : FnA P G.w G mg base 3 "skipped" 3 F_skipped) (h_times : FnA P G.w G mg base 3 "times" 2 F_times) (Ff : Fun G.K "worths" "worths" st_worths f fd) (hm : mg "worths" = some (.ref f)) : FnA P G.w G mg base 4 "worths" 4 F_worths :=
  fnA_mk [] Ff hm (Ff.binds (ps := ["entry", "parts", "draws", "found"]) (fun _ _ _ _ _ _ us hl => match us, hl with | [_, _, _, _], _ => rfl)) sc_worths rfl fun cdv A outer s H E hr tk hp =>
  xs_cons (xs_set 4 sc_worths.nd (xe_lst (xa_nil)))
  (xs_cons (xs_for hp rfl (xi_zip rfl T.z_zip (xa_cons (xe_call' h_shares_of rfl hr (by decide) tk (xa_cons (xe_v (xv_ix rfl (xv_name 2) (xv_ix rfl (xv_name 0) (xv_int)))) (xa_nil)) (saCons_len saNil_len)) (xa_cons (xe_v (xv_ix rfl (xv_name 0) (xv_int))) (xa_nil)))) (xg_tup rfl rfl (xgs_cons (xg_name 5 sc_worths.nd) (xgs_cons (xg_name 6 sc_worths.nd) (xgs_nil)))) (xs_cons (xs_set 7 sc_worths.nd (xe_call' h_skipped rfl hr (by decide) tk (xa_cons (xe_name 2) (xa_cons (xe_v (xv_op opr_add vop_add (xv_ix rfl (xv_name 0) (xv_int)) (xv_int))) (xa_cons (xe_call' h_own_site rfl hr (by decide) tk (xa_cons (xe_v (xv_ix rfl (xv_name 1) (xv_name 6))) (xa_cons (xe_name 2) (xa_nil))) (saCons_len (saCons_len saNil_len))) (xa_nil)))) (saCons_len (saCons_len (saCons_len saNil_len)))))
  (xs_one (xs_expr (xe_meth 4 rfl F.plainAttrs_list F.slot_list_append F.type_list_append mt_append mm_append ty_lst (xa_cons (xe_call' h_times rfl hr (by decide) tk (xa_cons (xe_call' h_times rfl hr (by decide) tk (xa_cons (xe_name 5) (xa_cons (xe_name 7) (xa_nil))) (saCons_len (saCons_len saNil_len))) (xa_cons (xe_v (xv_ix rfl (xv_name 3) (xv_name 6))) (xa_nil))) (saCons_len (saCons_len saNil_len))) (xa_nil)))))))
  (xs_one (xs_ret (xe_take 4))))
theorem a_prices {P : Program} {G : Gx} {mg : Str → Option Value} {base : Heap} {f : Addr} {fd : FuncData} (T : Tx G mg) (h_under : FnA P G.w G mg base 1 "under" 2 F_under) (h_worths : FnA P G.w G mg base 4 "worths" 4 F_worths) (Ff : Fun G.K "prices" "prices" st_prices f fd) (hm : mg "prices" = some (.ref f)) : FnA P G.w G mg base 5 "prices" 2 F_prices :=
  fnA_mk [] Ff hm (Ff.binds (ps := ["parts", "draws"]) (fun _ _ _ _ _ _ us hl => match us, hl with | [_, _], _ => rfl)) sc_prices rfl fun cdv A outer s H E hr tk hp =>
  xs_cons (xs_set 2 sc_prices.nd (xe_lst (xa_nil)))
  (xs_cons (xs_forW hp rfl (xw_name 0 rfl) (xg_name 3 sc_prices.nd) (xs_one (xs_if (xb_cmpv (op_eqP hr.units) vop_eq (xv_ix rfl (xv_name 3) (xv_int)) (xv_str) (nomark _)) (xs_one (xs_expr (xe_meth 2 rfl F.plainAttrs_list F.slot_list_append F.type_list_append mt_append mm_append ty_lst (xa_cons (xe_tup (xa_cons (xe_v (xv_ty bop_int cr_int T.z_int (by decide +kernel) (xva_cons (xv_cmp op_notN vop_isnot (xv_ix rfl (xv_name 3) (xv_int)) (xv_non) (nomark _)) (xva_nil)))) (xa_cons (xe_v (xv_int)) (xa_nil)))) (xa_nil))))) (xs_cons (xs_set 4 sc_prices.nd (xe_tup (xa_cons (xe_v (xv_int)) (xa_cons (xe_v (xv_int)) (xa_nil)))))
  (xs_cons (xs_for hp rfl (xi_q rfl (xe_call' h_worths rfl hr (by decide) tk (xa_cons (xe_name 3) (xa_cons (xe_name 0) (xa_cons (xe_name 1) (xa_lend 2 (xa_nil))))) (saCons_len (saCons_len (saCons_len (saCons_len saNil_len)))))) (xg_name 5 sc_prices.nd) (xs_one (xs_if (xb_e (xe_call' h_under rfl hr (by decide) tk (xa_cons (xe_name 4) (xa_cons (xe_name 5) (xa_nil))) (saCons_len (saCons_len saNil_len)))) (xs_one (xs_set 4 sc_prices.nd (xe_name 5))) (xs_nil))))
  (xs_one (xs_expr (xe_meth 2 rfl F.plainAttrs_list F.slot_list_append F.type_list_append mt_append mm_append ty_lst (xa_cons (xe_name 4) (xa_nil))))))))))
  (xs_one (xs_ret (xe_take 2))))
theorem a__law_cell_at {P : Program} {G : Gx} {mg : Str → Option Value} {base : Heap} {f : Addr} {fd : FuncData} (T : Tx G mg) (Ff : Fun G.K "_law_cell_at" "_law_cell_at" st__law_cell_at f fd) (hm : mg "_law_cell_at" = some (.ref f)) : FnA P G.w G mg base 1 "_law_cell_at" 2 F__law_cell_at :=
  fnA_mk [] Ff hm (Ff.binds (ps := ["_law_script", "_law_k"]) (fun _ _ _ _ _ _ us hl => match us, hl with | [_, _], _ => rfl)) sc__law_cell_at rfl fun cdv A outer s H E hr tk hp =>
  xs_cons (xs_if (xb_cmpv opr_lt vop_lt (xv_name 1) (xv_bi bop_len call_len T.z_len (by decide +kernel) (xva_cons (xv_name 0) (xva_nil))) (nomark _)) (xs_one (xs_ret (xe_v (xv_ix rfl (xv_name 0) (xv_name 1))))) (xs_nil))
  (xs_one (xs_ret (xe_v (xv_int))))
theorem a__law_whole {P : Program} {G : Gx} {mg : Str → Option Value} {base : Heap} {f : Addr} {fd : FuncData} (T : Tx G mg) (Ff : Fun G.K "_law_whole" "_law_whole" st__law_whole f fd) (hm : mg "_law_whole" = some (.ref f)) : FnA P G.w G mg base 1 "_law_whole" 1 F__law_whole :=
  fnA_mk [] Ff hm (Ff.binds (ps := ["_law_found"]) (fun _ _ _ _ _ _ us hl => match us, hl with | [_], _ => rfl)) sc__law_whole rfl fun cdv A outer s H E hr tk hp =>
  xs_one (xs_ret (xe_and (xe_v (xv_isi "int" rfl T.z_isinstance T.z_int (xv_name 0) (by decide +kernel))) (xe_one (xe_not (xe_v (xv_isi "bool" rfl T.z_isinstance T.z_bool (xv_name 0) (by decide +kernel)))))))
theorem a__law_mix {P : Program} {G : Gx} {mg : Str → Option Value} {base : Heap} {f : Addr} {fd : FuncData} (T : Tx G mg) (Ff : Fun G.K "_law_mix" "_law_mix" st__law_mix f fd) (hm : mg "_law_mix" = some (.ref f)) : FnA P G.w G mg base 1 "_law_mix" 2 F__law_mix :=
  fnA_mk [] Ff hm (Ff.binds (ps := ["_law_cell", "_law_k"]) (fun _ _ _ _ _ _ us hl => match us, hl with | [_, _], _ => rfl)) sc__law_mix rfl fun cdv A outer s H E hr tk hp =>
  xs_cons (xs_set 2 sc__law_mix.nd (xe_v (xv_op op_modG vop_mod (xv_op opr_mul vop_mul (xv_op opr_add vop_add (xv_op opr_add vop_add (xv_op opr_add vop_add (xv_op op_modG vop_mod (xv_name 0) (xv_int)) (xv_op opr_mul vop_mul (xv_op opr_mul vop_mul (xv_int) (xv_name 1)) (xv_name 1))) (xv_name 1)) (xv_int)) (xv_int)) (xv_int))))
  (xs_one (xs_ret (xe_v (xv_op op_modG vop_mod (xv_op opr_mul vop_mul (xv_name 2) (xv_name 2)) (xv_int)))))
theorem a__law_same {P : Program} {G : Gx} {mg : Str → Option Value} {base : Heap} {f : Addr} {fd : FuncData} (T : Tx G mg) (h__law_whole : FnA P G.w G mg base 1 "_law_whole" 1 F__law_whole) (Ff : Fun G.K "_law_same" "_law_same" st__law_same f fd) (hm : mg "_law_same" = some (.ref f)) : ∀ n : Nat, FnA P G.w G mg base (1 + n) "_law_same" 2 (F__law_same n) := by
  intro n
  induction n with
  | zero => exact fnA_bad Ff hm (Ff.binds (ps := ["_law_found", "_law_due_here"]) (fun _ _ _ _ _ _ us hl => match us, hl with | [_, _], _ => rfl)) sc__law_same rfl (by decide)
  | succ n h__law_same =>
    show FnA P G.w G mg base ((1 + n) + 1) "_law_same" 2 (runF 3 2 [] (b__law_same (F__law_same n)))
    exact fnA_mk [] Ff hm (Ff.binds (ps := ["_law_found", "_law_due_here"]) (fun _ _ _ _ _ _ us hl => match us, hl with | [_, _], _ => rfl)) sc__law_same rfl fun cdv A outer s H E hr tk hp =>
  (xs_cons (xs_if ((xw_or (xb_e (xe_v (xv_isi "tuple" rfl T.z_isinstance T.z_tuple (xv_name 1) (by decide +kernel)))) (xw_or1 (xb_e (xe_v (xv_isi "list" rfl T.z_isinstance T.z_list (xv_name 1) (by decide +kernel)))))).pb) (xs_cons (xs_if ((xw_or (xb_cmpv (op_neP hr.units) vop_ne (xv_isi "tuple" rfl T.z_isinstance T.z_tuple (xv_name 0) (by decide +kernel)) (xv_isi "tuple" rfl T.z_isinstance T.z_tuple (xv_name 1) (by decide +kernel)) (nomark _)) (xw_or1 (xb_cmpv (op_neP hr.units) vop_ne (xv_isi "list" rfl T.z_isinstance T.z_list (xv_name 0) (by decide +kernel)) (xv_isi "list" rfl T.z_isinstance T.z_list (xv_name 1) (by decide +kernel)) (nomark _)))).pb) (xs_one (xs_ret (xe_v (xv_bl)))) (xs_nil))
  (xs_cons (xs_if (xb_cmpv (op_neP hr.units) vop_ne (xv_bi bop_len call_len T.z_len (by decide +kernel) (xva_cons (xv_name 0) (xva_nil))) (xv_bi bop_len call_len T.z_len (by decide +kernel) (xva_cons (xv_name 1) (xva_nil))) (nomark _)) (xs_one (xs_ret (xe_v (xv_bl)))) (xs_nil))
  (xs_cons (xs_for hp rfl (xi_range1 T.z_range (xa_cons (xe_v (xv_bi bop_len call_len T.z_len (by decide +kernel) (xva_cons (xv_name 1) (xva_nil)))) (xa_nil))) (xg_name 2 sc__law_same.nd) (xs_one (xs_if (xb_not (xb_e (xe_call' h__law_same rfl hr (by omega) tk (xa_cons (xe_v (xv_ix rfl (xv_name 0) (xv_name 2))) (xa_cons (xe_v (xv_ix rfl (xv_name 1) (xv_name 2))) (xa_nil))) (saCons_len (saCons_len saNil_len))))) (xs_one (xs_ret (xe_v (xv_bl)))) (xs_nil))))
  (xs_one (xs_ret (xe_v (xv_bl))))))) (xs_nil))
  (xs_cons (xs_if (xb_cmpv opr_is vop_is (xv_name 1) (xv_non) (nomark _)) (xs_one (xs_ret (xe_v (xv_cmp opr_is vop_is (xv_name 0) (xv_non) (nomark _))))) (xs_nil))
  (xs_cons (xs_if (xb_e (xe_v (xv_isi "int" rfl T.z_isinstance T.z_int (xv_name 1) (by decide +kernel)))) (xs_one (xs_ret (xe_and (xe_call' h__law_whole rfl hr (by omega) tk (xa_cons (xe_name 0) (xa_nil)) (saCons_len saNil_len)) (xe_one (xe_v (xv_cmp (op_eqP hr.units) vop_eq (xv_name 0) (xv_name 1) (nomark _))))))) (xs_nil))
  (xs_one (xs_ret (xe_and (xe_v (xv_isi "str" rfl T.z_isinstance T.z_str (xv_name 0) (by decide +kernel))) (xe_one (xe_v (xv_cmp (op_eqP hr.units) vop_eq (xv_name 0) (xv_name 1) (nomark _))))))))))
theorem a__law_word {P : Program} {G : Gx} {mg : Str → Option Value} {base : Heap} {f : Addr} {fd : FuncData} (T : Tx G mg) (Ff : Fun G.K "_law_word" "_law_word" st__law_word f fd) (hm : mg "_law_word" = some (.ref f)) : FnA P G.w G mg base 1 "_law_word" 1 F__law_word :=
  fnA_mk [] Ff hm (Ff.binds (ps := ["_law_figure"]) (fun _ _ _ _ _ _ us hl => match us, hl with | [_], _ => rfl)) sc__law_word rfl fun cdv A outer s H E hr tk hp =>
  xs_cons (xs_set 1 sc__law_word.nd (xe_v (xv_str)))
  (xs_cons (xs_set 2 sc__law_word.nd (xe_v (xv_str)))
  (xs_cons (xs_for hp rfl (xi_range1 T.z_range (xa_cons (xe_v (xv_op opr_add vop_add (xv_int) (xv_op op_modG vop_mod (xv_name 0) (xv_int)))) (xa_nil))) (xg_name 3 sc__law_word.nd) (xs_one (xs_set 2 sc__law_word.nd (xe_v (xv_op opr_add vop_add (xv_name 2) (xv_ix rfl (xv_name 1) (xv_op op_modG vop_mod (xv_op op_fdivG vop_fdiv (xv_name 0) (xv_op opr_add vop_add (xv_int) (xv_op opr_mul vop_mul (xv_name 3) (xv_name 3)))) (xv_int))))))))
  (xs_one (xs_ret (xe_take 2)))))
theorem a__law_outcome {P : Program} {G : Gx} {mg : Str → Option Value} {base : Heap} {f : Addr} {fd : FuncData} (T : Tx G mg) (h__law_mix : FnA P G.w G mg base 1 "_law_mix" 2 F__law_mix) (h__law_word : FnA P G.w G mg base 1 "_law_word" 1 F__law_word) (Ff : Fun G.K "_law_outcome" "_law_outcome" st__law_outcome f fd) (hm : mg "_law_outcome" = some (.ref f)) : FnA P G.w G mg base 2 "_law_outcome" 1 F__law_outcome :=
  fnA_mk [] Ff hm (Ff.binds (ps := ["_law_cell"]) (fun _ _ _ _ _ _ us hl => match us, hl with | [_], _ => rfl)) sc__law_outcome rfl fun cdv A outer s H E hr tk hp =>
  xs_cons (xs_if (xb_cmpv (op_eqP hr.units) vop_eq (xv_op op_modG vop_mod (xv_name 0) (xv_int)) (xv_int) (nomark _)) (xs_one (xs_ret (xe_v (xv_non)))) (xs_nil))
  (xs_cons (xs_if (xb_cmpv opr_lt vop_lt (xv_op op_modG vop_mod (xv_name 0) (xv_int)) (xv_int) (nomark _)) (xs_one (xs_ret (xe_v (xv_op op_modG vop_mod (xv_op op_fdivG vop_fdiv (xv_name 0) (xv_int)) (xv_int))))) (xs_nil))
  (xs_cons (xs_if (xb_cmpv opr_lt vop_lt (xv_op op_modG vop_mod (xv_name 0) (xv_int)) (xv_int) (nomark _)) (xs_one (xs_ret (xe_v (xv_op op_modG vop_mod (xv_op opr_mul vop_mul (xv_op op_fdivG vop_fdiv (xv_name 0) (xv_int)) (xv_name 0)) (xv_op opr_pow vop_pow (xv_int) (xv_int)))))) (xs_nil))
  (xs_cons (xs_set 1 sc__law_outcome.nd (xe_dict0 rfl))
  (xs_cons (xs_for hp rfl (xi_range1 T.z_range (xa_cons (xe_v (xv_op opr_add vop_add (xv_int) (xv_op op_modG vop_mod (xv_op op_fdivG vop_fdiv (xv_name 0) (xv_int)) (xv_int)))) (xa_nil))) (xg_name 2 sc__law_outcome.nd) (xs_one (xs_setDE 1 hr.units rfl rfl (xe_call' h__law_word rfl hr (by decide) tk (xa_cons (xe_call' h__law_mix rfl hr (by decide) tk (xa_cons (xe_name 0) (xa_cons (xe_name 2) (xa_nil))) (saCons_len (saCons_len saNil_len))) (xa_nil)) (saCons_len saNil_len)) (xe_op op_modG vop_mod (xe_op opr_mul vop_mul (xe_call' h__law_mix rfl hr (by decide) tk (xa_cons (xe_name 0) (xa_cons (xe_v (xv_op opr_add vop_add (xv_name 2) (xv_int))) (xa_nil))) (saCons_len (saCons_len saNil_len))) (xe_call' h__law_mix rfl hr (by decide) tk (xa_cons (xe_name 0) (xa_cons (xe_v (xv_op opr_add vop_add (xv_name 2) (xv_int))) (xa_nil))) (saCons_len (saCons_len saNil_len)))) (xe_v (xv_op opr_pow vop_pow (xv_int) (xv_int)))))))
  (xs_cons (xs_if (xb_cmpv (op_eqP hr.units) vop_eq (xv_op op_modG vop_mod (xv_name 0) (xv_int)) (xv_int) (nomark _)) (xs_one (xs_setD 1 hr.units rfl rfl (xv_str) (xe_v (xv_op op_modG vop_mod (xv_op op_fdivG vop_fdiv (xv_name 0) (xv_int)) (xv_int))))) (xs_nil))
  (xs_one (xs_ret (xe_tupOf rfl T.z_tuple (xe_sortIt hr.units rfl rfl rfl T.z_sorted (xv_name 1))))))))))
theorem a__law_divisor {P : Program} {G : Gx} {mg : Str → Option Value} {base : Heap} {f : Addr} {fd : FuncData} (T : Tx G mg) (Ff : Fun G.K "_law_divisor" "_law_divisor" st__law_divisor f fd) (hm : mg "_law_divisor" = some (.ref f)) : FnA P G.w G mg base 1 "_law_divisor" 2 F__law_divisor :=
  fnA_mk [0, 1] Ff hm (Ff.binds (ps := ["_law_one", "_law_other"]) (fun _ _ _ _ _ _ us hl => match us, hl with | [_, _], _ => rfl)) sc__law_divisor rfl fun cdv A outer s H E hr tk hp =>
  xs_cons (xs_while hp (xb_cmpv opr_gt vop_gt (xv_name 1) (xv_int) (nomark _)) (xs_one (xs_par2 0 1 rfl sc__law_divisor.nd (xa_cons (xe_name 1) (xa_cons (xe_v (xv_op op_modG vop_mod (xv_name 0) (xv_name 1))) (xa_nil))) (by with_unfolding_all rfl))))
  (xs_one (xs_ret (xe_take 0)))
theorem a__law_is_share {P : Program} {G : Gx} {mg : Str → Option Value} {base : Heap} {f : Addr} {fd : FuncData} (T : Tx G mg) (h__law_divisor : FnA P G.w G mg base 1 "_law_divisor" 2 F__law_divisor) (h__law_whole : FnA P G.w G mg base 1 "_law_whole" 1 F__law_whole) (Ff : Fun G.K "_law_is_share" "_law_is_share" st__law_is_share f fd) (hm : mg "_law_is_share" = some (.ref f)) : FnA P G.w G mg base 2 "_law_is_share" 1 F__law_is_share :=
  fnA_mk [] Ff hm (Ff.binds (ps := ["_law_found"]) (fun _ _ _ _ _ _ us hl => match us, hl with | [_], _ => rfl)) sc__law_is_share rfl fun cdv A outer s H E hr tk hp =>
  xs_cons (xs_if ((xw_or (xb_not (xb_e (xe_v (xv_isi "tuple" rfl T.z_isinstance T.z_tuple (xv_name 0) (by decide +kernel))))) (xw_or (xb_cmpv (op_neP hr.units) vop_ne (xv_bi bop_len call_len T.z_len (by decide +kernel) (xva_cons (xv_name 0) (xva_nil))) (xv_int) (nomark _)) (xw_or (xb_not (xb_e (xe_call' h__law_whole rfl hr (by decide) tk (xa_cons (xe_v (xv_ix rfl (xv_name 0) (xv_int))) (xa_nil)) (saCons_len saNil_len)))) (xw_or1 (xb_not (xb_e (xe_call' h__law_whole rfl hr (by decide) tk (xa_cons (xe_v (xv_ix rfl (xv_name 0) (xv_int))) (xa_nil)) (saCons_len saNil_len)))))))).pb) (xs_one (xs_ret (xe_v (xv_bl)))) (xs_nil))
  (xs_one (xs_ret (xe_and (xe_v (xv_cmp opr_ge vop_ge (xv_ix rfl (xv_name 0) (xv_int)) (xv_int) (nomark _))) (xe_and (xe_v (xv_cmp opr_gt vop_gt (xv_ix rfl (xv_name 0) (xv_int)) (xv_int) (nomark _))) (xe_one (xe_cmpV (op_eqP hr.units) vop_eq (xe_call' h__law_divisor rfl hr (by decide) tk (xa_cons (xe_v (xv_ix rfl (xv_name 0) (xv_int))) (xa_cons (xe_v (xv_ix rfl (xv_name 0) (xv_int))) (xa_nil))) (saCons_len (saCons_len saNil_len))) (xv_int) (nomark _)))))))
theorem a__law_widths {P : Program} {G : Gx} {mg : Str → Option Value} {base : Heap} {f : Addr} {fd : FuncData} (T : Tx G mg) (h__law_cell_at : FnA P G.w G mg base 1 "_law_cell_at" 2 F__law_cell_at) (h__law_mix : FnA P G.w G mg base 1 "_law_mix" 2 F__law_mix) (Ff : Fun G.K "_law_widths" "_law_widths" st__law_widths f fd) (hm : mg "_law_widths" = some (.ref f)) : FnA P G.w G mg base 2 "_law_widths" 1 F__law_widths :=
  fnA_mk [] Ff hm (Ff.binds (ps := ["_law_script"]) (fun _ _ _ _ _ _ us hl => match us, hl with | [_], _ => rfl)) sc__law_widths rfl fun cdv A outer s H E hr tk hp =>
  xs_cons (xs_set 1 sc__law_widths.nd (xe_call' h__law_cell_at rfl hr (by decide) tk (xa_cons (xe_name 0) (xa_cons (xe_v (xv_int)) (xa_nil))) (saCons_len (saCons_len saNil_len))))
  (xs_cons (xs_set 2 sc__law_widths.nd (xe_fz (xe_lst (xa_cons (xe_lst (xa_cons (xe_v (xv_int)) (xa_cons (xe_v (xv_op opr_add vop_add (xv_int) (xv_op op_modG vop_mod (xv_name 1) (xv_int)))) (xa_cons (xe_v (xv_int)) (xa_cons (xe_v (xv_op opr_add vop_add (xv_int) (xv_op op_modG vop_mod (xv_op op_fdivG vop_fdiv (xv_name 1) (xv_int)) (xv_int)))) (xa_nil)))))) (xa_cons (xe_lst (xa_cons (xe_v (xv_int)) (xa_cons (xe_v (xv_int)) (xa_cons (xe_v (xv_int)) (xa_cons (xe_v (xv_int)) (xa_nil)))))) (xa_cons (xe_lst (xa_cons (xe_v (xv_int)) (xa_cons (xe_v (xv_int)) (xa_cons (xe_v (xv_int)) (xa_nil))))) (xa_cons (xe_lst (xa_cons (xe_v (xv_int)) (xa_cons (xe_v (xv_int)) (xa_nil)))) (xa_cons (xe_lst (xa_cons (xe_v (xv_int)) (xa_cons (xe_v (xv_int)) (xa_cons (xe_v (xv_int)) (xa_nil))))) (xa_cons (xe_lst (xa_cons (xe_v (xv_op opr_add vop_add (xv_int) (xv_op op_modG vop_mod (xv_name 1) (xv_int)))) (xa_nil))) (xa_nil))))))))))
  (xs_one (xs_ret (xe_ixN 2 ix_seq vop_ix (xe_op op_modG vop_mod (xe_call' h__law_mix rfl hr (by decide) tk (xa_cons (xe_name 1) (xa_cons (xe_v (xv_int)) (xa_nil))) (saCons_len (saCons_len saNil_len))) (xe_v (xv_int)))))))
theorem a__law_draws {P : Program} {G : Gx} {mg : Str → Option Value} {base : Heap} {f : Addr} {fd : FuncData} (T : Tx G mg) (h__law_cell_at : FnA P G.w G mg base 1 "_law_cell_at" 2 F__law_cell_at) (h__law_mix : FnA P G.w G mg base 1 "_law_mix" 2 F__law_mix) (Ff : Fun G.K "_law_draws" "_law_draws" st__law_draws f fd) (hm : mg "_law_draws" = some (.ref f)) : FnA P G.w G mg base 2 "_law_draws" 2 F__law_draws :=
  fnA_mk [] Ff hm (Ff.binds (ps := ["_law_script", "_law_widths_here"]) (fun _ _ _ _ _ _ us hl => match us, hl with | [_, _], _ => rfl)) sc__law_draws rfl fun cdv A outer s H E hr tk hp =>
  xs_cons (xs_set 2 sc__law_draws.nd (xe_lst (xa_nil)))
  (xs_cons (xs_for hp rfl (xi_range1 T.z_range (xa_cons (xe_v (xv_bi bop_len call_len T.z_len (by decide +kernel) (xva_cons (xv_name 1) (xva_nil)))) (xa_nil))) (xg_name 3 sc__law_draws.nd) (xs_cons (xs_set 4 sc__law_draws.nd (xe_call' h__law_mix rfl hr (by decide) tk (xa_cons (xe_call' h__law_cell_at rfl hr (by decide) tk (xa_cons (xe_name 0) (xa_cons (xe_v (xv_int)) (xa_nil))) (saCons_len (saCons_len saNil_len))) (xa_cons (xe_v (xv_op opr_add vop_add (xv_name 3) (xv_int))) (xa_nil))) (saCons_len (saCons_len saNil_len))))
  (xs_cons (xs_set 5 sc__law_draws.nd (xe_lst (xa_nil)))
  (xs_cons (xs_for hp rfl (xi_range1 T.z_range (xa_cons (xe_v (xv_ix rfl (xv_name 1) (xv_name 3))) (xa_nil))) (xg_name 6 sc__law_draws.nd) (xs_cons (xs_set 7 sc__law_draws.nd (xe_call' h__law_mix rfl hr (by decide) tk (xa_cons (xe_name 4) (xa_cons (xe_name 6) (xa_nil))) (saCons_len (saCons_len saNil_len))))
  (xs_one (xs_expr (xe_meth 5 rfl F.plainAttrs_list F.slot_list_append F.type_list_append mt_append mm_append ty_lst (xa_cons (xe_tup (xa_cons (xe_v (xv_op opr_add vop_add (xv_op op_modG vop_mod (xv_name 4) (xv_int)) (xv_name 6))) (xa_cons (xe_op opr_add vop_add (xe_v (xv_int)) (xe_ixS ix_seq vop_ix (xe_lst (xa_cons (xe_v (xv_op op_modG vop_mod (xv_name 7) (xv_int))) (xa_cons (xe_v (xv_op op_modG vop_mod (xv_op opr_mul vop_mul (xv_name 7) (xv_name 7)) (xv_op opr_pow vop_pow (xv_int) (xv_int)))) (xa_nil)))) (xv_op op_modG vop_mod (xv_op op_fdivG vop_fdiv (xv_name 4) (xv_int)) (xv_int)))) (xa_nil)))) (xa_nil)))))))
  (xs_one (xs_expr (xe_meth 2 rfl F.plainAttrs_list F.slot_list_append F.type_list_append mt_append mm_append ty_lst (xa_cons (xe_name 5) (xa_nil)))))))))
  (xs_one (xs_ret (xe_take 2))))
theorem a__law_site {P : Program} {G : Gx} {mg : Str → Option Value} {base : Heap} {f : Addr} {fd : FuncData} (T : Tx G mg) (Ff : Fun G.K "_law_site" "_law_site" st__law_site f fd) (hm : mg "_law_site" = some (.ref f)) : FnA P G.w G mg base 1 "_law_site" 1 F__law_site :=
  fnA_mk [] Ff hm (Ff.binds (ps := ["_law_entry"]) (fun _ _ _ _ _ _ us hl => match us, hl with | [_], _ => rfl)) sc__law_site rfl fun cdv A outer s H E hr tk hp =>
  xs_cons (xs_if (xb_cmpv (op_eqP hr.units) vop_eq (xv_ix rfl (xv_name 0) (xv_int)) (xv_str) (nomark _)) (xs_one (xs_ret (xe_v (xv_int)))) (xs_nil))
  (xs_one (xs_ret (xe_v (xv_ix rfl (xv_name 0) (xv_int)))))
theorem a__law_lists {P : Program} {G : Gx} {mg : Str → Option Value} {base : Heap} {f : Addr} {fd : FuncData} (T : Tx G mg) (h__law_mix : FnA P G.w G mg base 1 "_law_mix" 2 F__law_mix) (h__law_outcome : FnA P G.w G mg base 2 "_law_outcome" 1 F__law_outcome) (h__law_site : FnA P G.w G mg base 1 "_law_site" 1 F__law_site) (Ff : Fun G.K "_law_lists" "_law_lists" st__law_lists f fd) (hm : mg "_law_lists" = some (.ref f)) : FnA P G.w G mg base 3 "_law_lists" 2 F__law_lists :=
  fnA_mk [] Ff hm (Ff.binds (ps := ["_law_script", "_law_widths_here"]) (fun _ _ _ _ _ _ us hl => match us, hl with | [_, _], _ => rfl)) sc__law_lists rfl fun cdv A outer s H E hr tk hp =>
  xs_cons (xs_set 2 sc__law_lists.nd (xe_lst (xa_nil)))
  (xs_cons (xs_for hp rfl (xi_range2 T.z_range (xa_cons (xe_v (xv_int)) (xa_cons (xe_v (xv_bi bop_min2 (call_min2 rfl) T.z_min (by decide +kernel) (xva_cons (xv_bi bop_len call_len T.z_len (by decide +kernel) (xva_cons (xv_name 0) (xva_nil))) (xva_cons (xv_int) xva_nil)))) (xa_nil)))) (xg_name 3 sc__law_lists.nd) (xs_cons (xs_set 4 sc__law_lists.nd (xe_call' h__law_mix rfl hr (by decide) tk (xa_cons (xe_v (xv_ix rfl (xv_name 0) (xv_name 3))) (xa_cons (xe_name 3) (xa_nil))) (saCons_len (saCons_len saNil_len))))
  (xs_cons (xs_set 5 sc__law_lists.nd (xe_op op_modG vop_mod (xe_call' h__law_mix rfl hr (by decide) tk (xa_cons (xe_name 4) (xa_cons (xe_v (xv_int)) (xa_nil))) (saCons_len (saCons_len saNil_len))) (xe_v (xv_bi bop_len call_len T.z_len (by decide +kernel) (xva_cons (xv_name 1) (xva_nil))))))
  (xs_cons (xs_set 6 sc__law_lists.nd (xe_lcIf (own := [("_law_place", 8)]) rfl sc__law_lists.nd (blkOk_by (own := [("_law_place", 8)]) (N := N__law_lists) (sc := defScope st__law_lists) (by decide +kernel)) (xi_range1 T.z_range (xa_cons (xe_v (xv_bi bop_len call_len T.z_len (by decide +kernel) (xva_cons (xv_name 2) (xva_nil)))) (xa_nil))) (fun _ _ _ _ _ => xg_name 8 sc__law_lists.nd) (fun _ _ _ _ _ => xb_cmpV opr_gt vop_gt (xe_call' h__law_site rfl hr (by decide) takes0 (xa_cons (xe_v (xv_ix rfl (xv_name 2) (xv_name 8))) (xa_nil)) (saCons_len saNil_len)) (xv_name 5) (nomark _)) (fun _ _ _ _ _ => xe_name 8)))
  (xs_one (xs_if ((xw_or (xb_cmpv (op_eqP hr.units) vop_eq (xv_bi bop_len call_len T.z_len (by decide +kernel) (xva_cons (xv_name 6) (xva_nil))) (xv_int) (nomark _)) (xw_or1 (xb_cmpv (op_eqP hr.units) vop_eq (xv_op op_modG vop_mod (xv_name 4) (xv_int)) (xv_int) (nomark _)))).pb) (xs_one (xs_expr (xe_meth 2 rfl F.plainAttrs_list F.slot_list_append F.type_list_append mt_append mm_append ty_lst (xa_cons (xe_tup (xa_cons (xe_v (xv_str)) (xa_cons (xe_call' h__law_outcome rfl hr (by decide) tk (xa_cons (xe_v (xv_op op_fdivG vop_fdiv (xv_name 4) (xv_int))) (xa_nil)) (saCons_len saNil_len)) (xa_nil)))) (xa_nil))))) (xs_cons (xs_setLc (own := [("_law_j", 9)]) 7 rfl sc__law_lists.nd (blkOk_by (own := [("_law_j", 9)]) (N := N__law_lists) (sc := defScope st__law_lists) (by decide +kernel)) (xi_range1 T.z_range (xa_cons (xe_v (xv_ix rfl (xv_name 1) (xv_name 5))) (xa_nil))) (fun _ _ _ _ _ => xg_name 9 sc__law_lists.nd) (fun _ _ _ _ _ => xe_ixN 6 ix_seq vop_ix (xe_op op_modG vop_mod (xe_call' h__law_mix rfl hr (by decide) takes0 (xa_cons (xe_name 4) (xa_cons (xe_v (xv_op opr_add vop_add (xv_int) (xv_name 9))) (xa_nil))) (saCons_len (saCons_len saNil_len))) (xe_v (xv_bi bop_len call_len T.z_len (by decide +kernel) (xva_cons (xv_name 6) (xva_nil)))))) (sw_true rfl rfl rfl (by decide +kernel)))
  (xs_one (xs_expr (xe_meth 2 rfl F.plainAttrs_list F.slot_list_append F.type_list_append mt_append mm_append ty_lst (xa_cons (xe_tup (xa_cons (xe_v (xv_str)) (xa_cons (xe_name 5) (xa_cons (xe_name 7) (xa_nil))))) (xa_nil))))))))))))
  (xs_one (xs_ret (xe_take 2))))
theorem a__law_copy {P : Program} {G : Gx} {mg : Str → Option Value} {base : Heap} {f : Addr} {fd : FuncData} (T : Tx G mg) (Ff : Fun G.K "_law_copy" "_law_copy" st__law_copy f fd) (hm : mg "_law_copy" = some (.ref f)) : FnA P G.w G mg base 1 "_law_copy" 1 F__law_copy :=
  fnA_mk [] Ff hm (Ff.binds (ps := ["_law_parts"]) (fun _ _ _ _ _ _ us hl => match us, hl with | [_], _ => rfl)) sc__law_copy rfl fun cdv A outer s H E hr tk hp =>
  xs_one (xs_ret (xe_lcW (own := [("_law_entry", 1)]) rfl sc__law_copy.nd (blkOk_by (own := [("_law_entry", 1)]) (N := N__law_copy) (sc := defScope st__law_copy) (by decide +kernel)) (xw_name 0 rfl) (fun _ _ _ _ _ => xg_name 1 sc__law_copy.nd) (fun _ _ _ _ _ => xe_addM rfl (xe_tup (xa_cons (xe_v (xv_ix rfl (xv_name 1) (xv_int))) (xa_cons (xe_v (xv_ix rfl (xv_name 1) (xv_int))) (xa_nil)))) (xe_tupOf rfl T.z_tuple (xe_lc (own := [("_law_children", 2)]) rfl sc__law_copy.nd (by exact blkOk_re (blkOk_by (own := [("_law_children", 2)]) (N := N__law_copy) (by decide +kernel))) (xi_q rfl (xe_sl rfl (xv_name 1) (xo_some (xv_int)) (xo_none))) (fun _ _ _ _ _ => xg_name 2 sc__law_copy.nd) (fun _ _ _ _ _ => xe_listV rfl T.z_list (xv_name 2)))))))
theorem a__law_lead {P : Program} {G : Gx} {mg : Str → Option Value} {base : Heap} {f : Addr} {fd : FuncData} (T : Tx G mg) (Ff : Fun G.K "_law_lead" "_law_lead" st__law_lead f fd) (hm : mg "_law_lead" = some (.ref f)) : FnA P G.w G mg base 1 "_law_lead" 3 F__law_lead :=
  fnA_mk [] Ff hm (Ff.binds (ps := ["_law_parts", "_law_place", "_law_row"]) (fun _ _ _ _ _ _ us hl => match us, hl with | [_, _, _], _ => rfl)) sc__law_lead rfl fun cdv A outer s H E hr tk hp =>
  xs_cons (xs_set 3 sc__law_lead.nd (xe_v (xv_ix rfl (xv_name 0) (xv_name 1))))
  (xs_cons (xs_while hp (xb_cmpv (op_eqP hr.units) vop_eq (xv_ix rfl (xv_name 3) (xv_int)) (xv_str) (nomark _)) (xs_one (xs_set 3 sc__law_lead.nd (xe_v (xv_ix rfl (xv_name 0) (xv_ix rfl (xv_ix rfl (xv_name 3) (xv_int)) (xv_ix rfl (xv_name 2) (xv_ix rfl (xv_name 3) (xv_int)))))))))
  (xs_one (xs_ret (xe_v (xv_ix rfl (xv_name 3) (xv_int))))))
theorem a__law_rows {P : Program} {G : Gx} {mg : Str → Option Value} {base : Heap} {f : Addr} {fd : FuncData} (T : Tx G mg) (Ff : Fun G.K "_law_rows" "_law_rows" st__law_rows f fd) (hm : mg "_law_rows" = some (.ref f)) : FnA P G.w G mg base 1 "_law_rows" 1 F__law_rows :=
  fnA_mk [] Ff hm (Ff.binds (ps := ["_law_widths_here"]) (fun _ _ _ _ _ _ us hl => match us, hl with | [_], _ => rfl)) sc__law_rows rfl fun cdv A outer s H E hr tk hp =>
  xs_cons (xs_set 1 sc__law_rows.nd (xe_fz (xe_lst (xa_cons (xe_lst (xa_nil)) (xa_nil)))))
  (xs_cons (xs_forW hp rfl (xw_name 0 rfl) (xg_name 2 sc__law_rows.nd) (xs_cons (xs_set 3 sc__law_rows.nd (xe_lst (xa_nil)))
  (xs_cons (xs_forW hp rfl (xw_name 1 rfl) (xg_name 4 sc__law_rows.nd) (xs_one (xs_for hp rfl (xi_range1 T.z_range (xa_cons (xe_name 2) (xa_nil))) (xg_name 5 sc__law_rows.nd) (xs_one (xs_expr (xe_meth 3 rfl F.plainAttrs_list F.slot_list_append F.type_list_append mt_append mm_append ty_lst (xa_cons (xe_fz (xe_addM rfl (xe_name 4) (xe_lst (xa_cons (xe_name 5) (xa_nil))))) (xa_nil))))))))
  (xs_one (xs_set 1 sc__law_rows.nd (xe_name 3))))))
  (xs_one (xs_ret (xe_take 1))))
theorem a__law_due {P : Program} {G : Gx} {mg : Str → Option Value} {base : Heap} {f : Addr} {fd : FuncData} (T : Tx G mg) (h__law_lead : FnA P G.w G mg base 1 "_law_lead" 3 F__law_lead) (h__law_site : FnA P G.w G mg base 1 "_law_site" 1 F__law_site) (Ff : Fun G.K "_law_due" "_law_due" st__law_due f fd) (hm : mg "_law_due" = some (.ref f)) : FnA P G.w G mg base 2 "_law_due" 4 F__law_due :=
  fnA_mk [] Ff hm (Ff.binds (ps := ["_law_parts", "_law_place", "_law_rows_here", "_law_draws_here"]) (fun _ _ _ _ _ _ us hl => match us, hl with | [_, _, _, _], _ => rfl)) sc__law_due rfl fun cdv A outer s H E hr tk hp =>
  xs_cons (xs_set 4 sc__law_due.nd (xe_bi bop_min2 (call_min2 rfl) T.z_min (by decide +kernel) (xa_cons (xe_call' h__law_site rfl hr (by decide) tk (xa_cons (xe_v (xv_ix rfl (xv_name 0) (xv_name 1))) (xa_nil)) (saCons_len saNil_len)) (xa_cons (xe_v (xv_bi bop_len call_len T.z_len (by decide +kernel) (xva_cons (xv_name 3) (xva_nil)))) (xa_nil)))))
  (xs_cons (xs_set 5 sc__law_due.nd (xe_v (xv_int)))
  (xs_cons (xs_forW hp rfl (xw_name 2 rfl) (xg_name 6 sc__law_due.nd) (xs_cons (xs_set 9 sc__law_due.nd (xe_v (xv_int)))
  (xs_cons (xs_for hp rfl (xi_range2 T.z_range (xa_cons (xe_name 4) (xa_cons (xe_v (xv_bi bop_len call_len T.z_len (by decide +kernel) (xva_cons (xv_name 3) (xva_nil)))) (xa_nil)))) (xg_name 8 sc__law_due.nd) (xs_one (xs_set 9 sc__law_due.nd (xe_v (xv_op opr_mul vop_mul (xv_name 9) (xv_ix rfl (xv_ix rfl (xv_ix rfl (xv_name 3) (xv_name 8)) (xv_ix rfl (xv_name 6) (xv_name 8))) (xv_int)))))))
  (xs_one (xs_if (xb_cmpV op_notN vop_isnot (xe_call' h__law_lead rfl hr (by decide) tk (xa_cons (xe_name 0) (xa_cons (xe_name 1) (xa_cons (xe_name 6) (xa_nil)))) (saCons_len (saCons_len (saCons_len saNil_len)))) (xv_non) (nomark _)) (xs_one (xs_set 5 sc__law_due.nd (xe_v (xv_bi bop_max2 (call_max2 rfl) T.z_max (by decide +kernel) (xva_cons (xv_name 5) (xva_cons (xv_name 9) xva_nil)))))) (xs_nil))))))
  (xs_cons (xs_set 7 sc__law_due.nd (xe_v (xv_int)))
  (xs_cons (xs_for hp rfl (xi_range2 T.z_range (xa_cons (xe_name 4) (xa_cons (xe_v (xv_bi bop_len call_len T.z_len (by decide +kernel) (xva_cons (xv_name 3) (xva_nil)))) (xa_nil)))) (xg_name 8 sc__law_due.nd) (xs_one (xs_set 7 sc__law_due.nd (xe_op opr_mul vop_mul (xe_name 7) (xe_bi bop_sum (cr_sum rfl) T.z_sum (by decide +kernel) (xa_cons (xe_lc (own := [("_law_pair", 10)]) rfl sc__law_due.nd (blkOk_by (own := [("_law_pair", 10)]) (N := N__law_due) (sc := defScope st__law_due) (by decide +kernel)) (xi_q rfl (xe_v (xv_ix rfl (xv_name 3) (xv_name 8)))) (fun _ _ _ _ _ => xg_name 10 sc__law_due.nd) (fun _ _ _ _ _ => xe_v (xv_ix rfl (xv_name 10) (xv_int)))) (xa_nil)))))))
  (xs_one (xs_ret (xe_tup (xa_cons (xe_name 5) (xa_cons (xe_name 7) (xa_nil))))))))))
theorem a_law {P : Program} {G : Gx} {mg : Str → Option Value} {base : Heap} {f : Addr} {fd : FuncData} (T : Tx G mg) (h__law_copy : FnA P G.w G mg base 1 "_law_copy" 1 F__law_copy) (h__law_draws : FnA P G.w G mg base 2 "_law_draws" 2 F__law_draws) (h__law_due : FnA P G.w G mg base 2 "_law_due" 4 F__law_due) (h__law_is_share : FnA P G.w G mg base 2 "_law_is_share" 1 F__law_is_share) (h__law_lists : FnA P G.w G mg base 3 "_law_lists" 2 F__law_lists) (h__law_rows : FnA P G.w G mg base 1 "_law_rows" 1 F__law_rows) (h__law_same : FnA P G.w G mg base 61 "_law_same" 2 (F__law_same 60)) (h__law_widths : FnA P G.w G mg base 2 "_law_widths" 1 F__law_widths) (h_prices : FnA P G.w G mg base 5 "prices" 2 F_prices) (Ff : Fun G.K "law" "law" st_law f fd) : FnOk P G.w G.K mg base (L2.CX P G.w) 62 f fd ["_law_script"] (spF G 1 F_law) :=
  fn_ok [] Ff sc_law rfl fun cdv A outer s H E hr tk hp =>
  xs_cons (xs_set 1 sc_law.nd (xe_call' h__law_widths rfl hr (by decide) tk (xa_cons (xe_name 0) (xa_nil)) (saCons_len saNil_len)))
  (xs_cons (xs_set 2 sc_law.nd (xe_fz (xe_call' h__law_draws rfl hr (by decide) tk (xa_cons (xe_name 0) (xa_cons (xe_name 1) (xa_nil))) (saCons_len (saCons_len saNil_len)))))
  (xs_cons (xs_set 3 sc_law.nd (xe_fz (xe_call' h__law_lists rfl hr (by decide) tk (xa_cons (xe_name 0) (xa_cons (xe_name 1) (xa_nil))) (saCons_len (saCons_len saNil_len)))))
  (xs_cons (xs_set 4 sc_law.nd (xe_fz (xe_call' h__law_rows rfl hr (by decide) tk (xa_cons (xe_name 1) (xa_nil)) (saCons_len saNil_len))))
  (xs_cons (xs_set 5 sc_law.nd (xe_fz (xe_call' h__law_copy rfl hr (by decide) tk (xa_cons (xe_name 3) (xa_nil)) (saCons_len saNil_len))))
  (xs_cons (xs_setLcW (own := [("_law_draw", 10)]) 6 rfl sc_law.nd (blkOk_by (own := [("_law_draw", 10)]) (N := N_law) (sc := defScope st_law) (by decide +kernel)) (xw_name 2 rfl) (fun _ _ _ _ _ => xg_name 10 sc_law.nd) (fun _ _ _ _ _ => xe_listV rfl T.z_list (xv_name 10)) (sw_true rfl rfl rfl (by decide +kernel)))
  (xs_cons (xs_set 7 sc_law.nd (xe_call' h_prices rfl hr (by decide) tk (xa_cons (xe_name 5) (xa_cons (xe_name 6) (xa_nil))) (saCons_len (saCons_len saNil_len))))
  (xs_cons (xs_if ((xw_or (xb_not (xb_e (xe_v (xv_isi "list" rfl T.z_isinstance T.z_list (xv_name 7) (by decide +kernel))))) (xw_or (xb_cmpv (op_neP hr.units) vop_ne (xv_bi bop_len call_len T.z_len (by decide +kernel) (xva_cons (xv_name 7) (xva_nil))) (xv_bi bop_len call_len T.z_len (by decide +kernel) (xva_cons (xv_name 3) (xva_nil))) (nomark _)) (xw_or (xb_cmpv (op_neP hr.units) vop_ne (xv_name 5) (xv_name 3) (nomark _)) (xw_or1 (xb_cmpv (op_neP hr.units) vop_ne (xv_name 6) (xv_name 2) (nomark _)))))).pb) (xs_one (xs_ret (xe_v (xv_bl)))) (xs_nil))
  (xs_cons (xs_for hp rfl (xi_range1 T.z_range (xa_cons (xe_v (xv_bi bop_len call_len T.z_len (by decide +kernel) (xva_cons (xv_name 3) (xva_nil)))) (xa_nil))) (xg_name 8 sc_law.nd) (xs_cons (xs_asg (xe_call' h__law_due rfl hr (by decide) tk (xa_cons (xe_name 3) (xa_cons (xe_name 8) (xa_cons (xe_name 4) (xa_cons (xe_name 2) (xa_nil))))) (saCons_len (saCons_len (saCons_len (saCons_len saNil_len))))) (xg_tup rfl rfl (xgs_cons (xg_name 11 sc_law.nd) (xgs_cons (xg_name 12 sc_law.nd) (xgs_nil)))))
  (xs_one (xs_if ((xw_or (xb_not (xb_e (xe_call' h__law_is_share rfl hr (by decide) tk (xa_cons (xe_v (xv_ix rfl (xv_name 7) (xv_name 8))) (xa_nil)) (saCons_len saNil_len)))) (xw_or1 (xb_cmpv (op_neP hr.units) vop_ne (xv_op opr_mul vop_mul (xv_ix rfl (xv_ix rfl (xv_name 7) (xv_name 8)) (xv_int)) (xv_name 12)) (xv_op opr_mul vop_mul (xv_name 11) (xv_ix rfl (xv_ix rfl (xv_name 7) (xv_name 8)) (xv_int))) (nomark _)))).pb) (xs_one (xs_ret (xe_v (xv_bl)))) (xs_nil)))))
  (xs_cons (xs_set 9 sc_law.nd (xe_listV rfl T.z_list (xv_name 7)))
  (xs_cons (xs_expr (xe_meth0 7 rfl F.plainAttrs_list F.slot_list_clear F.type_list_clear mt_clear mm_clear ty_lst))
  (xs_one (xs_ret (xe_call' h__law_same rfl hr (by decide) tk (xa_cons (xe_fz (xe_call' h_prices rfl hr (by decide) tk (xa_cons (xe_name 5) (xa_cons (xe_name 6) (xa_nil))) (saCons_len (saCons_len saNil_len)))) (xa_cons (xe_name 9) (xa_nil))) (saCons_len (saCons_len saNil_len)))))))))))))))

set_option maxHeartbeats 1000000
set_option exponentiation.threshold 10000
open PySem L2 FL Classical
theorem whole_int (i : Int) : F__law_whole [.d (.int i)] = .ok (.d (.bl true), [some (.d (.int i))]) := by
  simp [F__law_whole, b__law_whole, runF, ssSeq, ssSet, ssIf, ssRet, ssDrop, ssNil, ssRaise, ssPar, setAll, ssAsg, sgN, sgNil, sgCons, sgTup, sbE, sbNot, sbAnd, sbOr, sNotV, sAndV, sOrV, sIf, sV, v2, vN, vC, getE, sN, sT, s2, s2v, s2n, sCall, saCons, saNil, putBack, killAll, sTup, mTup, isD, unD, sLst, vIx, mIdx, M.seq, atI, ixN, vB, vaCons, vaNil, bAbs, b1I, b2I, bLen, vIsi, tyM, tyD, isiB, fz, oAdd_int, oSub_int, oMul_int, oFdiv_int, oMod_int, oPow_int, oLt_int, oLe_int, oGt_int, oGe_int, oEq_int, oNe_int, sizeLine_eq, vNeg, ssSetI, sMeth, isLst, mAppend]
theorem div_loop : ∀ (n : Nat) (a b : Int) (z0 z1 z4 : Option M), 0 ≤ a → 0 ≤ b → b.natAbs ≤ n → ∃ z, ssWhile wc_divisor_1 wb_divisor_1 [z0, z1, some (.d (.int a)), some (.d (.int b)), z4] = .ok (.nx, [z0, z1, some (.d (.int (gI a b))), some (.d (.int 0)), z]) := by
  intro n
  induction n with
  | zero =>
    intro a b z0 z1 z4 ha hb hn
    have : b = 0 := by omega
    subst this
    refine ⟨z4, ?_⟩
    rw [ssWhile_end (e := [z0, z1, some (.d (.int a)), some (.d (.int 0)), z4]) (by simp [wc_divisor_1, runF, ssSeq, ssSet, ssIf, ssRet, ssDrop, ssNil, ssRaise, ssPar, setAll, ssAsg, sgN, sgNil, sgCons, sgTup, sbE, sbNot, sbAnd, sbOr, sNotV, sAndV, sOrV, sIf, sV, v2, vN, vC, getE, sN, sT, s2, s2v, s2n, sCall, saCons, saNil, putBack, killAll, sTup, mTup, isD, unD, sLst, vIx, mIdx, M.seq, atI, ixN, vB, vaCons, vaNil, bAbs, b1I, b2I, bLen, vIsi, tyM, tyD, isiB, fz, oAdd_int, oSub_int, oMul_int, oFdiv_int, oMod_int, oPow_int, oLt_int, oLe_int, oGt_int, oGe_int, oEq_int, oNe_int, sizeLine_eq, vNeg, ssSetI, sMeth, isLst, mAppend]), show gI a 0 = a from gcd_zero_right ha]
  | succ n ih =>
    intro a b z0 z1 z4 ha hb hn
    by_cases h0 : b = 0
    · subst h0
      refine ⟨z4, ?_⟩
      rw [ssWhile_end (e := [z0, z1, some (.d (.int a)), some (.d (.int 0)), z4]) (by simp [wc_divisor_1, runF, ssSeq, ssSet, ssIf, ssRet, ssDrop, ssNil, ssRaise, ssPar, setAll, ssAsg, sgN, sgNil, sgCons, sgTup, sbE, sbNot, sbAnd, sbOr, sNotV, sAndV, sOrV, sIf, sV, v2, vN, vC, getE, sN, sT, s2, s2v, s2n, sCall, saCons, saNil, putBack, killAll, sTup, mTup, isD, unD, sLst, vIx, mIdx, M.seq, atI, ixN, vB, vaCons, vaNil, bAbs, b1I, b2I, bLen, vIsi, tyM, tyD, isiB, fz, oAdd_int, oSub_int, oMul_int, oFdiv_int, oMod_int, oPow_int, oLt_int, oLe_int, oGt_int, oGe_int, oEq_int, oNe_int, sizeLine_eq, vNeg, ssSetI, sMeth, isLst, mAppend]), show gI a 0 = a from gcd_zero_right ha]
    · have hp : 0 < b := by omega
      rw [ssWhile_go (e := [z0, z1, some (.d (.int a)), some (.d (.int b)), z4]) (e2 := [z0, z1, some (.d (.int b)), some (.d (.int (a % b))), some (.d (.int (a % b)))]) (fl := .nx) (by simp [wc_divisor_1, h0, runF, ssSeq, ssSet, ssIf, ssRet, ssDrop, ssNil, ssRaise, ssPar, setAll, ssAsg, sgN, sgNil, sgCons, sgTup, sbE, sbNot, sbAnd, sbOr, sNotV, sAndV, sOrV, sIf, sV, v2, vN, vC, getE, sN, sT, s2, s2v, s2n, sCall, saCons, saNil, putBack, killAll, sTup, mTup, isD, unD, sLst, vIx, mIdx, M.seq, atI, ixN, vB, vaCons, vaNil, bAbs, b1I, b2I, bLen, vIsi, tyM, tyD, isiB, fz, oAdd_int, oSub_int, oMul_int, oFdiv_int, oMod_int, oPow_int, oLt_int, oLe_int, oGt_int, oGe_int, oEq_int, oNe_int, sizeLine_eq, vNeg, ssSetI, sMeth, isLst, mAppend]) (by simp [wb_divisor_1, h0, modI_pos hp, runF, ssSeq, ssSet, ssIf, ssRet, ssDrop, ssNil, ssRaise, ssPar, setAll, ssAsg, sgN, sgNil, sgCons, sgTup, sbE, sbNot, sbAnd, sbOr, sNotV, sAndV, sOrV, sIf, sV, v2, vN, vC, getE, sN, sT, s2, s2v, s2n, sCall, saCons, saNil, putBack, killAll, sTup, mTup, isD, unD, sLst, vIx, mIdx, M.seq, atI, ixN, vB, vaCons, vaNil, bAbs, b1I, b2I, bLen, vIsi, tyM, tyD, isiB, fz, oAdd_int, oSub_int, oMul_int, oFdiv_int, oMod_int, oPow_int, oLt_int, oLe_int, oGt_int, oGe_int, oEq_int, oNe_int, sizeLine_eq, vNeg, ssSetI, sMeth, isLst, mAppend]) (.inl rfl)]
      have h1 := Int.emod_nonneg a h0
      have h2 := Int.emod_lt_of_pos a hp
      obtain ⟨z, hz⟩ := ih b (a % b) z0 z1 (some (.d (.int (a % b)))) hb h1 (by omega)
      refine ⟨z, ?_⟩
      rw [hz, show gI b (a % b) = gI a b from congrArg _ (gcd_step hp)]
theorem divisor_int (a b : Int) : F_divisor [.d (.int a), .d (.int b)] = .ok (.d (.int (gI a b)), [some (.d (.int a)), some (.d (.int b))]) := by
  obtain ⟨z, hz⟩ := div_loop (if b < 0 then -b else b).natAbs (if a < 0 then -a else a) (if b < 0 then -b else b) (some (.d (.int a))) (some (.d (.int b))) none (by split <;> omega) (by split <;> omega) (Nat.le_refl _)
  have e : gI (if a < 0 then -a else a) (if b < 0 then -b else b) = gI a b := congrArg _ (gcd_abs a b)
  simp [F_divisor, b_divisor, hz, e, runF, ssSeq, ssSet, ssIf, ssRet, ssDrop, ssNil, ssRaise, ssPar, setAll, ssAsg, sgN, sgNil, sgCons, sgTup, sbE, sbNot, sbAnd, sbOr, sNotV, sAndV, sOrV, sIf, sV, v2, vN, vC, getE, sN, sT, s2, s2v, s2n, sCall, saCons, saNil, putBack, killAll, sTup, mTup, isD, unD, sLst, vIx, mIdx, M.seq, atI, ixN, vB, vaCons, vaNil, bAbs, b1I, b2I, bLen, vIsi, tyM, tyD, isiB, fz, oAdd_int, oSub_int, oMul_int, oFdiv_int, oMod_int, oPow_int, oLt_int, oLe_int, oGt_int, oGe_int, oEq_int, oNe_int, sizeLine_eq, vNeg, ssSetI, sMeth, isLst, mAppend]
theorem ldiv_loop : ∀ (n : Nat) (a b : Int), 0 ≤ a → 0 ≤ b → b.natAbs ≤ n → ssWhile wc__law_divisor_1 wb__law_divisor_1 [some (.d (.int a)), some (.d (.int b))] = .ok (.nx, [some (.d (.int (gI a b))), some (.d (.int 0))]) := by
  intro n
  induction n with
  | zero =>
    intro a b ha hb hn
    have : b = 0 := by omega
    subst this
    rw [ssWhile_end (e := [some (.d (.int a)), some (.d (.int 0))]) (by simp [wc__law_divisor_1, runF, ssSeq, ssSet, ssIf, ssRet, ssDrop, ssNil, ssRaise, ssPar, setAll, ssAsg, sgN, sgNil, sgCons, sgTup, sbE, sbNot, sbAnd, sbOr, sNotV, sAndV, sOrV, sIf, sV, v2, vN, vC, getE, sN, sT, s2, s2v, s2n, sCall, saCons, saNil, putBack, killAll, sTup, mTup, isD, unD, sLst, vIx, mIdx, M.seq, atI, ixN, vB, vaCons, vaNil, bAbs, b1I, b2I, bLen, vIsi, tyM, tyD, isiB, fz, oAdd_int, oSub_int, oMul_int, oFdiv_int, oMod_int, oPow_int, oLt_int, oLe_int, oGt_int, oGe_int, oEq_int, oNe_int, sizeLine_eq, vNeg, ssSetI, sMeth, isLst, mAppend]), show gI a 0 = a from gcd_zero_right ha]
  | succ n ih =>
    intro a b ha hb hn
    by_cases h0 : b = 0
    · subst h0
      rw [ssWhile_end (e := [some (.d (.int a)), some (.d (.int 0))]) (by simp [wc__law_divisor_1, runF, ssSeq, ssSet, ssIf, ssRet, ssDrop, ssNil, ssRaise, ssPar, setAll, ssAsg, sgN, sgNil, sgCons, sgTup, sbE, sbNot, sbAnd, sbOr, sNotV, sAndV, sOrV, sIf, sV, v2, vN, vC, getE, sN, sT, s2, s2v, s2n, sCall, saCons, saNil, putBack, killAll, sTup, mTup, isD, unD, sLst, vIx, mIdx, M.seq, atI, ixN, vB, vaCons, vaNil, bAbs, b1I, b2I, bLen, vIsi, tyM, tyD, isiB, fz, oAdd_int, oSub_int, oMul_int, oFdiv_int, oMod_int, oPow_int, oLt_int, oLe_int, oGt_int, oGe_int, oEq_int, oNe_int, sizeLine_eq, vNeg, ssSetI, sMeth, isLst, mAppend]), show gI a 0 = a from gcd_zero_right ha]
    · have hp : 0 < b := by omega
      rw [ssWhile_go (e := [some (.d (.int a)), some (.d (.int b))]) (e2 := [some (.d (.int b)), some (.d (.int (a % b)))]) (fl := .nx) (by simp [wc__law_divisor_1, hp, runF, ssSeq, ssSet, ssIf, ssRet, ssDrop, ssNil, ssRaise, ssPar, setAll, ssAsg, sgN, sgNil, sgCons, sgTup, sbE, sbNot, sbAnd, sbOr, sNotV, sAndV, sOrV, sIf, sV, v2, vN, vC, getE, sN, sT, s2, s2v, s2n, sCall, saCons, saNil, putBack, killAll, sTup, mTup, isD, unD, sLst, vIx, mIdx, M.seq, atI, ixN, vB, vaCons, vaNil, bAbs, b1I, b2I, bLen, vIsi, tyM, tyD, isiB, fz, oAdd_int, oSub_int, oMul_int, oFdiv_int, oMod_int, oPow_int, oLt_int, oLe_int, oGt_int, oGe_int, oEq_int, oNe_int, sizeLine_eq, vNeg, ssSetI, sMeth, isLst, mAppend]) (by simp [wb__law_divisor_1, h0, modI_pos hp, runF, ssSeq, ssSet, ssIf, ssRet, ssDrop, ssNil, ssRaise, ssPar, setAll, ssAsg, sgN, sgNil, sgCons, sgTup, sbE, sbNot, sbAnd, sbOr, sNotV, sAndV, sOrV, sIf, sV, v2, vN, vC, getE, sN, sT, s2, s2v, s2n, sCall, saCons, saNil, putBack, killAll, sTup, mTup, isD, unD, sLst, vIx, mIdx, M.seq, atI, ixN, vB, vaCons, vaNil, bAbs, b1I, b2I, bLen, vIsi, tyM, tyD, isiB, fz, oAdd_int, oSub_int, oMul_int, oFdiv_int, oMod_int, oPow_int, oLt_int, oLe_int, oGt_int, oGe_int, oEq_int, oNe_int, sizeLine_eq, vNeg, ssSetI, sMeth, isLst, mAppend]) (.inl rfl)]
      have h1 := Int.emod_nonneg a h0
      have h2 := Int.emod_lt_of_pos a hp
      rw [ih b (a % b) hb h1 (by omega), show gI b (a % b) = gI a b from congrArg _ (gcd_step hp)]
theorem ldivisor_int {a b : Int} (ha : 0 ≤ a) (hb : 0 ≤ b) : F__law_divisor [.d (.int a), .d (.int b)] = .ok (.d (.int (gI a b)), [none, none]) := by
  have hz := ldiv_loop b.natAbs a b ha hb (Nat.le_refl _)
  simp [F__law_divisor, b__law_divisor, hz, runF, ssSeq, ssSet, ssIf, ssRet, ssDrop, ssNil, ssRaise, ssPar, setAll, ssAsg, sgN, sgNil, sgCons, sgTup, sbE, sbNot, sbAnd, sbOr, sNotV, sAndV, sOrV, sIf, sV, v2, vN, vC, getE, sN, sT, s2, s2v, s2n, sCall, saCons, saNil, putBack, killAll, sTup, mTup, isD, unD, sLst, vIx, mIdx, M.seq, atI, ixN, vB, vaCons, vaNil, bAbs, b1I, b2I, bLen, vIsi, tyM, tyD, isiB, fz, oAdd_int, oSub_int, oMul_int, oFdiv_int, oMod_int, oPow_int, oLt_int, oLe_int, oGt_int, oGe_int, oEq_int, oNe_int, sizeLine_eq, vNeg, ssSetI, sMeth, isLst, mAppend]
/-! ### sizes -/
def Bd (k : Nat) (x : Int) : Prop := 0 ≤ x ∧ x ≤ ((2 ^ (23 * k) : Nat) : Int)
theorem Bd.mul {j k : Nat} {x y : Int} (h : Bd j x) (h' : Bd k y) : Bd (j + k) (x * y) := by
  refine ⟨Int.mul_nonneg h.1 h'.1, ?_⟩
  have := Int.mul_le_mul h.2 h'.2 h'.1 (Int.natCast_nonneg _)
  rw [Nat.mul_add, Nat.pow_add, Int.natCast_mul]
  exact this
theorem Bd.mono {j k : Nat} {x : Int} (h : Bd j x) (hk : j ≤ k) : Bd k x := by
  refine ⟨h.1, Int.le_trans h.2 ?_⟩
  have : 2 ^ (23 * j) ≤ 2 ^ (23 * k) := Nat.pow_le_pow_right (by decide) (by omega)
  omega
theorem Bd.nat {k : Nat} {x : Int} (h : Bd k x) (hk : k ≤ 200) : x.natAbs < 2 ^ 4700 := by
  have h1 := h.mono hk
  have : (2:Nat) ^ (23 * 200) < 2 ^ 4700 := Nat.pow_lt_pow_right (by decide) (by decide)
  obtain ⟨q, hq⟩ : ∃ q, q = (2:Nat) ^ (23 * 200) := ⟨_, rfl⟩
  have h2 := h1.1
  have h3 := h1.2
  rw [← hq] at h3 this
  exact Nat.lt_of_le_of_lt (by omega) this
theorem Bd1 {x : Int} (h : 0 ≤ x) (h' : x ≤ 8388608) : Bd 1 x := by
  have e : ((2 ^ (23 * 1) : Nat) : Int) = 8388608 := by decide
  exact ⟨h, by rw [e]; exact h'⟩
theorem Bd.one (k : Nat) : Bd k 1 := ⟨by decide, by have := Nat.one_le_two_pow (n := 23 * k); omega⟩
theorem Bd.zero (k : Nat) : Bd k 0 := ⟨by decide, Int.natCast_nonneg _⟩
theorem Bd.cmul {j k : Nat} {x y : Int} (h : Bd j x) (h' : Bd k y) (hj : j ≤ 200 := by omega) (hk : k ≤ 200 := by omega) : CMulD x y := mulD (h.nat hj) (h'.nat hk)
theorem Bd.lowT {k : Nat} {t b : Int} (h : Bd k t) (hb : 0 < b) : Bd k (FL.lowT t b) := by
  have h1 := lowT_le (t := t) (b := b)
  have h2 : 0 ≤ FL.lowT t b := Int.ediv_nonneg h.1 (by unfold gI; omega)
  have := h.1
  have := h.2
  exact ⟨h2, by omega⟩
theorem Bd.lowB {k : Nat} {t b : Int} (h : Bd k b) (hb : 0 < b) : Bd k (FL.lowB t b) := by
  have h1 := lowB_le (t := t) (b := b)
  have h2 := lowB_pos (t := t) hb
  have := h.2
  exact ⟨by omega, by omega⟩
/-! ### fractions -/
abbrev pI (a b : Int) : D := .tup [.int a, .int b]
theorem fraction_int {t b : Int} (hb : 0 < b) (hl : b.natAbs < 2 ^ 9000) : F_fraction [.d (.int t), .d (.int b)] = .ok (.d (pI (lowT t b) (lowB t b)), [some (.d (.int t)), some (.d (.int b))]) := by
  have hg := gI_pos (a := t) (b := b) (by omega)
  have hg2 : ∀ i, CFdiv i (gI t b) := fun i => fdivD (b := 9000) (by omega) (Nat.lt_of_le_of_lt (gI_le (by omega)) hl)
  have h1 : ¬ b = 0 := by omega
  have h2 : ¬ b < 0 := by omega
  simp [F_fraction, b_fraction, divisor_int, oFdiv_int (hg2 _), fdivI_pos hg, lowT, lowB, h1, h2, runF, ssSeq, ssSet, ssIf, ssRet, ssDrop, ssNil, ssRaise, ssPar, setAll, ssAsg, sgN, sgNil, sgCons, sgTup, sbE, sbNot, sbAnd, sbOr, sNotV, sAndV, sOrV, sIf, sV, v2, vN, vC, getE, sN, sT, s2, s2v, s2n, sCall, saCons, saNil, putBack, killAll, sTup, mTup, isD, unD, sLst, vIx, mIdx, M.seq, atI, ixN, vB, vaCons, vaNil, bAbs, b1I, b2I, bLen, vIsi, tyM, tyD, isiB, fz, oAdd_int, oSub_int, oMul_int, oFdiv_int, oMod_int, oPow_int, oLt_int, oLe_int, oGt_int, oGe_int, oEq_int, oNe_int, sizeLine_eq, vNeg, ssSetI, sMeth, isLst, mAppend]
theorem Bd.frac {k : Nat} {t b : Int} (h : Bd k b) (hk : k ≤ 200) (hb : 0 < b) : F_fraction [.d (.int t), .d (.int b)] = .ok (.d (pI (FL.lowT t b) (FL.lowB t b)), [some (.d (.int t)), some (.d (.int b))]) :=
  fraction_int hb (Nat.lt_of_lt_of_le (h.nat hk) (Nat.pow_le_pow_right (by decide) (by decide)))
theorem times_int {a b c d : Int} {j k : Nat} (ha : Bd j a) (hb : Bd j b) (hc : Bd k c) (hd : Bd k d) (h0 : 0 < b) (h1 : 0 < d) (hj : j + k ≤ 200) :
    F_times [.d (pI a b), .d (pI c d)] = .ok (.d (pI (lowT (a * c) (b * d)) (lowB (a * c) (b * d))), [some (.d (pI a b)), some (.d (pI c d))]) := by
  have hf := Bd.frac (t := a * c) (hb.mul hd) hj (Int.mul_pos h0 h1)
  have c1 : CMulD a c := ha.cmul hc
  have c2 : CMulD b d := hb.cmul hd
  simp [F_times, b_times, oMul_int c1, oMul_int c2, hf, runF, ssSeq, ssSet, ssIf, ssRet, ssDrop, ssNil, ssRaise, ssPar, setAll, ssAsg, sgN, sgNil, sgCons, sgTup, sbE, sbNot, sbAnd, sbOr, sNotV, sAndV, sOrV, sIf, sV, v2, vN, vC, getE, sN, sT, s2, s2v, s2n, sCall, saCons, saNil, putBack, killAll, sTup, mTup, isD, unD, sLst, vIx, mIdx, M.seq, atI, ixN, vB, vaCons, vaNil, bAbs, b1I, b2I, bLen, vIsi, tyM, tyD, isiB, fz, oAdd_int, oSub_int, oMul_int, oFdiv_int, oMod_int, oPow_int, oLt_int, oLe_int, oGt_int, oGe_int, oEq_int, oNe_int, sizeLine_eq, vNeg, ssSetI, sMeth, isLst, mAppend]
theorem under_int {a b c d : Int} {j k : Nat} (ha : Bd j a) (hb : Bd j b) (hc : Bd k c) (hd : Bd k d) (hj : j + k ≤ 200) :
    F_under [.d (pI a b), .d (pI c d)] = .ok (.d (.bl (decide (a * d < c * b))), [some (.d (pI a b)), some (.d (pI c d))]) := by
  have c1 : CMulD a d := ha.cmul hd
  have c2 : CMulD c b := hc.cmul hb
  simp [F_under, b_under, oMul_int c1, oMul_int c2, runF, ssSeq, ssSet, ssIf, ssRet, ssDrop, ssNil, ssRaise, ssPar, setAll, ssAsg, sgN, sgNil, sgCons, sgTup, sbE, sbNot, sbAnd, sbOr, sNotV, sAndV, sOrV, sIf, sV, v2, vN, vC, getE, sN, sT, s2, s2v, s2n, sCall, saCons, saNil, putBack, killAll, sTup, mTup, isD, unD, sLst, vIx, mIdx, M.seq, atI, ixN, vB, vaCons, vaNil, bAbs, b1I, b2I, bLen, vIsi, tyM, tyD, isiB, fz, oAdd_int, oSub_int, oMul_int, oFdiv_int, oMod_int, oPow_int, oLt_int, oLe_int, oGt_int, oGe_int, oEq_int, oNe_int, sizeLine_eq, vNeg, ssSetI, sMeth, isLst, mAppend]
/-! ### draws -/
def drwD (d : List (Int × Int)) : D := .lst (d.map fun p => pI p.1 p.2)
def sW (d : List (Int × Int)) : Int := (d.map Prod.snd).sum
def mW (d : List (Int × Int)) : Int := maxI (d.map Prod.snd)
structure GDr (d : List (Int × Int)) : Prop where
  ne : d ≠ []
  len : d.length ≤ 6
  w : ∀ p ∈ d, 0 < p.2 ∧ p.2 ≤ 1000000
theorem sum_le {K : Int} : ∀ {l : List Int}, (∀ x ∈ l, x ≤ K) → l.sum ≤ l.length * K
  | [], _ => by simp
  | x :: l, h => by
    have h1 := sum_le (l := l) fun y hy => h y (by simp [hy])
    have h2 := h x (by simp)
    simp only [List.sum_cons, List.length_cons]
    rw [Int.natCast_add, Int.add_mul]
    simp
    omega
theorem sum_ge : ∀ {l : List Int}, (∀ x ∈ l, 0 ≤ x) → 0 ≤ l.sum ∧ ∀ x ∈ l, x ≤ l.sum
  | [], _ => by simp
  | x :: l, h => by
    have h1 := sum_ge (l := l) fun y hy => h y (by simp [hy])
    have h2 := h x (by simp)
    simp only [List.sum_cons]
    refine ⟨by omega, fun y hy => ?_⟩
    rcases List.mem_cons.mp hy with rfl | hy
    · omega
    · have := h1.2 y hy; omega
theorem GDr.m {d : List (Int × Int)} (h : GDr d) : 0 < mW d ∧ mW d ≤ 1000000 := by
  have hne : d.map Prod.snd ≠ [] := by simpa using h.ne
  have := (maxI_spec hne).1
  obtain ⟨p, hp, e⟩ := List.mem_map.mp this
  have := h.w p hp
  unfold mW
  omega
theorem GDr.s {d : List (Int × Int)} (h : GDr d) : 0 < sW d ∧ sW d ≤ 6000000 := by
  have h1 : ∀ x ∈ d.map Prod.snd, 0 < x ∧ x ≤ 1000000 := fun x hx => by obtain ⟨p, hp, rfl⟩ := List.mem_map.mp hx; exact h.w p hp
  have h2 := sum_le (K := 1000000) fun x hx => (h1 x hx).2
  have h3 := sum_ge (l := d.map Prod.snd) fun x hx => by have := h1 x hx; omega
  have h4 := h.len
  simp only [List.length_map] at h2
  have hne : d.map Prod.snd ≠ [] := by simpa using h.ne
  obtain ⟨x, hx⟩ := List.exists_mem_of_ne_nil _ hne
  have := h1 x hx
  have := h3.2 x hx
  unfold sW
  omega
theorem GDr.bm {d : List (Int × Int)} (h : GDr d) : Bd 1 (mW d) := Bd1 (by have := h.m; omega) (by have := h.m; omega)
theorem GDr.bs {d : List (Int × Int)} (h : GDr d) : Bd 1 (sW d) := Bd1 (by have := h.s; omega) (by have := h.s; omega)
theorem GDr.bw {d : List (Int × Int)} (h : GDr d) {p : Int × Int} (hp : p ∈ d) : Bd 1 p.2 := Bd1 (by have := h.w p hp; omega) (by have := h.w p hp; omega)
def wM (d : List (Int × Int)) : M := .lst (d.map fun p => .d (.int p.2))
theorem intsOf_w : ∀ d : List (Int × Int), intsOf (d.map fun p => M.d (.int p.2)) = some (d.map Prod.snd)
  | [] => rfl
  | p :: d => by simp [intsOf, intsOf_w d]
theorem bSum_w (d : List (Int × Int)) : bSum [wM d] = .ok (.int (sW d)) := by
  simp only [wM, bSum, M.seq, intsOf_w]
  rfl
theorem bMax_w {d : List (Int × Int)} (h : d ≠ []) : bMaxL [wM d] = .ok (.int (mW d)) := by
  simp only [wM, bMaxL, M.seq, intsOf_w]
  cases d with
  | nil => exact absurd rfl h
  | cons p d => rfl
def pT (ds : List (List (Int × Int))) : Int := (ds.map mW).foldr (· * ·) 1
def pS (ds : List (List (Int × Int))) : Int := (ds.map sW).foldr (· * ·) 1
theorem pT_bd : ∀ {ds : List (List (Int × Int))}, (∀ d ∈ ds, GDr d) → Bd ds.length (pT ds)
  | [], _ => Bd.one 0
  | d :: ds, h => by
    have h1 := pT_bd (ds := ds) fun x hx => h x (by simp [hx])
    have h2 := (h d (by simp)).bm.mul h1
    rw [Nat.add_comm] at h2
    exact h2
theorem pS_bd : ∀ {ds : List (List (Int × Int))}, (∀ d ∈ ds, GDr d) → Bd ds.length (pS ds) ∧ 0 < pS ds
  | [], _ => ⟨Bd.one 0, by decide⟩
  | d :: ds, h => by
    have h1 := pS_bd (ds := ds) fun x hx => h x (by simp [hx])
    have h2 := (h d (by simp)).bs.mul h1.1
    rw [Nat.add_comm] at h2
    exact ⟨h2, Int.mul_pos (h d (by simp)).s.1 h1.2⟩
theorem brw_drw (d : List (Int × Int)) : brw (.d (drwD d)) = some (false, d.map fun p => pI p.1 p.2) := rfl
/-- the inner comprehension -/
theorem skip_in {A B C : Option M} {t b : Int} {d : List (Int × Int)} {z6 : Option M} {j k : Nat} (hd : GDr d) (ht : Bd j t) (hb : Bd k b) (hj : j ≤ 200) (hk : k ≤ 200) :
    ∃ z6', fb_skipped_1 [A, B, C, some (.d (.int t)), some (.d (.int b)), some (.d (drwD d)), z6, none, none] = .ok (.nx, [A, B, C, some (.d (.int (t * mW d))), some (.d (.int (b * sW d))), some (.d (drwD d)), z6', none, none]) := by
  have c1 : CMulD t (mW d) := ht.cmul hd.bm
  have c2 : CMulD b (sW d) := hb.cmul hd.bs
  have hlc := lclw_map (own := [7, 8]) (ws := [5]) (env0 := [A, B, C, some (.d (.int t)), some (.d (.int b)), some (.d (drwD d)), z6, none, none]) (g := sgTup 2 (sgCons (sgN 7) (sgCons (sgN 8) (sgNil)))) (c := sbYes) (f := sN 8) (env := [A, B, C, some (.d (.int t)), some (.d (.int b)), some (.d (drwD d)), z6, none, none]) (fun p : Int × Int => pI p.1 p.2) (fun p => M.d (.int p.2)) (fun _ _ => rfl) d [] (fun p hp =>
    ⟨[A, B, C, some (.d (.int t)), some (.d (.int b)), some (.d (drwD d)), z6, some (.d (.int p.1)), some (.d (.int p.2))], _, _, by simp [itemsD, itemsLT, runF, ssSeq, ssSet, ssIf, ssRet, ssDrop, ssNil, ssRaise, ssPar, setAll, ssAsg, sgN, sgNil, sgCons, sgTup, sbE, sbNot, sbAnd, sbOr, sNotV, sAndV, sOrV, sIf, sV, v2, vN, vC, getE, sN, sT, s2, s2v, s2n, sCall, saCons, saNil, putBack, killAll, sTup, mTup, isD, unD, sLst, vIx, mIdx, M.seq, atI, ixN, vB, vaCons, vaNil, bAbs, b1I, b2I, bLen, vIsi, tyM, tyD, isiB, fz, oAdd_int, oSub_int, oMul_int, oFdiv_int, oMod_int, oPow_int, oLt_int, oLe_int, oGt_int, oGe_int, oEq_int, oNe_int, sizeLine_eq, vNeg, ssSetI, sMeth, isLst, mAppend], rfl, by simp [runF, ssSeq, ssSet, ssIf, ssRet, ssDrop, ssNil, ssRaise, ssPar, setAll, ssAsg, sgN, sgNil, sgCons, sgTup, sbE, sbNot, sbAnd, sbOr, sNotV, sAndV, sOrV, sIf, sV, v2, vN, vC, getE, sN, sT, s2, s2v, s2n, sCall, saCons, saNil, putBack, killAll, sTup, mTup, isD, unD, sLst, vIx, mIdx, M.seq, atI, ixN, vB, vaCons, vaNil, bAbs, b1I, b2I, bLen, vIsi, tyM, tyD, isiB, fz, oAdd_int, oSub_int, oMul_int, oFdiv_int, oMod_int, oPow_int, oLt_int, oLe_int, oGt_int, oGe_int, oEq_int, oNe_int, sizeLine_eq, vNeg, ssSetI, sMeth, isLst, mAppend]; rfl, rfl⟩)
  refine ⟨some (wM d), ?_⟩
  unfold fb_skipped_1
  rw [ssSeq_nx (e := [A, B, C, some (.d (.int t)), some (.d (.int b)), some (.d (drwD d)), some (wM d), none, none]) (by
    have hk' : killAll [7, 8] [A, B, C, some (.d (.int t)), some (.d (.int b)), some (.d (drwD d)), z6, none, none] = [A, B, C, some (.d (.int t)), some (.d (.int b)), some (.d (drwD d)), z6, none, none] := rfl
    simp only [ssSet, sLcW, iwN, getE, List.getElem?_cons_succ, List.getElem?_cons_zero, brw_drw, hk', hlc]
    rw [if_pos ⟨by have := hd.len; simp only [List.length_map, sizeLine_eq]; omega, by decide⟩]
    simp [wM])]
  rw [ssSeq_nx (e := [A, B, C, some (.d (.int (t * mW d))), some (.d (.int b)), some (.d (drwD d)), some (wM d), none, none]) (by simp [bMax_w hd.ne, oMul_int c1, runF, ssSeq, ssSet, ssIf, ssRet, ssDrop, ssNil, ssRaise, ssPar, setAll, ssAsg, sgN, sgNil, sgCons, sgTup, sbE, sbNot, sbAnd, sbOr, sNotV, sAndV, sOrV, sIf, sV, v2, vN, vC, getE, sN, sT, s2, s2v, s2n, sCall, saCons, saNil, putBack, killAll, sTup, mTup, isD, unD, sLst, vIx, mIdx, M.seq, atI, ixN, vB, vaCons, vaNil, bAbs, b1I, b2I, bLen, vIsi, tyM, tyD, isiB, fz, oAdd_int, oSub_int, oMul_int, oFdiv_int, oMod_int, oPow_int, oLt_int, oLe_int, oGt_int, oGe_int, oEq_int, oNe_int, sizeLine_eq, vNeg, ssSetI, sMeth, isLst, mAppend])]
  simp [bSum_w, oMul_int c2, runF, ssSeq, ssSet, ssIf, ssRet, ssDrop, ssNil, ssRaise, ssPar, setAll, ssAsg, sgN, sgNil, sgCons, sgTup, sbE, sbNot, sbAnd, sbOr, sNotV, sAndV, sOrV, sIf, sV, v2, vN, vC, getE, sN, sT, s2, s2v, s2n, sCall, saCons, saNil, putBack, killAll, sTup, mTup, isD, unD, sLst, vIx, mIdx, M.seq, atI, ixN, vB, vaCons, vaNil, bAbs, b1I, b2I, bLen, vIsi, tyM, tyD, isiB, fz, oAdd_int, oSub_int, oMul_int, oFdiv_int, oMod_int, oPow_int, oLt_int, oLe_int, oGt_int, oGe_int, oEq_int, oNe_int, sizeLine_eq, vNeg, ssSetI, sMeth, isLst, mAppend]
abbrev dsD (ds : List (List (Int × Int))) : D := .lst (ds.map drwD)
def midD (ds : List (List (Int × Int))) (lo hi : Nat) : List (List (Int × Int)) := (ds.take hi).drop lo
theorem skipped_int {ds : List (List (Int × Int))} {lo hi : Nat} (hd : ∀ d ∈ ds, GDr d) (hl : ds.length ≤ 24) :
    F_skipped [.d (dsD ds), .d (.int lo), .d (.int hi)] = .ok (.d (pI (lowT (pT (midD ds lo hi)) (pS (midD ds lo hi))) (lowB (pT (midD ds lo hi)) (pS (midD ds lo hi)))), [some (.d (dsD ds)), some (.d (.int lo)), some (.d (.int hi))]) := by
  have hm : ∀ d ∈ midD ds lo hi, GDr d := fun d h => hd d (List.mem_of_mem_take (List.mem_of_mem_drop h))
  have hml : (midD ds lo hi).length ≤ 24 := by unfold midD; simp; omega
  obtain ⟨e', h1, t, b, z5, z6, he, rfl⟩ := fl_all (g := fg_skipped_1) (b := fb_skipped_1) drwD
    (fun rest env => ∃ t b z5 z6, (∃ j, Bd j t ∧ Bd j b ∧ j + rest.length ≤ 24 ∧ (∀ d ∈ rest, GDr d) ∧ t * pT rest = pT (midD ds lo hi) ∧ b * pS rest = pS (midD ds lo hi)) ∧ env = [some (.d (dsD ds)), some (.d (.int lo)), some (.d (.int hi)), some (.d (.int t)), some (.d (.int b)), z5, z6, none, none])
    (fun d rest env hI => by
      obtain ⟨t, b, z5, z6, ⟨j, ht, hb, hj, hr, e1, e2⟩, rfl⟩ := hI
      simp only [List.length_cons] at hj
      obtain ⟨z6', hb'⟩ := skip_in (A := some (.d (dsD ds))) (B := some (.d (.int lo))) (C := some (.d (.int hi))) (z6 := z6) (hr d (by simp)) ht hb (by omega) (by omega)
      refine ⟨[some (.d (dsD ds)), some (.d (.int lo)), some (.d (.int hi)), some (.d (.int t)), some (.d (.int b)), some (.d (drwD d)), z6, none, none], _, .nx, by simp [fg_skipped_1, sgN], hb', .inl rfl, _, _, _, _, ⟨j + 1, ht.mul (hr d (by simp)).bm, hb.mul (hr d (by simp)).bs, by omega, fun x hx => hr x (by simp [hx]), ?_, ?_⟩, rfl⟩
      · rw [Int.mul_assoc]; exact e1
      · rw [Int.mul_assoc]; exact e2)
    (midD ds lo hi) [some (.d (dsD ds)), some (.d (.int lo)), some (.d (.int hi)), some (.d (.int 1)), some (.d (.int 1)), none, none, none, none]
    ⟨1, 1, none, none, ⟨0, Bd.one 0, Bd.one 0, by omega, hm, by simp, by simp⟩, rfl⟩
  obtain ⟨_, _, _, _, _, e1, e2⟩ := he
  have e1' : t = pT (midD ds lo hi) := by simpa [pT] using e1
  have e2' : b = pS (midD ds lo hi) := by simpa [pS] using e2
  subst e1' e2'
  have hps := pS_bd hm
  have hf := Bd.frac (t := pT (midD ds lo hi)) hps.1 (by omega) hps.2
  have hc : cutL (ds.map drwD) (some (lo : Int)) (some (hi : Int)) = (midD ds lo hi).map drwD := by
    rw [cutL_mid _ (by omega) (by omega)]
    unfold midD
    simp
  unfold F_skipped
  refine runF_ret (e := [some (.d (dsD ds)), some (.d (.int lo)), some (.d (.int hi)), some (.d (.int (pT (midD ds lo hi)))), some (.d (.int (pS (midD ds lo hi)))), z5, z6, none, none]) ?_
  unfold b_skipped
  show ssSeq _ _ [some (.d (dsD ds)), some (.d (.int lo)), some (.d (.int hi)), none, none, none, none, none, none] = _
  rw [ssSeq_nx (e := [some (.d (dsD ds)), some (.d (.int lo)), some (.d (.int hi)), some (.d (.int 1)), none, none, none, none, none]) (by simp [runF, ssSeq, ssSet, ssIf, ssRet, ssDrop, ssNil, ssRaise, ssPar, setAll, ssAsg, sgN, sgNil, sgCons, sgTup, sbE, sbNot, sbAnd, sbOr, sNotV, sAndV, sOrV, sIf, sV, v2, vN, vC, getE, sN, sT, s2, s2v, s2n, sCall, saCons, saNil, putBack, killAll, sTup, mTup, isD, unD, sLst, vIx, mIdx, M.seq, atI, ixN, vB, vaCons, vaNil, bAbs, b1I, b2I, bLen, vIsi, tyM, tyD, isiB, fz, oAdd_int, oSub_int, oMul_int, oFdiv_int, oMod_int, oPow_int, oLt_int, oLe_int, oGt_int, oGe_int, oEq_int, oNe_int, sizeLine_eq, vNeg, ssSetI, sMeth, isLst, mAppend])]
  rw [ssSeq_nx (e := [some (.d (dsD ds)), some (.d (.int lo)), some (.d (.int hi)), some (.d (.int 1)), some (.d (.int 1)), none, none, none, none]) (by simp [runF, ssSeq, ssSet, ssIf, ssRet, ssDrop, ssNil, ssRaise, ssPar, setAll, ssAsg, sgN, sgNil, sgCons, sgTup, sbE, sbNot, sbAnd, sbOr, sNotV, sAndV, sOrV, sIf, sV, v2, vN, vC, getE, sN, sT, s2, s2v, s2n, sCall, saCons, saNil, putBack, killAll, sTup, mTup, isD, unD, sLst, vIx, mIdx, M.seq, atI, ixN, vB, vaCons, vaNil, bAbs, b1I, b2I, bLen, vIsi, tyM, tyD, isiB, fz, oAdd_int, oSub_int, oMul_int, oFdiv_int, oMod_int, oPow_int, oLt_int, oLe_int, oGt_int, oGe_int, oEq_int, oNe_int, sizeLine_eq, vNeg, ssSetI, sMeth, isLst, mAppend])]
  rw [ssSeq_nx (show ssFor (siQ (sSl (vN 0) (voI (vN 1)) (voI (vN 2)))) fg_skipped_1 fb_skipped_1 _ = _ from by
    simp only [ssFor, siQ, sSl, vN, voI, getE, List.getElem?_cons_succ, List.getElem?_cons_zero, slM_lst, hc, fz, fzs_d, itemsD]
    exact h1)]
  simp [hf, runF, ssSeq, ssSet, ssIf, ssRet, ssDrop, ssNil, ssRaise, ssPar, setAll, ssAsg, sgN, sgNil, sgCons, sgTup, sbE, sbNot, sbAnd, sbOr, sNotV, sAndV, sOrV, sIf, sV, v2, vN, vC, getE, sN, sT, s2, s2v, s2n, sCall, saCons, saNil, putBack, killAll, sTup, mTup, isD, unD, sLst, vIx, mIdx, M.seq, atI, ixN, vB, vaCons, vaNil, bAbs, b1I, b2I, bLen, vIsi, tyM, tyD, isiB, fz, oAdd_int, oSub_int, oMul_int, oFdiv_int, oMod_int, oPow_int, oLt_int, oLe_int, oGt_int, oGe_int, oEq_int, oNe_int, sizeLine_eq, vNeg, ssSetI, sMeth, isLst, mAppend]
/-! ### entries -/
inductive Ent where
  | leaf (x : D) | ask (s : Nat) (cs : List Nat)
def entD : Ent → D
  | .leaf x => .tup [.str (Str.ofString "leaf"), x]
  | .ask s cs => .tup [.str (Str.ofString "ask"), .int s, .lst (cs.map fun (c : Nat) => .int (c : Int))]
def site (n : Nat) : Ent → Nat
  | .leaf _ => n
  | .ask s _ => s
theorem lf_sl : Str.ofString "leaf" = sl [108, 101, 97, 102] := by rw [slOf]; congr 1
theorem ak_sl : Str.ofString "ask" = sl [97, 115, 107] := by rw [slOf]; congr 1
theorem eq_ll : oEq (.d (.str (Str.ofString "leaf"))) (.d (.str (Str.ofString "leaf"))) = .ok (.bl true) := by rw [lf_sl, oEq_str]; rfl
theorem eq_al : oEq (.d (.str (Str.ofString "ask"))) (.d (.str (Str.ofString "leaf"))) = .ok (.bl false) := by rw [lf_sl, ak_sl, oEq_str]; rfl
theorem ix_l0 {x : D} : mIdx (.d (entD (.leaf x))) (.d (.int 0)) = .ok (.d (.str (Str.ofString "leaf"))) := rfl
theorem ix_l1 {x : D} : mIdx (.d (entD (.leaf x))) (.d (.int 1)) = .ok (.d x) := rfl
theorem ix_a0 {s : Nat} {cs : List Nat} : mIdx (.d (entD (.ask s cs))) (.d (.int 0)) = .ok (.d (.str (Str.ofString "ask"))) := rfl
theorem ix_a1 {s : Nat} {cs : List Nat} : mIdx (.d (entD (.ask s cs))) (.d (.int 1)) = .ok (.d (.int s)) := rfl
theorem ix_a2 {s : Nat} {cs : List Nat} : mIdx (.d (entD (.ask s cs))) (.d (.int 2)) = .ok (.d (.lst (cs.map fun (c : Nat) => .int (c : Int)))) := rfl
theorem mIdx_n {xs : List D} {c : Nat} {x : D} (h : xs[c]? = some x) : mIdx (.d (.lst xs)) (.d (.int (c : Int))) = .ok (.d x) := by
  have hl := (List.getElem?_eq_some_iff.mp h).1
  have e : atI (xs.map M.d) (c : Int) = some (.d x) := by rw [atI_nat (by simpa using hl)]; simp [h]
  simp only [mIdx, M.seq, e]
theorem mIdx_m {ms : List M} {c : Nat} {x : M} (h : ms[c]? = some x) : mIdx (.lst ms) (.d (.int (c : Int))) = .ok x := by
  have hl := (List.getElem?_eq_some_iff.mp h).1
  have e : atI ms (c : Int) = some x := by rw [atI_nat hl]; exact h
  simp only [mIdx, M.seq, e]
theorem bLen_ds (ds : List (List (Int × Int))) : bLen [.d (dsD ds)] = .ok (.int ds.length) := by simp [bLen, dsD, M.seq]
theorem own_int (e : Ent) (ds : List (List (Int × Int))) : F_own_site [.d (entD e), .d (dsD ds)] = .ok (.d (.int (site ds.length e)), [some (.d (entD e)), some (.d (dsD ds))]) := by
  cases e with
  | leaf x => simp [F_own_site, b_own_site, runF, ssSeq, ssIf, sbE, sV, v2, vIx, vN, vC, getE, ix_l0, eq_ll, ssRet, vB, vaCons, vaNil, bLen_ds, killAll, site]
  | ask s cs => simp [F_own_site, b_own_site, runF, ssSeq, ssIf, sbE, sV, v2, vIx, vN, vC, getE, ix_a0, ix_a1, eq_al, ssRet, vB, vaCons, vaNil, ssNil, killAll, site]
theorem mm4 (a b c d : Int) : a * b * (c * d) = a * c * (b * d) := by rw [Int.mul_assoc, Int.mul_assoc, Int.mul_left_comm b]
/-! ### low products -/
theorem low_times {w S T B : Int} (hS : 0 < S) (hB : 0 < B) : lowT (lowT w S * lowT T B) (lowB w S * lowB T B) = lowT (w * T) (S * B) ∧ lowB (lowT w S * lowT T B) (lowB w S * lowB T B) = lowB (w * T) (S * B) :=
  low_eq (Int.mul_pos (lowB_pos hS) (lowB_pos hB)) (Int.mul_pos hS hB) (by rw [mm4, low_cross, low_cross, mm4])
theorem low_times2 {X Y t b : Int} (hY : 0 < Y) (hb : 0 < b) : lowT (lowT X Y * t) (lowB X Y * b) = lowT (X * t) (Y * b) ∧ lowB (lowT X Y * t) (lowB X Y * b) = lowB (X * t) (Y * b) :=
  low_eq (Int.mul_pos (lowB_pos hY) hb) (Int.mul_pos hY hb) (by rw [mm4, low_cross, mm4])
abbrev pD (q : Int × Int) : D := pI q.1 q.2
/-! ### shares_of -/
theorem shares_int {d : List (Int × Int)} (hd : GDr d) : F_shares_of [.d (drwD d)] = .ok (.lst (d.map fun p => .d (pI (lowT p.2 (sW d)) (lowB p.2 (sW d)))), [some (.d (drwD d))]) := by
  have h1 := lclw_map (own := [2, 3]) (ws := [0]) (env0 := [some (.d (drwD d)), none, none, none]) (g := sgTup 2 (sgCons (sgN 2) (sgCons (sgN 3) (sgNil)))) (c := sbYes) (f := sN 3) (env := [some (.d (drwD d)), none, none, none]) (fun p : Int × Int => pI p.1 p.2) (fun p => M.d (.int p.2)) (fun _ _ => rfl) d [] (fun p hp =>
    ⟨[some (.d (drwD d)), none, some (.d (.int p.1)), some (.d (.int p.2))], _, _, by simp [itemsD, itemsLT, runF, ssSeq, ssSet, ssIf, ssRet, ssDrop, ssNil, ssRaise, ssPar, setAll, ssAsg, sgN, sgNil, sgCons, sgTup, sbE, sbNot, sbAnd, sbOr, sNotV, sAndV, sOrV, sIf, sV, v2, vN, vC, getE, sN, sT, s2, s2v, s2n, sCall, saCons, saNil, putBack, killAll, sTup, mTup, isD, unD, sLst, vIx, mIdx, M.seq, atI, ixN, vB, vaCons, vaNil, bAbs, b1I, b2I, bLen, vIsi, tyM, tyD, isiB, fz, oAdd_int, oSub_int, oMul_int, oFdiv_int, oMod_int, oPow_int, oLt_int, oLe_int, oGt_int, oGe_int, oEq_int, oNe_int, sizeLine_eq, vNeg, ssSetI, sMeth, isLst, mAppend], rfl, by simp [runF, ssSeq, ssSet, ssIf, ssRet, ssDrop, ssNil, ssRaise, ssPar, setAll, ssAsg, sgN, sgNil, sgCons, sgTup, sbE, sbNot, sbAnd, sbOr, sNotV, sAndV, sOrV, sIf, sV, v2, vN, vC, getE, sN, sT, s2, s2v, s2n, sCall, saCons, saNil, putBack, killAll, sTup, mTup, isD, unD, sLst, vIx, mIdx, M.seq, atI, ixN, vB, vaCons, vaNil, bAbs, b1I, b2I, bLen, vIsi, tyM, tyD, isiB, fz, oAdd_int, oSub_int, oMul_int, oFdiv_int, oMod_int, oPow_int, oLt_int, oLe_int, oGt_int, oGe_int, oEq_int, oNe_int, sizeLine_eq, vNeg, ssSetI, sMeth, isLst, mAppend]; rfl, rfl⟩)
  have h2 := lclw_map (own := [2, 3]) (ws := [0]) (env0 := [some (.d (drwD d)), some (.d (.int (sW d))), none, none]) (g := sgTup 2 (sgCons (sgN 2) (sgCons (sgN 3) (sgNil)))) (c := sbYes) (f := sCall F_fraction [none, none] (saCons (sN 3) (saCons (sN 1) (saNil)))) (env := [some (.d (drwD d)), some (.d (.int (sW d))), none, none]) (fun p : Int × Int => pI p.1 p.2) (fun p => M.d (pI (lowT p.2 (sW d)) (lowB p.2 (sW d)))) (fun _ _ => rfl) d [] (fun p hp =>
    ⟨[some (.d (drwD d)), some (.d (.int (sW d))), some (.d (.int p.1)), some (.d (.int p.2))], _, _, by simp [itemsD, itemsLT, runF, ssSeq, ssSet, ssIf, ssRet, ssDrop, ssNil, ssRaise, ssPar, setAll, ssAsg, sgN, sgNil, sgCons, sgTup, sbE, sbNot, sbAnd, sbOr, sNotV, sAndV, sOrV, sIf, sV, v2, vN, vC, getE, sN, sT, s2, s2v, s2n, sCall, saCons, saNil, putBack, killAll, sTup, mTup, isD, unD, sLst, vIx, mIdx, M.seq, atI, ixN, vB, vaCons, vaNil, bAbs, b1I, b2I, bLen, vIsi, tyM, tyD, isiB, fz, oAdd_int, oSub_int, oMul_int, oFdiv_int, oMod_int, oPow_int, oLt_int, oLe_int, oGt_int, oGe_int, oEq_int, oNe_int, sizeLine_eq, vNeg, ssSetI, sMeth, isLst, mAppend], rfl, by
      have hf := Bd.frac (t := p.2) hd.bs (by decide) hd.s.1
      simp [hf, runF, ssSeq, ssSet, ssIf, ssRet, ssDrop, ssNil, ssRaise, ssPar, setAll, ssAsg, sgN, sgNil, sgCons, sgTup, sbE, sbNot, sbAnd, sbOr, sNotV, sAndV, sOrV, sIf, sV, v2, vN, vC, getE, sN, sT, s2, s2v, s2n, sCall, saCons, saNil, putBack, killAll, sTup, mTup, isD, unD, sLst, vIx, mIdx, M.seq, atI, ixN, vB, vaCons, vaNil, bAbs, b1I, b2I, bLen, vIsi, tyM, tyD, isiB, fz, oAdd_int, oSub_int, oMul_int, oFdiv_int, oMod_int, oPow_int, oLt_int, oLe_int, oGt_int, oGe_int, oEq_int, oNe_int, sizeLine_eq, vNeg, ssSetI, sMeth, isLst, mAppend]; rfl, rfl⟩)
  have hl := hd.len
  unfold F_shares_of
  refine runF_ret (e := [some (.d (drwD d)), some (.d (.int (sW d))), none, none]) ?_
  unfold b_shares_of
  show ssSeq _ _ [some (.d (drwD d)), none, none, none] = _
  have k1 : killAll [2, 3] [some (.d (drwD d)), none, none, none] = [some (.d (drwD d)), none, none, none] := rfl
  have k2 : killAll [2, 3] [some (.d (drwD d)), some (.d (.int (sW d))), none, none] = [some (.d (drwD d)), some (.d (.int (sW d))), none, none] := rfl
  have b1 := bSum_w d
  unfold wM at b1
  rw [ssSeq_nx (e := [some (.d (drwD d)), some (.d (.int (sW d))), none, none]) (by
    simp only [ssSet, sB, saCons, saNil, sLcW, iwN, getE, List.getElem?_cons_zero, brw_drw, k1, h1]
    rw [if_pos ⟨by simp only [List.length_map, sizeLine_eq]; omega, by decide⟩]
    simp [b1])]
  simp only [ssRet, sLcW, iwN, getE, List.getElem?_cons_zero, brw_drw, k2, h2]
  rw [if_pos ⟨by simp only [List.length_map, sizeLine_eq]; omega, by decide⟩]
  simp
/-! ### worths -/
structure OkC (ds : List (List (Int × Int))) (ps : List Ent) (fs : List (Int × Int)) (s c : Nat) : Prop where
  ex : ∃ e q, ps[c]? = some e ∧ fs[c]? = some q ∧ s < site ds.length e ∧ site ds.length e ≤ ds.length ∧ Bd (ds.length - site ds.length e) q.1 ∧ Bd (ds.length - site ds.length e) q.2 ∧ 0 < q.2
def woE (ds : List (List (Int × Int))) (S : Int) (s : Nat) (w : Int) (e : Ent) (q : Int × Int) : Int × Int :=
  (lowT (w * pT (midD ds (s + 1) (site ds.length e)) * q.1) (S * pS (midD ds (s + 1) (site ds.length e)) * q.2), lowB (w * pT (midD ds (s + 1) (site ds.length e)) * q.1) (S * pS (midD ds (s + 1) (site ds.length e)) * q.2))
def wo (ds : List (List (Int × Int))) (ps : List Ent) (fs : List (Int × Int)) (S : Int) (s : Nat) (w : Int) (c : Nat) : Int × Int :=
  woE ds S s w (ps.getD c (.leaf .non)) (fs.getD c (0, 1))
theorem zip_pairs {α β : Type} (f : α → D) (g : β → D) : ∀ (xs : List α) (ys : List β), List.zipWith pairD (xs.map f) (ys.map g) = (List.zip xs ys).map fun p => pairD (f p.1) (g p.2)
  | [], _ => by simp
  | _ :: _, [] => by simp
  | x :: xs, y :: ys => by simp [zip_pairs f g xs ys]
abbrev wE (s : Nat) (cs : List Nat) (ps : List Ent) (ds : List (List (Int × Int))) (fs : List (Int × Int)) (a z5 z6 z7 : Option M) : FL.Env :=
  [some (.d (entD (.ask s cs))), some (.d (.lst (ps.map entD))), some (.d (dsD ds)), some (.lst (fs.map fun q => .d (pD q))), a, z5, z6, z7]
theorem worth_in {s : Nat} {cs : List Nat} {ps : List Ent} {ds : List (List (Int × Int))} {fs done : List (Int × Int)} {d : List (Int × Int)} {p : Int × Int} {c : Nat} {z7 : Option M}
    (hds : ∀ d ∈ ds, GDr d) (hl : ds.length ≤ 24) (hd : GDr d) (hp : p ∈ d) (hs : s < ds.length) (ok : OkC ds ps fs s c) (hdn : done.length < 100) :
    ∃ z7', fb_worths_1 (wE s cs ps ds fs (some (.lst (done.map fun q => .d (pD q)))) (some (.d (pI (lowT p.2 (sW d)) (lowB p.2 (sW d))))) (some (.d (.int (c : Int)))) z7) =
      .ok (.nx, wE s cs ps ds fs (some (.lst ((done ++ [wo ds ps fs (sW d) s p.2 c]).map fun q => .d (pD q)))) (some (.d (pI (lowT p.2 (sW d)) (lowB p.2 (sW d))))) (some (.d (.int (c : Int)))) z7') := by
  obtain ⟨e, q, he, hq, h1, h2, b1, b2, b3⟩ := ok.ex
  have hw : wo ds ps fs (sW d) s p.2 c = woE ds (sW d) s p.2 e q := by simp [wo, he, hq]
  rw [hw]
  unfold woE
  obtain ⟨m, hm⟩ : ∃ m, m = midD ds (s + 1) (site ds.length e) := ⟨_, rfl⟩
  have hml : m.length ≤ site ds.length e - (s + 1) := by rw [hm]; unfold midD; simp; omega
  have hmg : ∀ d ∈ m, GDr d := fun d h => by rw [hm] at h; exact hds d (List.mem_of_mem_take (List.mem_of_mem_drop h))
  have hsk := skipped_int (lo := s + 1) (hi := site ds.length e) hds hl
  rw [← hm] at hsk ⊢
  have t1 := pT_bd hmg
  have t2 := pS_bd hmg
  have u1 := (hd.bw hp).lowT (b := sW d) hd.s.1
  have u2 := hd.bs.lowB (t := p.2) hd.s.1
  have u3 := t1.lowT (b := pS m) t2.2
  have u4 := t2.1.lowB (t := pT m) t2.2
  have m1 := times_int u1 u2 u3 u4 (lowB_pos hd.s.1) (lowB_pos t2.2) (by omega)
  rw [(low_times hd.s.1 t2.2).1, (low_times hd.s.1 t2.2).2] at m1
  have y1 := ((hd.bw hp).mul t1).lowT (b := sW d * pS m) (Int.mul_pos hd.s.1 t2.2)
  have y2 := (hd.bs.mul t2.1).lowB (t := p.2 * pT m) (Int.mul_pos hd.s.1 t2.2)
  have m2 := times_int y1 y2 b1 b2 (lowB_pos (Int.mul_pos hd.s.1 t2.2)) b3 (by omega)
  rw [(low_times2 (Int.mul_pos hd.s.1 t2.2) b3).1, (low_times2 (Int.mul_pos hd.s.1 t2.2) b3).2] at m2
  have i1 : mIdx (.d (.lst (ps.map entD))) (.d (.int (c : Int))) = .ok (.d (entD e)) := mIdx_n (by simp [he])
  have i2 : mIdx (.lst (fs.map fun q => M.d (pD q))) (.d (.int (c : Int))) = .ok (.d (pD q)) := mIdx_m (by simp [hq])
  have ho := own_int e ds
  have c1 : ((s : Int) + 1) = ((s + 1 : Nat) : Int) := by omega
  refine ⟨some (.d (pI (lowT (pT m) (pS m)) (lowB (pT m) (pS m)))), ?_⟩
  unfold fb_worths_1
  rw [ssSeq_nx (e := wE s cs ps ds fs (some (.lst (done.map fun q => .d (pD q)))) (some (.d (pI (lowT p.2 (sW d)) (lowB p.2 (sW d))))) (some (.d (.int (c : Int)))) (some (.d (pI (lowT (pT m) (pS m)) (lowB (pT m) (pS m)))))) (by
    simp only [ssSet, sCall, saCons, saNil, sN, sV, v2, vIx, vN, vC, getE, wE, List.getElem?_cons_succ, List.getElem?_cons_zero, fz, ix_a1, oAdd_int, i1, ho, putBack, c1, hsk]
    simp)]
  have hdn' : (done.map fun q => M.d (pD q)).length < sizeLine := by rw [sizeLine_eq, List.length_map]; omega
  simp only [ssDrop, sMeth, sCall, saCons, saNil, sN, sV, v2, vIx, vN, vC, getE, wE, List.getElem?_cons_succ, List.getElem?_cons_zero, fz, i2, m1, m2, putBack, isLst, if_true, mAppend, if_pos hdn']
  simp
def wos (ds : List (List (Int × Int))) (ps : List Ent) (fs : List (Int × Int)) (d : List (Int × Int)) (s : Nat) (cs : List Nat) : List (Int × Int) := (List.zip d cs).map fun x => wo ds ps fs (sW d) s x.1.2 x.2
def shcD (S : Int) (x : (Int × Int) × Nat) : D := pairD (pI (lowT x.1.2 S) (lowB x.1.2 S)) (.int (x.2 : Int))
theorem worths_int {s : Nat} {cs : List Nat} {ps : List Ent} {ds : List (List (Int × Int))} {fs : List (Int × Int)} {d : List (Int × Int)}
    (hds : ∀ d ∈ ds, GDr d) (hl : ds.length ≤ 24) (hd : ds[s]? = some d) (ok : ∀ c ∈ cs, OkC ds ps fs s c) :
    F_worths [.d (entD (.ask s cs)), .d (.lst (ps.map entD)), .d (dsD ds), .lst (fs.map fun q => .d (pD q))] =
      .ok (.lst ((wos ds ps fs d s cs).map fun q => .d (pD q)), [some (.d (entD (.ask s cs))), some (.d (.lst (ps.map entD))), some (.d (dsD ds)), some (.lst (fs.map fun q => .d (pD q)))]) := by
  have hgd : GDr d := hds d (List.mem_of_getElem? hd)
  have hs : s < ds.length := (List.getElem?_eq_some_iff.mp hd).1
  have hzl : (List.zip d cs).length ≤ 6 := by have := hgd.len; rw [List.length_zip]; omega
  obtain ⟨e', h1, done, z5, z6, z7, he, rfl⟩ := fl_all (g := fg_worths_1) (b := fb_worths_1) (shcD (sW d))
    (fun rest env => ∃ done z5 z6 z7, (done ++ rest.map (fun x => wo ds ps fs (sW d) s x.1.2 x.2) = wos ds ps fs d s cs ∧ ∀ x ∈ rest, x ∈ List.zip d cs) ∧ env = wE s cs ps ds fs (some (.lst (done.map fun q => .d (pD q)))) z5 z6 z7)
    (fun x rest env hI => by
      obtain ⟨done, z5, z6, z7, ⟨e1, e2⟩, rfl⟩ := hI
      obtain ⟨p, c⟩ := x
      have hx := List.of_mem_zip (e2 (p, c) (by simp))
      have hdl : done.length < 100 := by
        have := congrArg List.length e1
        rw [List.length_append, wos, List.length_map, List.length_map] at this
        omega
      obtain ⟨z7', hb⟩ := worth_in (done := done) (z7 := z7) hds hl hgd hx.1 hs (ok c hx.2) hdl
      refine ⟨wE s cs ps ds fs (some (.lst (done.map fun q => .d (pD q)))) (some (.d (pI (lowT p.2 (sW d)) (lowB p.2 (sW d))))) (some (.d (.int (c : Int)))) z7, _, .nx, by simp [fg_worths_1, shcD, pairD, itemsD, itemsLT, wE, runF, ssSeq, ssSet, ssIf, ssRet, ssDrop, ssNil, ssRaise, ssPar, setAll, ssAsg, sgN, sgNil, sgCons, sgTup, sbE, sbNot, sbAnd, sbOr, sNotV, sAndV, sOrV, sIf, sV, v2, vN, vC, getE, sN, sT, s2, s2v, s2n, sCall, saCons, saNil, putBack, killAll, sTup, mTup, isD, unD, sLst, vIx, mIdx, M.seq, atI, ixN, vB, vaCons, vaNil, bAbs, b1I, b2I, bLen, vIsi, tyM, tyD, isiB, fz, oAdd_int, oSub_int, oMul_int, oFdiv_int, oMod_int, oPow_int, oLt_int, oLe_int, oGt_int, oGe_int, oEq_int, oNe_int, sizeLine_eq, vNeg, ssSetI, sMeth, isLst, mAppend], hb, .inl rfl, _, _, _, _, ⟨?_, fun y hy => e2 y (by simp [hy])⟩, rfl⟩
      rw [← e1]
      simp)
    (List.zip d cs) (wE s cs ps ds fs (some (.lst [])) none none none) ⟨[], none, none, none, ⟨by simp [wos], fun x hx => hx⟩, rfl⟩
  have e2 : done = wos ds ps fs d s cs := by simpa using he.1
  subst e2
  have hsh := shares_int hgd
  have i1 : mIdx (.d (dsD ds)) (.d (.int (s : Int))) = .ok (.d (drwD d)) := mIdx_n (by simp [hd])
  have hz : List.zipWith pairD (d.map fun p => pI (lowT p.2 (sW d)) (lowB p.2 (sW d))) (cs.map fun (c : Nat) => D.int (c : Int)) = (List.zip d cs).map (shcD (sW d)) := zip_pairs _ _ _ _
  unfold F_worths
  refine runF_ret (e := wE s cs ps ds fs none z5 z6 z7) ?_
  unfold b_worths
  show ssSeq _ _ (wE s cs ps ds fs none none none none) = _
  rw [ssSeq_nx (e := wE s cs ps ds fs (some (.lst [])) none none none) (by simp [wE, runF, ssSeq, ssSet, ssIf, ssRet, ssDrop, ssNil, ssRaise, ssPar, setAll, ssAsg, sgN, sgNil, sgCons, sgTup, sbE, sbNot, sbAnd, sbOr, sNotV, sAndV, sOrV, sIf, sV, v2, vN, vC, getE, sN, sT, s2, s2v, s2n, sCall, saCons, saNil, putBack, killAll, sTup, mTup, isD, unD, sLst, vIx, mIdx, M.seq, atI, ixN, vB, vaCons, vaNil, bAbs, b1I, b2I, bLen, vIsi, tyM, tyD, isiB, fz, oAdd_int, oSub_int, oMul_int, oFdiv_int, oMod_int, oPow_int, oLt_int, oLe_int, oGt_int, oGe_int, oEq_int, oNe_int, sizeLine_eq, vNeg, ssSetI, sMeth, isLst, mAppend])]
  rw [ssSeq_nx (show ssFor (siZip (saCons (sCall F_shares_of [none] (saCons (sV (vIx (vN 2) (vIx (vN 0) (vC (.int 1))))) (saNil))) (saCons (sV (vIx (vN 0) (vC (.int 2)))) (saNil)))) fg_worths_1 fb_worths_1 _ = _ from by
    simp only [ssFor, siZip, sCall, saCons, saNil, sV, vIx, vN, vC, getE, wE, List.getElem?_cons_succ, List.getElem?_cons_zero, ix_a1, ix_a2, i1, hsh, putBack, fz, fzs_map_d, itemsLT, if_true, hz]
    exact h1)]
  simp [ssRet, sT, getE, wE]
/-! ### the best one -/
def bst (b w : Int × Int) : Int × Int := if b.1 * w.2 < w.1 * b.2 then w else b
abbrev eP (P : M) (D0 : D) (fs : M) (e : D) (b z5 : Option M) : FL.Env := [some P, some (.d D0), some fs, some (.d e), b, z5]
theorem best_in {P fs : M} {D0 e : D} {b w : Int × Int} {z : Option M} {j : Nat} (h1 : Bd j b.1) (h2 : Bd j b.2) (h3 : Bd j w.1) (h4 : Bd j w.2) (hj : j ≤ 100) :
    fb_prices_2 (eP P D0 fs e (some (.d (pD b))) (some (.d (pD w)))) = .ok (.nx, eP P D0 fs e (some (.d (pD (bst b w)))) (some (.d (pD w)))) := by
  have hu := under_int h1 h2 h3 h4 (by omega)
  by_cases hb : b.1 * w.2 < w.1 * b.2
  · simp [fb_prices_2, hu, hb, bst, eP, pD, runF, ssSeq, ssSet, ssIf, ssRet, ssDrop, ssNil, ssRaise, ssPar, setAll, ssAsg, sgN, sgNil, sgCons, sgTup, sbE, sbNot, sbAnd, sbOr, sNotV, sAndV, sOrV, sIf, sV, v2, vN, vC, getE, sN, sT, s2, s2v, s2n, sCall, saCons, saNil, putBack, killAll, sTup, mTup, isD, unD, sLst, vIx, mIdx, M.seq, atI, ixN, vB, vaCons, vaNil, bAbs, b1I, b2I, bLen, vIsi, tyM, tyD, isiB, fz, oAdd_int, oSub_int, oMul_int, oFdiv_int, oMod_int, oPow_int, oLt_int, oLe_int, oGt_int, oGe_int, oEq_int, oNe_int, sizeLine_eq, vNeg, ssSetI, sMeth, isLst, mAppend]
  · simp [fb_prices_2, hu, hb, bst, eP, pD, runF, ssSeq, ssSet, ssIf, ssRet, ssDrop, ssNil, ssRaise, ssPar, setAll, ssAsg, sgN, sgNil, sgCons, sgTup, sbE, sbNot, sbAnd, sbOr, sNotV, sAndV, sOrV, sIf, sV, v2, vN, vC, getE, sN, sT, s2, s2v, s2n, sCall, saCons, saNil, putBack, killAll, sTup, mTup, isD, unD, sLst, vIx, mIdx, M.seq, atI, ixN, vB, vaCons, vaNil, bAbs, b1I, b2I, bLen, vIsi, tyM, tyD, isiB, fz, oAdd_int, oSub_int, oMul_int, oFdiv_int, oMod_int, oPow_int, oLt_int, oLe_int, oGt_int, oGe_int, oEq_int, oNe_int, sizeLine_eq, vNeg, ssSetI, sMeth, isLst, mAppend]
theorem bst_foldl_bd {j : Nat} : ∀ {ws : List (Int × Int)} {b : Int × Int}, (Bd j b.1 ∧ Bd j b.2 ∧ 0 < b.2) → (∀ w ∈ ws, Bd j w.1 ∧ Bd j w.2 ∧ 0 < w.2) → Bd j (ws.foldl bst b).1 ∧ Bd j (ws.foldl bst b).2 ∧ 0 < (ws.foldl bst b).2
  | [], b, h, _ => h
  | w :: ws, b, h, hw => by
    refine bst_foldl_bd (ws := ws) (b := bst b w) ?_ fun x hx => hw x (by simp [hx])
    unfold bst
    split
    · exact hw w (by simp)
    · exact h
theorem best_loop {P fs : M} {D0 e : D} {j : Nat} (hj : j ≤ 100) : ∀ {ws : List (Int × Int)} {b : Int × Int} {z : Option M}, (Bd j b.1 ∧ Bd j b.2 ∧ 0 < b.2) → (∀ w ∈ ws, Bd j w.1 ∧ Bd j w.2 ∧ 0 < w.2) →
    ∃ z', fl fg_prices_2 fb_prices_2 (ws.map pD) (eP P D0 fs e (some (.d (pD b))) z) = .ok (.nx, eP P D0 fs e (some (.d (pD (ws.foldl bst b)))) z')
  | [], b, z, _, _ => ⟨z, rfl⟩
  | w :: ws, b, z, h, hw => by
    have h0 := hw w (by simp)
    have hb : Bd j (bst b w).1 ∧ Bd j (bst b w).2 ∧ 0 < (bst b w).2 := by
      unfold bst
      split
      · exact h0
      · exact h
    obtain ⟨z', hz⟩ := best_loop hj (P := P) (fs := fs) (D0 := D0) (e := e) (ws := ws) (b := bst b w) (z := some (.d (pD w))) hb fun x hx => hw x (by simp [hx])
    refine ⟨z', ?_⟩
    rw [List.map_cons, fl_one (e1 := eP P D0 fs e (some (.d (pD b))) (some (.d (pD w)))) (by simp [fg_prices_2, sgN, eP]) (best_in (z := none) h.1 h.2.1 h0.1 h0.2.1 hj)]
    exact hz
def lfP (x : D) : Int × Int := (if FL.isNon (.d x) then 0 else 1, 1)
def prcE (ds : List (List (Int × Int))) (ps : List Ent) (fs : List (Int × Int)) : Ent → Int × Int
  | .leaf x => lfP x
  | .ask s cs => (wos ds ps fs (ds.getD s []) s cs).foldl bst (0, 1)
def GEnt (ds : List (List (Int × Int))) (ps : List Ent) (i : Nat) : Ent → Prop
  | .leaf _ => True
  | .ask s cs => s < ds.length ∧ ∀ c ∈ cs, c < i ∧ ∃ e, ps[c]? = some e ∧ s < site ds.length e ∧ site ds.length e ≤ ds.length
def GP (ds : List (List (Int × Int))) (ps : List Ent) : Prop := ∀ i e, ps[i]? = some e → GEnt ds ps i e
structure GF (ds : List (List (Int × Int))) (ps : List Ent) (fs : List (Int × Int)) : Prop where
  bd : ∀ (i : Nat) (q : Int × Int) (e : Ent), fs[i]? = some q → ps[i]? = some e → Bd (ds.length - site ds.length e) q.1 ∧ Bd (ds.length - site ds.length e) q.2 ∧ 0 < q.2
  eq : ∀ (i : Nat) (q : Int × Int) (e : Ent), fs[i]? = some q → ps[i]? = some e → q = prcE ds ps fs e
theorem GEnt.okc {ds : List (List (Int × Int))} {ps : List Ent} {fs : List (Int × Int)} {s : Nat} {cs : List Nat} {i : Nat} (g : GEnt ds ps i (.ask s cs)) (hf : GF ds ps fs) (hi : i ≤ fs.length) : ∀ c ∈ cs, OkC ds ps fs s c := fun c hc => by
  obtain ⟨h1, e, h2, h3, h4⟩ := g.2 c hc
  have hq : fs[c]? = some fs[c] := List.getElem?_eq_getElem (by omega)
  obtain ⟨b1, b2, b3⟩ := hf.bd c _ e hq h2
  exact ⟨e, _, h2, hq, h3, h4, b1, b2, b3⟩
theorem midD_len {ds : List (List (Int × Int))} {lo hi : Nat} : (midD ds lo hi).length ≤ hi - lo := by unfold midD; simp; omega
theorem midD_g {ds : List (List (Int × Int))} {lo hi : Nat} (h : ∀ d ∈ ds, GDr d) : ∀ d ∈ midD ds lo hi, GDr d := fun d h' => h d (List.mem_of_mem_take (List.mem_of_mem_drop h'))
theorem wos_bd {s : Nat} {cs : List Nat} {ps : List Ent} {ds : List (List (Int × Int))} {fs : List (Int × Int)} {d : List (Int × Int)} (hds : ∀ d ∈ ds, GDr d) (hd : ds[s]? = some d) (ok : ∀ c ∈ cs, OkC ds ps fs s c) :
    ∀ w ∈ wos ds ps fs d s cs, Bd (ds.length - s) w.1 ∧ Bd (ds.length - s) w.2 ∧ 0 < w.2 := fun w hw => by
  have hgd : GDr d := hds d (List.mem_of_getElem? hd)
  obtain ⟨⟨p, c⟩, hx, rfl⟩ := List.mem_map.mp hw
  have hx' := List.of_mem_zip hx
  obtain ⟨e, q, he, hq, h1, h2, b1, b2, b3⟩ := (ok c hx'.2).ex
  have e0 : wo ds ps fs (sW d) s p.2 c = woE ds (sW d) s p.2 e q := by simp [wo, he, hq]
  show Bd _ (wo ds ps fs (sW d) s p.2 c).1 ∧ Bd _ (wo ds ps fs (sW d) s p.2 c).2 ∧ 0 < (wo ds ps fs (sW d) s p.2 c).2
  rw [e0]
  have t1 := pT_bd (midD_g (lo := s + 1) (hi := site ds.length e) hds)
  have t2 := pS_bd (midD_g (lo := s + 1) (hi := site ds.length e) hds)
  have hml := midD_len (ds := ds) (lo := s + 1) (hi := site ds.length e)
  have u1 := ((hgd.bw hx'.1).mul t1).mul b1
  have u2 := (hgd.bs.mul t2.1).mul b2
  have pos : 0 < sW d * pS (midD ds (s + 1) (site ds.length e)) * q.2 := Int.mul_pos (Int.mul_pos hgd.s.1 t2.2) b3
  exact ⟨(u1.lowT pos).mono (by omega), (u2.lowB pos).mono (by omega), lowB_pos pos⟩
theorem prc_bd {ds : List (List (Int × Int))} {ps : List Ent} {fs : List (Int × Int)} {i : Nat} {e : Ent} (hds : ∀ d ∈ ds, GDr d) (g : GEnt ds ps i e) (hf : GF ds ps fs) (hi : i ≤ fs.length) :
    Bd (ds.length - site ds.length e) (prcE ds ps fs e).1 ∧ Bd (ds.length - site ds.length e) (prcE ds ps fs e).2 ∧ 0 < (prcE ds ps fs e).2 := by
  cases e with
  | leaf x =>
    refine ⟨?_, Bd.one _, (by show (0:Int) < 1; decide)⟩
    show Bd _ (if _ then _ else _)
    split
    · exact Bd.zero _
    · exact Bd.one _
  | ask s cs =>
    have hd : ds[s]? = some (ds.getD s []) := by rw [List.getD_eq_getElem?_getD, List.getElem?_eq_getElem g.1]; rfl
    exact bst_foldl_bd ⟨Bd.zero _, Bd.one _, by decide⟩ (wos_bd hds hd (g.okc hf hi))
theorem prc_ext {ds : List (List (Int × Int))} {ps : List Ent} {fs : List (Int × Int)} {q : Int × Int} {i : Nat} {e : Ent} (g : GEnt ds ps i e) (hi : i ≤ fs.length) : prcE ds ps (fs ++ [q]) e = prcE ds ps fs e := by
  cases e with
  | leaf x => rfl
  | ask s cs =>
    show (wos _ _ _ _ _ _).foldl _ _ = (wos _ _ _ _ _ _).foldl _ _
    congr 1
    refine List.map_congr_left fun x hx => ?_
    have := (g.2 x.2 (List.of_mem_zip (show (x.1, x.2) ∈ _ from hx)).2).1
    have e1 : (fs ++ [q]).getD x.2 (0, 1) = fs.getD x.2 (0, 1) := by
      rw [List.getD_eq_getElem?_getD, List.getD_eq_getElem?_getD, List.getElem?_append_left (by omega)]
    unfold wo
    rw [e1]
theorem GF.app {ds : List (List (Int × Int))} {ps : List Ent} {fs : List (Int × Int)} {e : Ent} (hds : ∀ d ∈ ds, GDr d) (gp : GP ds ps) (hf : GF ds ps fs) (he : ps[fs.length]? = some e) : GF ds ps (fs ++ [prcE ds ps fs e]) := by
  have hb := prc_bd hds (gp _ e he) hf (Nat.le_refl _)
  refine ⟨fun i q e' hq he' => ?_, fun i q e' hq he' => ?_⟩
  · rcases Nat.lt_trichotomy i fs.length with h | h | h
    · rw [List.getElem?_append_left h] at hq; exact hf.bd i q e' hq he'
    · subst h
      rw [he] at he'; cases he'
      simp at hq; subst hq
      exact hb
    · rw [List.getElem?_eq_none (by simp; omega)] at hq; cases hq
  · rcases Nat.lt_trichotomy i fs.length with h | h | h
    · rw [List.getElem?_append_left h] at hq
      rw [prc_ext (gp i e' he') (by omega)]
      exact hf.eq i q e' hq he'
    · subst h
      rw [he] at he'; cases he'
      simp at hq; subst hq
      exact (prc_ext (gp _ e he) (Nat.le_refl _)).symm
    · rw [List.getElem?_eq_none (by simp; omega)] at hq; cases hq
abbrev qE (ps : List Ent) (ds : List (List (Int × Int))) (f z3 z4 z5 : Option M) : FL.Env := [some (.d (.lst (ps.map entD))), some (.d (dsD ds)), f, z3, z4, z5]
def fM (fs : List (Int × Int)) : M := .lst (fs.map fun q => .d (pD q))
theorem price_leaf {ps : List Ent} {ds : List (List (Int × Int))} {fs : List (Int × Int)} {x : D} {z4 z5 : Option M} (hl : fs.length < 1000) :
    fb_prices_1 (qE ps ds (some (fM fs)) (some (.d (entD (.leaf x)))) z4 z5) = .ok (.nx, qE ps ds (some (fM (fs ++ [lfP x]))) (some (.d (entD (.leaf x)))) z4 z5) := by
  have h1 : (fs.map fun q => M.d (pD q)).length < sizeLine := by rw [sizeLine_eq, List.length_map]; omega
  have h2 : bInt [.d (.bl (!FL.isNon (.d x)))] = .ok (.int (lfP x).1) := by unfold lfP; cases FL.isNon (.d x) <;> rfl
  unfold fb_prices_1
  simp only [ssIf, sbE, sV, v2, vIx, vN, vC, getE, qE, List.getElem?_cons_succ, List.getElem?_cons_zero, ix_l0, eq_ll, ssDrop, sMeth, fM, isLst, if_true, saCons, saNil, sTup, vB, vaCons, vaNil, ix_l1, oIsNot, h2]
  simp [mTup, isD, unD, sizeLine_eq, mAppend, lfP]
  rw [if_pos (by omega)]
theorem price_ask {ps : List Ent} {ds : List (List (Int × Int))} {fs : List (Int × Int)} {s : Nat} {cs : List Nat} {z4 z5 : Option M} (hds : ∀ d ∈ ds, GDr d) (hl : ds.length ≤ 24) (hfl : fs.length < 1000) (g : GEnt ds ps fs.length (.ask s cs)) (hf : GF ds ps fs) :
    ∃ z4' z5', fb_prices_1 (qE ps ds (some (fM fs)) (some (.d (entD (.ask s cs)))) z4 z5) = .ok (.nx, qE ps ds (some (fM (fs ++ [prcE ds ps fs (.ask s cs)]))) (some (.d (entD (.ask s cs)))) z4' z5') := by
  have hd : ds[s]? = some (ds.getD s []) := by rw [List.getD_eq_getElem?_getD, List.getElem?_eq_getElem g.1]; rfl
  have ok := g.okc hf (Nat.le_refl _)
  have hw := worths_int hds hl hd ok
  have hb := wos_bd hds hd ok
  have h1 : (fs.map fun q => M.d (pD q)).length < sizeLine := by rw [sizeLine_eq, List.length_map]; omega
  obtain ⟨z5', h2⟩ := best_loop (P := .d (.lst (ps.map entD))) (fs := fM fs) (D0 := dsD ds) (e := entD (.ask s cs)) (j := ds.length - s) (by omega) (z := z5) (b := (0, 1)) ⟨Bd.zero _, Bd.one _, by decide⟩ hb
  refine ⟨some (.d (pD (prcE ds ps fs (.ask s cs)))), z5', ?_⟩
  unfold fb_prices_1
  have hc : sbE (sV (v2 oEq (vIx (vN 3) (vC (.int 0))) (vC (.str (Str.ofString "leaf"))))) (qE ps ds (some (fM fs)) (some (.d (entD (.ask s cs)))) z4 z5) = .ok (false, qE ps ds (some (fM fs)) (some (.d (entD (.ask s cs)))) z4 z5) := by
    simp only [sbE, sV, v2, vIx, vN, vC, getE, qE, List.getElem?_cons_succ, List.getElem?_cons_zero, ix_a0, eq_al]
  simp only [ssIf, hc]
  rw [ssSeq_nx (e := qE ps ds (some (fM fs)) (some (.d (entD (.ask s cs)))) (some (.d (pI 0 1))) z5) (by simp [qE, runF, ssSeq, ssSet, ssIf, ssRet, ssDrop, ssNil, ssRaise, ssPar, setAll, ssAsg, sgN, sgNil, sgCons, sgTup, sbE, sbNot, sbAnd, sbOr, sNotV, sAndV, sOrV, sIf, sV, v2, vN, vC, getE, sN, sT, s2, s2v, s2n, sCall, saCons, saNil, putBack, killAll, sTup, mTup, isD, unD, sLst, vIx, mIdx, M.seq, atI, ixN, vB, vaCons, vaNil, bAbs, b1I, b2I, bLen, vIsi, tyM, tyD, isiB, fz, oAdd_int, oSub_int, oMul_int, oFdiv_int, oMod_int, oPow_int, oLt_int, oLe_int, oGt_int, oGe_int, oEq_int, oNe_int, sizeLine_eq, vNeg, ssSetI, sMeth, isLst, mAppend])]
  rw [ssSeq_nx (show ssFor (siQ (sCall F_worths [none, none, none, some 2] (saCons (sN 3) (saCons (sN 0) (saCons (sN 1) (saCons (sT 2) (saNil))))))) fg_prices_2 fb_prices_2 _ = .ok (.nx, qE ps ds (some (fM fs)) (some (.d (entD (.ask s cs)))) (some (.d (pD (prcE ds ps fs (.ask s cs))))) z5') from by
    simp only [ssFor, siQ, sCall, saCons, saNil, sN, sT, getE, qE, List.getElem?_cons_succ, List.getElem?_cons_zero, fz, List.set_cons_succ, List.set_cons_zero]
    simp only [fM] at h2 ⊢
    simp only [hw, putBack, fz, fzs_map_d, itemsD]
    exact h2)]
  simp only [ssDrop, sMeth, sN, getE, qE, List.getElem?_cons_succ, List.getElem?_cons_zero, fM, isLst, if_true, saCons, saNil, fz, mAppend, if_pos h1]
  simp
theorem prices_int {ps : List Ent} {ds : List (List (Int × Int))} (hds : ∀ d ∈ ds, GDr d) (hl : ds.length ≤ 24) (gp : GP ds ps) (hpl : ps.length ≤ 500) :
    ∃ fs, GF ds ps fs ∧ fs.length = ps.length ∧ F_prices [.d (.lst (ps.map entD)), .d (dsD ds)] = .ok (fM fs, [some (.d (.lst (ps.map entD))), some (.d (dsD ds))]) := by
  obtain ⟨e', h1, fs, z3, z4, z5, ⟨e1, e2, hf⟩, rfl⟩ := flw_all (ws := [0]) (env0 := qE ps ds (some (fM [])) none none none) (g := fg_prices_1) (b := fb_prices_1) entD
    (fun rest env => ∃ fs z3 z4 z5, (fs.length + rest.length = ps.length ∧ ps.drop fs.length = rest ∧ GF ds ps fs) ∧ env = qE ps ds (some (fM fs)) z3 z4 z5)
    (fun xs env ⟨fs, z3, z4, z5, _, h⟩ => by subst h; intro i hi; simp at hi; subst hi; rfl)
    (fun e rest env hI => by
      obtain ⟨fs, z3, z4, z5, ⟨e1, e2, hf⟩, rfl⟩ := hI
      simp only [List.length_cons] at e1
      have he : ps[fs.length]? = some e := by
        have : (ps.drop fs.length)[0]? = some e := by rw [e2]; rfl
        rw [List.getElem?_drop] at this
        exact this
      have e2' : ps.drop (fs.length + 1) = rest := by
        rw [← List.drop_drop, e2]; rfl
      have hf' := hf.app hds gp he
      refine ⟨qE ps ds (some (fM fs)) (some (.d (entD e))) z4 z5, ?_⟩
      cases e with
      | leaf x =>
        exact ⟨_, .nx, by simp [fg_prices_1, sgN, qE], price_leaf (by omega), .inl rfl, _, _, _, _, ⟨by simp; omega, by simpa using e2', hf'⟩, rfl⟩
      | ask s cs =>
        obtain ⟨z4', z5', hb⟩ := price_ask (z4 := z4) (z5 := z5) hds hl (by omega) (gp _ _ he) hf
        exact ⟨_, .nx, by simp [fg_prices_1, sgN, qE], hb, .inl rfl, _, _, _, _, ⟨by simp; omega, by simpa using e2', hf'⟩, rfl⟩)
    ps (qE ps ds (some (fM [])) none none none) ⟨[], none, none, none, ⟨by simp, rfl, fun i q e h => by simp at h, fun i q e h => by simp at h⟩, rfl⟩
  refine ⟨fs, hf, by simpa using e1, ?_⟩
  unfold F_prices
  refine runF_ret (e := qE ps ds none z3 z4 z5) ?_
  unfold b_prices
  show ssSeq _ _ (qE ps ds none none none none) = _
  rw [ssSeq_nx (e := qE ps ds (some (fM [])) none none none) (by simp [qE, fM, runF, ssSeq, ssSet, ssIf, ssRet, ssDrop, ssNil, ssRaise, ssPar, setAll, ssAsg, sgN, sgNil, sgCons, sgTup, sbE, sbNot, sbAnd, sbOr, sNotV, sAndV, sOrV, sIf, sV, v2, vN, vC, getE, sN, sT, s2, s2v, s2n, sCall, saCons, saNil, putBack, killAll, sTup, mTup, isD, unD, sLst, vIx, mIdx, M.seq, atI, ixN, vB, vaCons, vaNil, bAbs, b1I, b2I, bLen, vIsi, tyM, tyD, isiB, fz, oAdd_int, oSub_int, oMul_int, oFdiv_int, oMod_int, oPow_int, oLt_int, oLe_int, oGt_int, oGe_int, oEq_int, oNe_int, sizeLine_eq, vNeg, ssSetI, sMeth, isLst, mAppend])]
  rw [ssSeq_nx (show ssForW [0] (iwN 0) fg_prices_1 fb_prices_1 _ = _ from by
    simp only [ssForW, iwN, getE, qE, List.getElem?_cons_zero, brw, itemsLT]
    exact h1)]
  simp [ssRet, sT, getE, qE]
theorem range_in {n : Nat} : ∀ i ∈ (List.range n).map (fun (i : Nat) => (i : Int)), 0 ≤ i ∧ i < n := by
  intro i hi
  obtain ⟨k, hk, rfl⟩ := List.mem_map.mp hi
  have := List.mem_range.mp hk
  omega
theorem range_D (n : Nat) : (List.range n).map (fun (i : Nat) => D.int (0 + (i : Int))) = ((List.range n).map fun (i : Nat) => (i : Int)).map D.int := by
  rw [List.map_map]
  apply List.map_congr_left
  intro a _
  simp
abbrev scrM (ns : List Int) : M := .d (.scr (ns.map D.int))
theorem mIdx_scr {ns : List Int} {c : Nat} {x : Int} (h : ns[c]? = some x) : mIdx (scrM ns) (.d (.int (c : Int))) = .ok (.d (.int x)) := by
  have hl := (List.getElem?_eq_some_iff.mp h).1
  have e : atI ((ns.map D.int).map M.d) (c : Int) = some (.d (.int x)) := by rw [atI_nat (by simpa using hl)]; simp [h]
  simp only [mIdx, M.seq, e]
theorem bLen_scr (ns : List Int) : bLen [scrM ns] = .ok (.int ns.length) := by simp [bLen, M.seq]
theorem cell_int (ns : List Int) (k : Nat) : F__law_cell_at [scrM ns, .d (.int (k : Int))] = .ok (.d (.int (ns.getD k 0)), [some (scrM ns), some (.d (.int (k : Int)))]) := by
  by_cases h : k < ns.length
  · have h1 : ns[k]? = some ns[k] := List.getElem?_eq_getElem h
    have h2 := mIdx_scr h1
    have h3 : ns.getD k 0 = ns[k] := by simp [h]
    have h4 : (k : Int) < ns.length := by omega
    simp [F__law_cell_at, b__law_cell_at, runF, ssSeq, ssIf, sbE, sV, v2, vIx, vN, vC, getE, vB, vaCons, vaNil, bLen_scr, oLt_int, h4, h2, ssRet, h, killAll]
  · have h3 : ns.getD k 0 = 0 := by simp [h]
    have h4 : ¬ (k : Int) < ns.length := by omega
    simp [F__law_cell_at, b__law_cell_at, runF, ssSeq, ssIf, sbE, sV, v2, vIx, vN, vC, getE, vB, vaCons, vaNil, bLen_scr, oLt_int, h4, ssRet, h, ssNil, killAll]
theorem mix_int {c k : Int} (hk : 0 ≤ k ∧ k < 2 ^ 32) : ∃ m : Int, (0 ≤ m ∧ m < 2147483587) ∧ F__law_mix [.d (.int c), .d (.int k)] = .ok (.d (.int m), [some (.d (.int c)), some (.d (.int k))]) := by
  have c1 : CMulD 7919 k := mulD (a := 20) (b := 33) (by decide) (by omega)
  have c2 : CMulD (7919 * k) k := mulD (a := 60) (b := 33) (by omega) (by omega)
  have hk2 : (7919 * k * k).natAbs < 2 ^ (60 + 33) := mul_lt (i := 7919 * k) (j := k) (a := 60) (b := 33) (by omega) (by omega)
  have h0 := Int.emod_nonneg c (show (2147483647:Int) ≠ 0 by decide)
  have h1 := Int.emod_lt_of_pos c (show (0:Int) < 2147483647 by decide)
  have c3 : CMulD (c % 2147483647 + 7919 * k * k + k + 1) 48271 := by
    refine mulD (a := 120) (b := 20) ?_ (by decide)
    obtain ⟨y, hy⟩ : ∃ y, y = 7919 * k * k := ⟨_, rfl⟩
    rw [← hy] at hk2 ⊢
    omega
  obtain ⟨f, hf⟩ : ∃ f, f = (c % 2147483647 + 7919 * k * k + k + 1) * 48271 % 2147483629 := ⟨_, rfl⟩
  have f0 := Int.emod_nonneg ((c % 2147483647 + 7919 * k * k + k + 1) * 48271) (show (2147483629:Int) ≠ 0 by decide)
  have f1 := Int.emod_lt_of_pos ((c % 2147483647 + 7919 * k * k + k + 1) * 48271) (show (0:Int) < 2147483629 by decide)
  rw [← hf] at f0 f1
  have c4 : CMulD f f := mulD (a := 32) (b := 32) (by omega) (by omega)
  refine ⟨f * f % 2147483587, ⟨Int.emod_nonneg _ (by decide), Int.emod_lt_of_pos _ (by decide)⟩, ?_⟩
  simp [F__law_mix, b__law_mix, oMul_int c1, oMul_int c2, oMul_int c3, modI_pos, ← hf, oMul_int c4, runF, ssSeq, ssSet, ssIf, ssRet, ssDrop, ssNil, ssRaise, ssPar, setAll, ssAsg, sgN, sgNil, sgCons, sgTup, sbE, sbNot, sbAnd, sbOr, sNotV, sAndV, sOrV, sIf, sV, v2, vN, vC, getE, sN, sT, s2, s2v, s2n, sCall, saCons, saNil, putBack, killAll, sTup, mTup, isD, unD, sLst, vIx, mIdx, M.seq, atI, ixN, vB, vaCons, vaNil, bAbs, b1I, b2I, bLen, vIsi, tyM, tyD, isiB, fz, oAdd_int, oSub_int, oMul_int, oFdiv_int, oMod_int, oPow_int, oLt_int, oLe_int, oGt_int, oGe_int, oEq_int, oNe_int, sizeLine_eq, vNeg, ssSetI, sMeth, isLst, mAppend]
def dM (d : List (Int × Int)) : M := .lst (d.map fun p => .d (pI p.1 p.2))
noncomputable def mixI (c k : Int) : Int := match F__law_mix [.d (.int c), .d (.int k)] with
  | .ok (.d (.int m), _) => m
  | _ => 0
theorem mix_eq {c k : Int} (hk : 0 ≤ k ∧ k < 2 ^ 32) : (0 ≤ mixI c k ∧ mixI c k < 2147483587) ∧ F__law_mix [.d (.int c), .d (.int k)] = .ok (.d (.int (mixI c k)), [some (.d (.int c)), some (.d (.int k))]) := by
  obtain ⟨m, hm, h⟩ := mix_int (c := c) hk
  have e : mixI c k = m := by simp [mixI, h]
  rw [e]
  exact ⟨hm, h⟩
def pM (ps : List Ent) : M := .lst (ps.map fun e => .d (entD e))
def iM (xs : List Nat) : M := .lst (xs.map fun (c : Nat) => .d (.int (c : Int)))
/-! ### the copy -/
theorem copy_in {P z2 : Option M} {e : Ent} (hz : z2 = none) (hcl : ∀ s cs, e = .ask s cs → cs.length ≤ 6) :
    ∃ e3, s2m mAdd (sTup (saCons (sV (vIx (vN 1) (vC (.int 0)))) (saCons (sV (vIx (vN 1) (vC (.int 1)))) (saNil)))) (sTupOf (sLc [2] (siQ (sSl (vN 1) (voI (vC (.int 2))) (voNo))) (sgN 2) sbYes (sListV (vN 2)))) [P, some (.d (entD e)), z2] = .ok (.d (entD e), e3) ∧ killAll [1] e3 = [P, none, none] := by
  subst hz
  cases e with
  | leaf x =>
    refine ⟨[P, some (.d (entD (.leaf x))), none], ?_, rfl⟩
    have h1 : siQ (sSl (vN 1) (voI (vC (.int 2))) (voNo)) [P, some (.d (entD (.leaf x))), none] = .ok ([], [P, some (.d (entD (.leaf x))), none]) := by
      simp only [siQ, sSl, vN, voI, voNo, vC, getE, List.getElem?_cons_succ, List.getElem?_cons_zero, entD, slM, cutL_drop _ (show (0:Int) ≤ 2 by decide), fz, itemsD]
      rfl
    have h2 := sLc_eq (own := [2]) (g := sgN 2) (c := sbYes) (f := sListV (vN 2)) h1 (by simp) (show lcl [2] (sgN 2) sbYes (sListV (vN 2)) [] [] _ = .ok ([], [P, some (.d (entD (.leaf x))), none]) from rfl)
    simp only [s2m, sTup, saCons, saNil, sV, vIx, vN, vC, getE, List.getElem?_cons_succ, List.getElem?_cons_zero, ix_l0, ix_l1, List.length_cons, List.length_nil, sizeLine_eq, sTupOf, h2, fz, fzs, itemsLT]
    simp only [show (0 + 1 + 1 ≤ 16777216) from by decide, if_true, sTupOf, h2, fz, fzs, itemsLT, mTup, List.all_cons, List.all_nil, isD, Bool.and_true, List.map_cons, List.map_nil, unD]
    rfl
  | ask s cs =>
    have hcl' := hcl s cs rfl
    refine ⟨[P, some (.d (entD (.ask s cs))), none], ?_, rfl⟩
    have h1 : siQ (sSl (vN 1) (voI (vC (.int 2))) (voNo)) [P, some (.d (entD (.ask s cs))), none] = .ok ([.lst (cs.map fun (c : Nat) => .int (c : Int))], [P, some (.d (entD (.ask s cs))), none]) := by
      simp only [siQ, sSl, vN, voI, voNo, vC, getE, List.getElem?_cons_succ, List.getElem?_cons_zero, entD, slM, cutL_drop _ (show (0:Int) ≤ 2 by decide), fz, itemsD]
      rfl
    have h2 := sLc_eq (own := [2]) (g := sgN 2) (c := sbYes) (f := sListV (vN 2)) h1 (by simp [sizeLine_eq]) (show lcl [2] (sgN 2) sbYes (sListV (vN 2)) [.lst (cs.map fun (c : Nat) => .int (c : Int))] [] _ = .ok ([.lst ((cs.map fun (c : Nat) => D.int (c : Int)).map .d)], [P, some (.d (entD (.ask s cs))), none]) from rfl)
    simp only [s2m, sTup, saCons, saNil, sV, vIx, vN, vC, getE, List.getElem?_cons_succ, List.getElem?_cons_zero, ix_a0, ix_a1, List.length_cons, List.length_nil, sizeLine_eq]
    simp only [show (0 + 1 + 1 ≤ 16777216) from by decide, if_true, sTupOf, h2, fz, fzs, fzs_d, itemsLT, mTup, List.all_cons, List.all_nil, isD, Bool.and_true, List.map_cons, List.map_nil, unD]
    rfl
theorem copy_int {ps : List Ent} (hl : ps.length ≤ 100) (hcl : ∀ e ∈ ps, ∀ s cs, e = .ask s cs → cs.length ≤ 6) : F__law_copy [.d (.lst (ps.map entD))] = .ok (pM ps, [some (.d (.lst (ps.map entD)))]) := by
  have h := lclw_map (own := [1]) (ws := [0]) (env0 := [some (.d (.lst (ps.map entD))), none, none]) (g := sgN 1) (c := sbYes) (f := s2m mAdd (sTup (saCons (sV (vIx (vN 1) (vC (.int 0)))) (saCons (sV (vIx (vN 1) (vC (.int 1)))) (saNil)))) (sTupOf (sLc [2] (siQ (sSl (vN 1) (voI (vC (.int 2))) (voNo))) (sgN 2) sbYes (sListV (vN 2))))) (env := [some (.d (.lst (ps.map entD))), none, none]) entD (fun e => M.d (entD e)) (fun _ _ => rfl) ps [] (fun e he => by
    obtain ⟨e3, h1, h2⟩ := copy_in (P := some (.d (.lst (ps.map entD)))) (z2 := none) (e := e) rfl (hcl e he)
    exact ⟨[some (.d (.lst (ps.map entD))), some (.d (entD e)), none], _, e3, rfl, rfl, h1, h2⟩)
  have h2 := sLcW_eq (own := [1]) (ws := [0]) (fi := iwN 0) (env := [some (.d (.lst (ps.map entD))), none, none]) (xs := ps.map entD) rfl (by rw [sizeLine_eq, List.length_map]; omega) (by decide) h
  unfold F__law_copy
  rw [runF_ret (m := pM ps) (e := [some (.d (.lst (ps.map entD))), none, none]) ?_]
  · rfl
  unfold b__law_copy
  show ssRet _ [some (.d (.lst (ps.map entD))), none, none] = _
  unfold ssRet
  rw [h2]
  simp [pM]
theorem fr_trans {a b c d e f : Int} (hb : 0 ≤ b) (hd : 0 < d) (hf : 0 ≤ f) (h1 : a * d ≤ c * b) (h2 : c * f ≤ e * d) : a * f ≤ e * b := by
  refine Int.le_of_mul_le_mul_right (a := d) ?_ hd
  have e1 : a * f * d = a * d * f := by rw [Int.mul_assoc, Int.mul_comm f d, ← Int.mul_assoc]
  have e2 : e * b * d = e * d * b := by rw [Int.mul_assoc, Int.mul_comm b d, ← Int.mul_assoc]
  have e3 : c * b * f = c * f * b := by rw [Int.mul_assoc, Int.mul_comm b f, ← Int.mul_assoc]
  rw [e1, e2]
  have h3 := Int.mul_le_mul_of_nonneg_right h1 hf
  have h4 := Int.mul_le_mul_of_nonneg_right h2 hb
  rw [e3] at h3
  exact Int.le_trans h3 h4
theorem is_share_int {a b : Int} (ha : 0 ≤ a) (hb : 0 < b) (hg : gI a b = 1) : F__law_is_share [.d (pI a b)] = .ok (.d (.bl true), [some (.d (pI a b))]) := by
  have hl := ldivisor_int ha (Int.le_of_lt hb)
  rw [hg] at hl
  simp [F__law_is_share, b__law_is_share, whole_int, hl, ha, hb, runF, ssSeq, ssSet, ssIf, ssRet, ssDrop, ssNil, ssRaise, ssPar, setAll, ssAsg, sgN, sgNil, sgCons, sgTup, sbE, sbNot, sbAnd, sbOr, sNotV, sAndV, sOrV, sIf, sV, v2, vN, vC, getE, sN, sT, s2, s2v, s2n, sCall, saCons, saNil, putBack, killAll, sTup, mTup, isD, unD, sLst, vIx, mIdx, M.seq, atI, ixN, vB, vaCons, vaNil, bAbs, b1I, b2I, bLen, vIsi, tyM, tyD, isiB, fz, oAdd_int, oSub_int, oMul_int, oFdiv_int, oMod_int, oPow_int, oLt_int, oLe_int, oGt_int, oGe_int, oEq_int, oNe_int, sizeLine_eq, vNeg, ssSetI, sMeth, isLst, mAppend]
/-! ### the common bottoms -/
theorem pS_app (a b : List (List (Int × Int))) : pS (a ++ b) = pS a * pS b := by
  induction a with
  | nil => show pS b = 1 * pS b; rw [Int.one_mul]
  | cons x a ih =>
    show sW x * pS (a ++ b) = sW x * pS a * pS b
    rw [ih, Int.mul_assoc]
def CS (ds : List (List (Int × Int))) (t : Nat) : Int := pS (ds.drop t)
theorem CS_bd {ds : List (List (Int × Int))} {t : Nat} (h : ∀ d ∈ ds, GDr d) : Bd (ds.length - t) (CS ds t) ∧ 0 < CS ds t := by
  have := pS_bd (ds := ds.drop t) fun d hd => h d (List.mem_of_mem_drop hd)
  rw [List.length_drop] at this
  exact this
theorem CS_end {ds : List (List (Int × Int))} : CS ds ds.length = 1 := by unfold CS; rw [List.drop_length]; rfl
theorem CS_split {ds : List (List (Int × Int))} {s t : Nat} {d : List (Int × Int)} (hd : ds[s]? = some d) (ht : s < t) : CS ds s = sW d * pS (midD ds (s + 1) t) * CS ds t := by
  have hs := (List.getElem?_eq_some_iff.mp hd).1
  have e1 : ds.drop s = d :: ds.drop (s + 1) := by
    rw [List.drop_eq_getElem_cons hs]
    congr 1
    exact (List.getElem?_eq_some_iff.mp hd).2
  have e2 : ds.drop (s + 1) = midD ds (s + 1) t ++ ds.drop t := by
    unfold midD
    conv => lhs; rw [← List.take_append_drop t ds]
    rw [List.drop_append]
    congr 1
    by_cases q : t ≤ ds.length
    · rw [List.length_take, Nat.min_eq_left q]
      have : s + 1 - t = 0 := by omega
      rw [this]; rfl
    · rw [List.drop_eq_nil_of_le (show ds.length ≤ t by omega)]
      simp
  unfold CS
  rw [e1]
  show sW d * pS (ds.drop (s + 1)) = _
  rw [e2, pS_app, Int.mul_assoc]
/-! ### alike -/
def Sm : Nat → D → Prop
  | 0, _ => False
  | n + 1, .tup xs => xs.length ≤ 1000 ∧ ∀ y ∈ xs, Sm n y
  | n + 1, .lst xs => xs.length ≤ 1000 ∧ ∀ y ∈ xs, Sm n y
  | _ + 1, .int _ => True
  | _ + 1, .non => True
  | _ + 1, .str x => ∃ l, x = sl l
  | _ + 1, _ => False
theorem Sm.out {x : D} (h : Out x) (n : Nat) (hl : ∀ xs, x = .tup xs → xs.length ≤ 1000) : Sm (n + 3) x := by
  cases h with
  | non => trivial
  | int i => trivial
  | rcd rs =>
    refine ⟨hl _ rfl, fun y hy => ?_⟩
    obtain ⟨r, _, rfl⟩ := List.mem_map.mp hy
    refine ⟨by simp, fun z hz => ?_⟩
    simp only [List.mem_cons, List.not_mem_nil, or_false] at hz
    rcases hz with rfl | rfl
    · exact ⟨_, rfl⟩
    · trivial
theorem seq_same (n : Nat) {x : D} {xs : List D} (hx : x = .tup xs ∨ x = .lst xs) (hl : xs.length ≤ 1000) (ih : ∀ y ∈ xs, F__law_same n [.d y, .d y] = .ok (.d (.bl true), [some (.d y), some (.d y)])) :
    F__law_same (n + 1) [.d x, .d x] = .ok (.d (.bl true), [some (.d x), some (.d x)]) := by
  have hb : bLen [.d x] = .ok (.int xs.length) := by rcases hx with rfl | rfl <;> simp [bLen, M.seq]
  have hix : ∀ (j : Nat) (y : D), xs[j]? = some y → mIdx (.d x) (.d (.int (j : Int))) = .ok (.d y) := fun j y hj => by
    rcases hx with rfl | rfl
    · have hlt := (List.getElem?_eq_some_iff.mp hj).1
      have e : atI (xs.map M.d) (j : Int) = some (.d y) := by rw [atI_nat (by simpa using hlt)]; simp [hj]
      simp only [mIdx, M.seq, e]
    · exact mIdx_n hj
  obtain ⟨e', h1, z2, _, rfl⟩ := fl_all (g := fg__law_same_1 (F__law_same n)) (b := fb__law_same_1 (F__law_same n)) (fun (j : Nat) => D.int (0 + (j : Int)))
    (fun rest env => ∃ z2, (∀ j ∈ rest, j < xs.length) ∧ env = [some (.d x), some (.d x), z2])
    (fun j rest env hI => by
      obtain ⟨z2, hj, rfl⟩ := hI
      have hj0 := hj j (by simp)
      have hy : xs[j]? = some xs[j] := List.getElem?_eq_getElem hj0
      have hi := hix j _ hy
      have hs := ih _ (List.mem_of_getElem? hy)
      have hz : (0 : Int) + (j : Int) = (j : Int) := Int.zero_add _
      refine ⟨[some (.d x), some (.d x), some (.d (.int (j : Int)))], [some (.d x), some (.d x), some (.d (.int (j : Int)))], .nx, by rw [hz]; rfl, ?_, .inl rfl, _, fun i hi => hj i (by simp [hi]), rfl⟩
      unfold fb__law_same_1
      obtain ⟨E, hE⟩ : ∃ E : FL.Env, E = [some (.d x), some (.d x), some (.d (.int (j : Int)))] := ⟨_, rfl⟩
      have n0 : sV (vIx (vN 0) (vN 2)) E = .ok (.d xs[j], E) := by rw [hE]; simp only [sV, vIx, vN, getE, List.getElem?_cons_succ, List.getElem?_cons_zero, hi]
      have n1 : sV (vIx (vN 1) (vN 2)) E = .ok (.d xs[j], E) := by rw [hE]; simp only [sV, vIx, vN, getE, List.getElem?_cons_succ, List.getElem?_cons_zero, hi]
      rw [← hE, ssIf_f (sbNot_eq (b := true) (sbE_eq (sCall_n (bk := [none, none]) (by decide) (sa2_eq n0 n1) hs)))]
      rfl)
    (List.range xs.length) [some (.d x), some (.d x), none] ⟨none, fun j hj => List.mem_range.mp hj, rfl⟩
  have hr : siR1 (saCons (sV (vB bLen (vaCons (vN 1) (vaNil)))) (saNil)) [some (.d x), some (.d x), none] = .ok ((List.range xs.length).map fun (j : Nat) => D.int (0 + (j : Int)), [some (.d x), some (.d x), none]) := by
    have q : C62 (xs.length : Int) := ⟨by omega, by omega⟩
    simp only [siR1, saCons, saNil, sV, vB, vaCons, vaNil, vN, getE, List.getElem?_cons_succ, List.getElem?_cons_zero, hb, if_pos q, Int.toNat_natCast]
  show runF 3 2 [] (b__law_same (F__law_same n)) [.d x, .d x] = _
  rw [runF_ret (m := .d (.bl true)) (e := [some (.d x), some (.d x), z2]) ?_]
  · rfl
  unfold b__law_same
  show ssSeq _ _ [some (.d x), some (.d x), none] = _
  refine ssSeq_ret ?_
  have hc : sbOr (sbE (sV (vIsi "tuple" (vN 1)))) (sbE (sV (vIsi "list" (vN 1)))) [some (.d x), some (.d x), none] = .ok (true, [some (.d x), some (.d x), none]) := by
    rcases hx with rfl | rfl <;> simp [sbOr, runF, ssSeq, ssSet, ssIf, ssRet, ssDrop, ssNil, ssRaise, ssPar, setAll, ssAsg, sgN, sgNil, sgCons, sgTup, sbE, sbNot, sbAnd, sbOr, sNotV, sAndV, sOrV, sIf, sV, v2, vN, vC, getE, sN, sT, s2, s2v, s2n, sCall, saCons, saNil, putBack, killAll, sTup, mTup, isD, unD, sLst, vIx, mIdx, M.seq, atI, ixN, vB, vaCons, vaNil, bAbs, b1I, b2I, bLen, vIsi, tyM, tyD, isiB, fz, oAdd_int, oSub_int, oMul_int, oFdiv_int, oMod_int, oPow_int, oLt_int, oLe_int, oGt_int, oGe_int, oEq_int, oNe_int, sizeLine_eq, vNeg, ssSetI, sMeth, isLst, mAppend]
  have b0 : ∀ c : Bool, oNe (.d (.bl c)) (.d (.bl c)) = .ok (.bl false) := fun c => by cases c <;> rfl
  rw [ssIf_t hc]
  rw [ssSeq_nx (e := [some (.d x), some (.d x), none]) (by
    rcases hx with rfl | rfl
    · simp [sbOr, b0, runF, ssSeq, ssSet, ssIf, ssRet, ssDrop, ssNil, ssRaise, ssPar, setAll, ssAsg, sgN, sgNil, sgCons, sgTup, sbE, sbNot, sbAnd, sbOr, sNotV, sAndV, sOrV, sIf, sV, v2, vN, vC, getE, sN, sT, s2, s2v, s2n, sCall, saCons, saNil, putBack, killAll, sTup, mTup, isD, unD, sLst, vIx, mIdx, M.seq, atI, ixN, vB, vaCons, vaNil, bAbs, b1I, b2I, bLen, vIsi, tyM, tyD, isiB, fz, oAdd_int, oSub_int, oMul_int, oFdiv_int, oMod_int, oPow_int, oLt_int, oLe_int, oGt_int, oGe_int, oEq_int, oNe_int, sizeLine_eq, vNeg, ssSetI, sMeth, isLst, mAppend]
    · simp [sbOr, b0, runF, ssSeq, ssSet, ssIf, ssRet, ssDrop, ssNil, ssRaise, ssPar, setAll, ssAsg, sgN, sgNil, sgCons, sgTup, sbE, sbNot, sbAnd, sbOr, sNotV, sAndV, sOrV, sIf, sV, v2, vN, vC, getE, sN, sT, s2, s2v, s2n, sCall, saCons, saNil, putBack, killAll, sTup, mTup, isD, unD, sLst, vIx, mIdx, M.seq, atI, ixN, vB, vaCons, vaNil, bAbs, b1I, b2I, bLen, vIsi, tyM, tyD, isiB, fz, oAdd_int, oSub_int, oMul_int, oFdiv_int, oMod_int, oPow_int, oLt_int, oLe_int, oGt_int, oGe_int, oEq_int, oNe_int, sizeLine_eq, vNeg, ssSetI, sMeth, isLst, mAppend])]
  rw [ssSeq_nx (e := [some (.d x), some (.d x), none]) (by
    rw [ssIf_f (e := [some (.d x), some (.d x), none]) (by
      simp only [sbE, sV, v2, vB, vaCons, vaNil, vN, getE, List.getElem?_cons_succ, List.getElem?_cons_zero, hb, oNe_int]
      simp)]
    rfl)]
  rw [ssSeq_nx ((ssFor_eq hr).trans h1)]
  rfl
theorem same_ok : ∀ (n : Nat) (x : D), Sm n x → F__law_same n [.d x, .d x] = .ok (.d (.bl true), [some (.d x), some (.d x)])
  | 0, _, h => h.elim
  | n + 1, .tup xs, h => seq_same n (.inl rfl) h.1 fun y hy => same_ok n y (h.2 y hy)
  | n + 1, .lst xs, h => seq_same n (.inr rfl) h.1 fun y hy => same_ok n y (h.2 y hy)
  | n + 1, .int i, _ => by simp [F__law_same, b__law_same, whole_int, oIs, FL.isNon, sbOr, runF, ssSeq, ssSet, ssIf, ssRet, ssDrop, ssNil, ssRaise, ssPar, setAll, ssAsg, sgN, sgNil, sgCons, sgTup, sbE, sbNot, sbAnd, sbOr, sNotV, sAndV, sOrV, sIf, sV, v2, vN, vC, getE, sN, sT, s2, s2v, s2n, sCall, saCons, saNil, putBack, killAll, sTup, mTup, isD, unD, sLst, vIx, mIdx, M.seq, atI, ixN, vB, vaCons, vaNil, bAbs, b1I, b2I, bLen, vIsi, tyM, tyD, isiB, fz, oAdd_int, oSub_int, oMul_int, oFdiv_int, oMod_int, oPow_int, oLt_int, oLe_int, oGt_int, oGe_int, oEq_int, oNe_int, sizeLine_eq, vNeg, ssSetI, sMeth, isLst, mAppend]
  | n + 1, .non, _ => by simp [F__law_same, b__law_same, oIs, FL.isNon, sbOr, runF, ssSeq, ssSet, ssIf, ssRet, ssDrop, ssNil, ssRaise, ssPar, setAll, ssAsg, sgN, sgNil, sgCons, sgTup, sbE, sbNot, sbAnd, sbOr, sNotV, sAndV, sOrV, sIf, sV, v2, vN, vC, getE, sN, sT, s2, s2v, s2n, sCall, saCons, saNil, putBack, killAll, sTup, mTup, isD, unD, sLst, vIx, mIdx, M.seq, atI, ixN, vB, vaCons, vaNil, bAbs, b1I, b2I, bLen, vIsi, tyM, tyD, isiB, fz, oAdd_int, oSub_int, oMul_int, oFdiv_int, oMod_int, oPow_int, oLt_int, oLe_int, oGt_int, oGe_int, oEq_int, oNe_int, sizeLine_eq, vNeg, ssSetI, sMeth, isLst, mAppend]
  | n + 1, .str x, h => by
    obtain ⟨l, rfl⟩ := h
    have := oEq_str l l
    simp [F__law_same, b__law_same, oIs, FL.isNon, sbOr, this, runF, ssSeq, ssSet, ssIf, ssRet, ssDrop, ssNil, ssRaise, ssPar, setAll, ssAsg, sgN, sgNil, sgCons, sgTup, sbE, sbNot, sbAnd, sbOr, sNotV, sAndV, sOrV, sIf, sV, v2, vN, vC, getE, sN, sT, s2, s2v, s2n, sCall, saCons, saNil, putBack, killAll, sTup, mTup, isD, unD, sLst, vIx, mIdx, M.seq, atI, ixN, vB, vaCons, vaNil, bAbs, b1I, b2I, bLen, vIsi, tyM, tyD, isiB, fz, oAdd_int, oSub_int, oMul_int, oFdiv_int, oMod_int, oPow_int, oLt_int, oLe_int, oGt_int, oGe_int, oEq_int, oNe_int, sizeLine_eq, vNeg, ssSetI, sMeth, isLst, mAppend]
/-! ### rows of choices -/
abbrev Ds := List (List (Int × Int))
def okR : Ds → List Nat → Prop
  | [], [] => True
  | d :: ds, x :: xs => x < d.length ∧ okR ds xs
  | _, _ => False
def wP : Ds → List Nat → Int
  | d :: ds, x :: xs => (d.getD x (0, 0)).2 * wP ds xs
  | _, _ => 1
theorem okR_len : ∀ {ds : Ds} {r : List Nat}, okR ds r → r.length = ds.length
  | [], [], _ => rfl
  | d :: ds, x :: xs, h => by simp [okR_len h.2]
  | [], _ :: _, h => h.elim
  | _ :: _, [], h => h.elim
theorem okR_get : ∀ {ds : Ds} {r : List Nat} {k : Nat} {d : List (Int × Int)}, okR ds r → ds[k]? = some d → ∃ x, r[k]? = some x ∧ x < d.length
  | [], _, k, d, _, h => by simp at h
  | e :: ds, [], k, d, h, _ => h.elim
  | e :: ds, x :: xs, 0, d, h, hk => by simp at hk; subst hk; exact ⟨x, rfl, h.1⟩
  | e :: ds, x :: xs, k + 1, d, h, hk => by simpa using okR_get (k := k) h.2 (by simpa using hk)
theorem okR_drop : ∀ {ds : Ds} {r : List Nat} (t : Nat), okR ds r → okR (ds.drop t) (r.drop t)
  | ds, r, 0, h => by simpa using h
  | [], [], t + 1, _ => by simp [okR]
  | [], _ :: _, _, h => h.elim
  | _ :: _, [], _, h => h.elim
  | d :: ds, x :: xs, t + 1, h => by simpa using okR_drop t h.2
theorem okR_take : ∀ {ds : Ds} {r : List Nat} (t : Nat), okR ds r → okR (ds.take t) (r.take t)
  | ds, r, 0, h => by simp [okR]
  | [], [], t + 1, _ => by simp [okR]
  | [], _ :: _, _, h => h.elim
  | _ :: _, [], _, h => h.elim
  | d :: ds, x :: xs, t + 1, h => by
    simp only [List.take_succ_cons]
    exact ⟨h.1, okR_take t h.2⟩
theorem okR_app : ∀ {a b : Ds} {x y : List Nat}, okR a x → okR b y → okR (a ++ b) (x ++ y)
  | [], b, [], y, _, h => h
  | d :: a, b, u :: x, y, h, h' => ⟨h.1, okR_app h.2 h'⟩
  | [], _, _ :: _, _, h, _ => h.elim
  | _ :: _, _, [], _, h, _ => h.elim
theorem wP_app : ∀ {a b : Ds} {x y : List Nat}, okR a x → wP (a ++ b) (x ++ y) = wP a x * wP b y
  | [], b, [], y, _ => by simp [wP]
  | d :: a, b, u :: x, y, h => by
    simp only [List.cons_append, wP]
    rw [wP_app h.2, Int.mul_assoc]
  | [], _, _ :: _, _, h => h.elim
  | _ :: _, _, [], _, h => h.elim
theorem mW_get {d : List (Int × Int)} (h : GDr d) {x : Nat} (hx : x < d.length) : 0 < (d.getD x (0, 0)).2 ∧ (d.getD x (0, 0)).2 ≤ mW d ∧ (d.getD x (0, 0)).2 ≤ 1000000 := by
  have e : d.getD x (0, 0) = d[x] := by simp [hx]
  have hm : d[x] ∈ d := List.getElem_mem hx
  rw [e]
  refine ⟨(h.w _ hm).1, ?_, (h.w _ hm).2⟩
  have hne : d.map Prod.snd ≠ [] := by simpa using h.ne
  exact (maxI_spec hne).2 _ (List.mem_map_of_mem hm)
theorem wP_bd : ∀ {ds : Ds} {r : List Nat}, (∀ d ∈ ds, GDr d) → okR ds r → 0 < wP ds r ∧ wP ds r ≤ pT ds
  | [], [], _, _ => ⟨by decide, by decide⟩
  | d :: ds, x :: xs, hg, h => by
    obtain ⟨i1, i2⟩ := wP_bd (ds := ds) (r := xs) (fun y hy => hg y (by simp [hy])) h.2
    obtain ⟨j1, j2, _⟩ := mW_get (hg d (by simp)) h.1
    refine ⟨Int.mul_pos j1 i1, ?_⟩
    show (d.getD x (0, 0)).2 * wP ds xs ≤ mW d * pT ds
    exact Int.mul_le_mul j2 i2 (Int.le_of_lt i1) (by omega)
  | [], _ :: _, _, h => h.elim
  | _ :: _, [], _, h => h.elim
theorem wP_max : ∀ {ds : Ds}, (∀ d ∈ ds, GDr d) → ∃ r, okR ds r ∧ wP ds r = pT ds
  | [], _ => ⟨[], trivial, rfl⟩
  | d :: ds, hg => by
    obtain ⟨r, h1, h2⟩ := wP_max (ds := ds) fun y hy => hg y (by simp [hy])
    have hd := hg d (by simp)
    have hne : d.map Prod.snd ≠ [] := by simpa using hd.ne
    obtain ⟨p, hp, e⟩ := List.mem_map.mp (maxI_spec hne).1
    obtain ⟨j, hj⟩ := List.mem_iff_getElem?.mp hp
    have hjl := (List.getElem?_eq_some_iff.mp hj).1
    refine ⟨j :: r, ⟨hjl, h1⟩, ?_⟩
    show (d.getD j (0, 0)).2 * wP ds r = mW d * pT ds
    have : d.getD j (0, 0) = p := by rw [List.getD_eq_getElem?_getD, hj]; rfl
    rw [this, e, h2]
    rfl
def midL (r : List Nat) (lo hi : Nat) : List Nat := (r.take hi).drop lo
theorem drop_split {α : Type} {l : List α} {s t : Nat} {x : α} (h : l[s]? = some x) (ht : s < t) : l.drop s = x :: ((l.take t).drop (s + 1) ++ l.drop t) := by
  have hs := (List.getElem?_eq_some_iff.mp h).1
  have e1 : l.drop s = x :: l.drop (s + 1) := by
    rw [List.drop_eq_getElem_cons hs]
    congr 1
    exact (List.getElem?_eq_some_iff.mp h).2
  rw [e1]
  congr 1
  conv => lhs; rw [← List.take_append_drop t l]
  rw [List.drop_append]
  congr 1
  by_cases q : t ≤ l.length
  · rw [List.length_take, Nat.min_eq_left q]
    have : s + 1 - t = 0 := by omega
    rw [this]; rfl
  · rw [List.drop_eq_nil_of_le (show l.length ≤ t by omega)]
    simp
def Wt (ds : Ds) (r : List Nat) (t : Nat) : Int := wP (ds.drop t) (r.drop t)
theorem Wt_split {ds : Ds} {r : List Nat} {s t x : Nat} {d : List (Int × Int)} (ok : okR ds r) (hd : ds[s]? = some d) (hx : r[s]? = some x) (ht : s < t) : Wt ds r s = (d.getD x (0, 0)).2 * (wP (midD ds (s + 1) t) (midL r (s + 1) t) * Wt ds r t) := by
  unfold Wt
  rw [drop_split hd ht, drop_split hx ht]
  show (d.getD x (0, 0)).2 * wP (midD ds (s + 1) t ++ ds.drop t) (midL r (s + 1) t ++ r.drop t) = _
  have h0 : okR (midD ds (s + 1) t) (midL r (s + 1) t) := okR_drop _ (okR_take _ ok)
  rw [wP_app h0]
/-! ### where a row leads -/
structure CJ (ds : Ds) (ps : List Ent) : Prop where
  gp : GP ds ps
  al : ∀ (i s : Nat) (cs : List Nat), ps[i]? = some (.ask s cs) → cs.length = (ds.getD s []).length
def leadN (ps : List Ent) (r : List Nat) : Nat → Nat → D
  | 0, _ => .non
  | n + 1, i => match ps[i]? with
    | some (.ask s cs) => leadN ps r n (cs.getD (r.getD s 0) 0)
    | some (.leaf x) => x
    | none => .non
def lead (ps : List Ent) (r : List Nat) (i : Nat) : D := leadN ps r (i + 1) i
theorem child {ds : Ds} {ps : List Ent} {r : List Nat} {i s : Nat} {cs : List Nat} (cj : CJ ds ps) (ok : okR ds r) (hi : ps[i]? = some (.ask s cs)) : ∃ x c d, ds[s]? = some d ∧ r[s]? = some x ∧ x < d.length ∧ cs[x]? = some c ∧ cs.getD (r.getD s 0) 0 = c ∧ c < i ∧ ∃ e, ps[c]? = some e ∧ s < site ds.length e ∧ site ds.length e ≤ ds.length := by
  obtain ⟨h1, h2⟩ := cj.gp i _ hi
  have hd : ds[s]? = some (ds.getD s []) := by rw [List.getD_eq_getElem?_getD, List.getElem?_eq_getElem h1]; rfl
  obtain ⟨x, hx, hxl⟩ := okR_get ok hd
  have hcl := cj.al i s cs hi
  have hc : cs[x]? = some (cs[x]'(by omega)) := List.getElem?_eq_getElem (by omega)
  obtain ⟨h3, e, h4⟩ := h2 _ (List.mem_of_getElem? hc)
  refine ⟨x, _, _, hd, hx, hxl, hc, ?_, h3, e, h4⟩
  rw [List.getD_eq_getElem?_getD, List.getD_eq_getElem?_getD, hx]
  show (cs[x]?).getD 0 = _
  rw [hc]; rfl
theorem lead_fuel {ds : Ds} {ps : List Ent} {r : List Nat} (cj : CJ ds ps) (ok : okR ds r) : ∀ (f g i : Nat), i < f → i < g → leadN ps r f i = leadN ps r g i
  | f + 1, g + 1, i, h, h' => by
    unfold leadN
    cases e : ps[i]? with
    | none => rfl
    | some ent =>
      cases ent with
      | leaf x => rfl
      | ask s cs =>
        obtain ⟨x, c, d, _, _, _, _, hc, hci, _⟩ := child cj ok e
        simp only [hc]
        exact lead_fuel cj ok f g c (by omega) (by omega)
  | 0, _, i, h, _ => by omega
  | _ + 1, 0, i, _, h => by omega
theorem lead_leaf {ps : List Ent} {r : List Nat} {i : Nat} {x : D} (h : ps[i]? = some (.leaf x)) : lead ps r i = x := by
  unfold lead leadN
  rw [h]
theorem lead_ask {ds : Ds} {ps : List Ent} {r : List Nat} {i s : Nat} {cs : List Nat} (cj : CJ ds ps) (ok : okR ds r) (hi : ps[i]? = some (.ask s cs)) : lead ps r i = lead ps r (cs.getD (r.getD s 0) 0) := by
  obtain ⟨x, c, d, _, _, _, _, hc, hci, _⟩ := child cj ok hi
  unfold lead
  conv => lhs; unfold leadN
  rw [hi]
  simp only [hc]
  exact lead_fuel cj ok i (c + 1) c hci (by omega)
theorem lead_ext {ds : Ds} {ps : List Ent} {r r' : List Nat} (cj : CJ ds ps) (ok : okR ds r) (ok' : okR ds r') : ∀ (n i : Nat) (e : Ent), i < n → ps[i]? = some e → r.drop (site ds.length e) = r'.drop (site ds.length e) → lead ps r i = lead ps r' i
  | 0, i, _, h, _, _ => by omega
  | n + 1, i, .leaf x, _, hi, _ => by rw [lead_leaf hi, lead_leaf hi]
  | n + 1, i, .ask s cs, h, hi, hdr => by
    have hdr' : r.drop s = r'.drop s := hdr
    rw [lead_ask cj ok hi, lead_ask cj ok' hi]
    obtain ⟨x, c, d, hd, hx, _, _, hc, hci, e, he, hs, _⟩ := child cj ok hi
    have hx' : r'[s]? = some x := by
      have e1 : (r.drop s)[0]? = some x := by rw [List.getElem?_drop]; exact hx
      rw [hdr', List.getElem?_drop] at e1
      exact e1
    have hg : r'.getD s 0 = r.getD s 0 := by rw [List.getD_eq_getElem?_getD, List.getD_eq_getElem?_getD, hx, hx']
    rw [hg, hc]
    refine lead_ext cj ok ok' n c e (by omega) he ?_
    have e2 : ∀ l : List Nat, l.drop (site ds.length e) = (l.drop s).drop (site ds.length e - s) := fun l => by rw [List.drop_drop]; congr 1; omega
    rw [e2, e2, hdr']
/-! ### the greatest -/
def fm (a b : Int) : Int := if a < b then b else a
theorem fm_foldl : ∀ (Ns : List Int) (M : Int), M ≤ Ns.foldl fm M ∧ (∀ N ∈ Ns, N ≤ Ns.foldl fm M) ∧ (Ns.foldl fm M = M ∨ Ns.foldl fm M ∈ Ns)
  | [], M => ⟨Int.le_refl _, (fun _ h => nomatch h), .inl rfl⟩
  | N :: Ns, M => by
    obtain ⟨h1, h2, h3⟩ := fm_foldl Ns (fm M N)
    have k1 : M ≤ fm M N ∧ N ≤ fm M N ∧ (fm M N = M ∨ fm M N = N) := by unfold fm; split <;> simp <;> omega
    refine ⟨Int.le_trans k1.1 h1, fun x hx => ?_, ?_⟩
    · rcases List.mem_cons.mp hx with rfl | hx
      · exact Int.le_trans k1.2.1 h1
      · exact h2 x hx
    · rcases h3 with h | h
      · rcases k1.2.2 with e | e
        · left; show Ns.foldl fm (fm M N) = M; rw [h, e]
        · right; show Ns.foldl fm (fm M N) ∈ _; rw [h, e]; simp
      · right; exact List.mem_cons_of_mem _ h
theorem bst_low {C M N : Int} (hC : 0 < C) : bst (lowT M C, lowB M C) (lowT N C, lowB N C) = (lowT (fm M N) C, lowB (fm M N) C) := by
  have hM := lowB_pos (t := M) hC
  have hN := lowB_pos (t := N) hC
  have eM := low_cross (t := M) (b := C)
  have eN := low_cross (t := N) (b := C)
  have hk := Int.mul_pos hM hN
  have key : lowT M C * lowB N C < lowT N C * lowB M C ↔ M < N := by
    have e1 : lowT M C * lowB N C * C = M * (lowB M C * lowB N C) := by
      rw [Int.mul_assoc, Int.mul_comm (lowB N C) C, ← Int.mul_assoc, eM, Int.mul_assoc]
    have e2 : lowT N C * lowB M C * C = N * (lowB M C * lowB N C) := by
      rw [Int.mul_assoc, Int.mul_comm (lowB M C) C, ← Int.mul_assoc, eN, Int.mul_assoc, Int.mul_comm (lowB N C)]
    constructor
    · intro h
      have := Int.mul_lt_mul_of_pos_right h hC
      rw [e1, e2] at this
      exact Int.lt_of_mul_lt_mul_right this (Int.le_of_lt hk)
    · intro h
      have := Int.mul_lt_mul_of_pos_right h hk
      rw [← e1, ← e2] at this
      exact Int.lt_of_mul_lt_mul_right this (Int.le_of_lt hC)
  unfold bst fm
  simp only
  by_cases h : M < N
  · rw [if_pos (key.mpr h), if_pos h]
  · rw [if_neg (fun z => h (key.mp z)), if_neg h]
theorem bst_lows {C : Int} (hC : 0 < C) : ∀ (Ns : List Int) (M : Int), (Ns.map fun N => (lowT N C, lowB N C)).foldl bst (lowT M C, lowB M C) = (lowT (Ns.foldl fm M) C, lowB (Ns.foldl fm M) C)
  | [], M => rfl
  | N :: Ns, M => by
    simp only [List.map_cons, List.foldl_cons]
    rw [bst_low hC, bst_lows hC Ns (fm M N)]
structure Best (ds : Ds) (ps : List Ent) (i : Nat) (e : Ent) (q : Int × Int) (X : Int) : Prop where
  nn : 0 ≤ X
  eq : q = (lowT X (CS ds (site ds.length e)), lowB X (CS ds (site ds.length e)))
  up : ∀ r, okR ds r → FL.isNon (.d (lead ps r i)) = false → Wt ds r (site ds.length e) ≤ X
  at_ : 0 < X → ∃ r, okR ds r ∧ FL.isNon (.d (lead ps r i)) = false ∧ Wt ds r (site ds.length e) = X
theorem best_ok {ds : Ds} {ps : List Ent} {fs : List (Int × Int)} (hds : ∀ d ∈ ds, GDr d) (cj : CJ ds ps) (hf : GF ds ps fs) (hfl : fs.length = ps.length) : ∀ (n i : Nat) (e : Ent) (q : Int × Int), i < n → ps[i]? = some e → fs[i]? = some q → ∃ X, Best ds ps i e q X
  | 0, i, _, _, h, _, _ => by omega
  | n + 1, i, .leaf x, q, _, hi, hq => by
    have hqe : q = lfP x := hf.eq i q _ hq hi
    have hC : CS ds (site ds.length (.leaf x)) = 1 := CS_end
    have hW : ∀ r, okR ds r → Wt ds r (site ds.length (.leaf x)) = 1 := fun r ok => by
      show wP (ds.drop ds.length) (r.drop ds.length) = 1
      rw [List.drop_length]
      rfl
    obtain ⟨r0, hr0, _⟩ := wP_max hds
    cases hx : FL.isNon (.d x) with
    | true =>
      refine ⟨0, Int.le_refl _, ?_, fun r ok h => ?_, fun h => by omega⟩
      · rw [hqe, hC, (low_zero (C := 1) (by decide)).1, (low_zero (C := 1) (by decide)).2]
        simp [lfP, hx]
      · rw [lead_leaf hi, hx] at h; cases h
    | false =>
      refine ⟨1, by decide, ?_, fun r ok h => by rw [hW r ok]; exact Int.le_refl _, fun _ => ⟨r0, hr0, by rw [lead_leaf hi]; exact hx, hW r0 hr0⟩⟩
      rw [hqe, hC, (low_self (W := 1) (by decide)).1, (low_self (W := 1) (by decide)).2]
      simp [lfP, hx]
  | n + 1, i, .ask s cs, q, hin, hi, hq => by
    have g := cj.gp i _ hi
    have hil : i < ps.length := (List.getElem?_eq_some_iff.mp hi).1
    have hd : ds[s]? = some (ds.getD s []) := by rw [List.getD_eq_getElem?_getD, List.getElem?_eq_getElem g.1]; rfl
    obtain ⟨d, hdd⟩ : ∃ d, d = ds.getD s [] := ⟨_, rfl⟩
    have hcl : cs.length = d.length := by rw [hdd]; exact cj.al i s cs hi
    rw [← hdd] at hd
    have hgd := hds _ (List.mem_of_getElem? hd)
    have hqe : q = (wos ds ps fs d s cs).foldl bst (0, 1) := by
      rw [hdd]; exact hf.eq i q _ hq hi
    have ih : ∀ c, ∃ X, c ∈ cs → ∃ e q, ps[c]? = some e ∧ fs[c]? = some q ∧ s < site ds.length e ∧ site ds.length e ≤ ds.length ∧ Best ds ps c e q X := fun c => by
      by_cases hc : c ∈ cs
      · obtain ⟨hci, e, he, h1, h2⟩ := g.2 c hc
        have hqc : fs[c]? = some fs[c] := List.getElem?_eq_getElem (by omega)
        obtain ⟨X, hX⟩ := best_ok hds cj hf hfl n c e _ (by omega) he hqc
        exact ⟨X, fun _ => ⟨e, _, he, hqc, h1, h2, hX⟩⟩
      · exact ⟨0, fun z => absurd z hc⟩
    obtain ⟨Xf, hXf⟩ := Classical.axiomOfChoice ih
    have hC := CS_bd (t := s) hds
    obtain ⟨NN, hNN⟩ : ∃ NN : (Int × Int) × Nat → Int, NN = fun x => x.1.2 * pT (midD ds (s + 1) (site ds.length (ps.getD x.2 (.leaf .non)))) * Xf x.2 := ⟨_, rfl⟩
    have hwos : wos ds ps fs d s cs = ((List.zip d cs).map NN).map fun N => (lowT N (CS ds s), lowB N (CS ds s)) := by
      unfold wos
      rw [List.map_map]
      refine List.map_congr_left fun x hx => ?_
      have hx' := List.of_mem_zip (show (x.1, x.2) ∈ _ from hx)
      obtain ⟨e, qc, he, hqc, h1, h2, hB⟩ := hXf x.2 hx'.2
      have e1 : ps.getD x.2 (.leaf .non) = e := by rw [List.getD_eq_getElem?_getD, he]; rfl
      have e2 : fs.getD x.2 (0, 1) = qc := by rw [List.getD_eq_getElem?_getD, hqc]; rfl
      unfold wo woE
      simp only [e1, e2, hNN, Function.comp_apply]
      rw [hB.eq]
      have hCt := CS_bd (t := site ds.length e) hds
      have hPs := pS_bd (midD_g (lo := s + 1) (hi := site ds.length e) hds)
      have hSp : 0 < sW d * pS (midD ds (s + 1) (site ds.length e)) := Int.mul_pos hgd.s.1 hPs.2
      have hcs := CS_split hd h1
      have hl := low_eq (t := x.1.2 * pT (midD ds (s + 1) (site ds.length e)) * lowT (Xf x.2) (CS ds (site ds.length e))) (b := sW d * pS (midD ds (s + 1) (site ds.length e)) * lowB (Xf x.2) (CS ds (site ds.length e))) (t' := x.1.2 * pT (midD ds (s + 1) (site ds.length e)) * Xf x.2) (b' := CS ds s) (Int.mul_pos hSp (lowB_pos hCt.2)) hC.2 (by
        rw [hcs]
        have lc := low_cross (t := Xf x.2) (b := CS ds (site ds.length e))
        rw [mm4, Int.mul_comm (x.1.2 * pT (midD ds (s + 1) (site ds.length e))) (sW d * pS (midD ds (s + 1) (site ds.length e))), lc]
        ac_rfl)
      exact Prod.ext hl.1 hl.2
    have hq2 : q = (lowT (((List.zip d cs).map NN).foldl fm 0) (CS ds s), lowB (((List.zip d cs).map NN).foldl fm 0) (CS ds s)) := by
      rw [hqe, hwos, ← bst_lows hC.2, (low_zero hC.2).1, (low_zero hC.2).2]
    obtain ⟨f1, f2, f3⟩ := fm_foldl ((List.zip d cs).map NN) 0
    obtain ⟨X, hX⟩ : ∃ X, X = ((List.zip d cs).map NN).foldl fm 0 := ⟨_, rfl⟩
    rw [← hX] at hq2 f1 f2 f3
    refine ⟨X, f1, hq2, fun r ok h => ?_, fun h => ?_⟩
    · obtain ⟨x, c, d', hd', hx, hxl, hcx, hcg, hci, e', he', _⟩ := child cj ok hi
      rw [hd] at hd'; cases hd'
      rw [lead_ask cj ok hi, hcg] at h
      obtain ⟨e, qc, he, hqc, h1, h2, hB⟩ := hXf c (List.mem_of_getElem? hcx)
      have hup := hB.up r ok h
      show Wt ds r s ≤ X
      rw [Wt_split ok hd hx h1]
      obtain ⟨w1, w2, _⟩ := mW_get hgd hxl
      have hmid := wP_bd (midD_g (lo := s + 1) (hi := site ds.length e) hds) (okR_drop (s + 1) (okR_take (site ds.length e) ok))
      have hWp := wP_bd (ds := ds.drop (site ds.length e)) (fun d hd => hds d (List.mem_of_mem_drop hd)) (okR_drop (site ds.length e) ok)
      have hz : ((d[x]'hxl), c) ∈ List.zip d cs := List.mem_of_getElem? (i := x) (by rw [List.getElem?_zip_eq_some]; exact ⟨List.getElem?_eq_getElem hxl, hcx⟩)
      have hN := f2 _ (List.mem_map_of_mem (f := NN) hz)
      refine Int.le_trans ?_ hN
      have e1 : ps.getD c (.leaf .non) = e := by rw [List.getD_eq_getElem?_getD, he]; rfl
      have e3 : d.getD x (0, 0) = d[x] := by simp [hxl]
      simp only [hNN, e1]
      rw [e3, Int.mul_assoc]
      rw [e3] at w1
      refine Int.mul_le_mul_of_nonneg_left ?_ (Int.le_of_lt w1)
      exact Int.mul_le_mul hmid.2 hup (Int.le_of_lt hWp.1) (by have := pT_bd (midD_g (lo := s + 1) (hi := site ds.length e) hds); exact this.1)
    · rcases f3 with f3 | f3
      · omega
      · obtain ⟨x, hx, hxe⟩ := List.mem_map.mp f3
        have hx' := List.of_mem_zip (show (x.1, x.2) ∈ _ from hx)
        obtain ⟨e, qc, he, hqc, h1, h2, hB⟩ := hXf x.2 hx'.2
        have e1 : ps.getD x.2 (.leaf .non) = e := by rw [List.getD_eq_getElem?_getD, he]; rfl
        simp only [hNN, e1] at hxe
        have hw := (hgd.w _ hx'.1).1
        obtain ⟨rm, hrm, hrm2⟩ := wP_max (midD_g (lo := s + 1) (hi := site ds.length e) hds)
        have hpt := (wP_bd (midD_g (lo := s + 1) (hi := site ds.length e) hds) hrm).1
        rw [hrm2] at hpt
        have hXp : 0 < Xf x.2 := by
          rcases Int.lt_or_le 0 (Xf x.2) with z | z
          · exact z
          · have : Xf x.2 = 0 := Int.le_antisymm z hB.nn
            rw [this, Int.mul_zero] at hxe
            omega
        obtain ⟨r', ok', hl', hW'⟩ := hB.at_ hXp
        obtain ⟨j, hj⟩ := List.mem_iff_getElem?.mp hx
        rw [List.getElem?_zip_eq_some] at hj
        have hjl := (List.getElem?_eq_some_iff.mp hj.1).1
        obtain ⟨r, hr⟩ : ∃ r, r = r'.take s ++ (j :: (rm ++ r'.drop (site ds.length e))) := ⟨_, rfl⟩
        have hsl := (List.getElem?_eq_some_iff.mp hd).1
        have hds2 : ds = ds.take s ++ (d :: (midD ds (s + 1) (site ds.length e) ++ ds.drop (site ds.length e))) := by
          conv => lhs; rw [← List.take_append_drop s ds, drop_split hd h1]
          rfl
        have ok : okR ds r := by
          have h0 : okR (ds.take s ++ (d :: (midD ds (s + 1) (site ds.length e) ++ ds.drop (site ds.length e)))) r := by
            rw [hr]
            exact okR_app (okR_take s ok') ⟨hjl, okR_app hrm (okR_drop _ ok')⟩
          rw [← hds2] at h0
          exact h0
        have hr'l := okR_len ok'
        have htl : (r'.take s).length = s := by rw [List.length_take]; omega
        have hrs : r[s]? = some j := by rw [hr, List.getElem?_append_right (by omega), htl]; simp
        have hrml : rm.length = site ds.length e - (s + 1) := by
          rw [okR_len hrm]
          unfold midD
          rw [List.length_drop, List.length_take]
          omega
        have hdrop : r.drop (site ds.length e) = r'.drop (site ds.length e) := by
          rw [hr, List.drop_append, htl, List.drop_eq_nil_of_le (by omega), List.nil_append]
          have : site ds.length e - s = (site ds.length e - (s + 1)) + 1 := by omega
          rw [this, List.drop_succ_cons, List.drop_append, List.drop_eq_nil_of_le (by omega), hrml, Nat.sub_self]
          rfl
        refine ⟨r, ok, ?_, ?_⟩
        · rw [lead_ask cj ok hi]
          have hc2 : cs.getD (r.getD s 0) 0 = x.2 := by
            rw [List.getD_eq_getElem?_getD, List.getD_eq_getElem?_getD, hrs]
            show (cs[j]?).getD 0 = _
            rw [hj.2]; rfl
          rw [hc2, lead_ext cj ok ok' (x.2 + 1) x.2 e (by omega) he hdrop]
          exact hl'
        · show Wt ds r s = X
          rw [Wt_split ok hd hrs h1]
          have hmid : midL r (s + 1) (site ds.length e) = rm := by
            unfold midL
            have e5 : r = (r'.take s ++ (j :: rm)) ++ r'.drop (site ds.length e) := by rw [hr]; simp
            have l5 : (r'.take s ++ (j :: rm)).length = site ds.length e := by rw [List.length_append, List.length_cons, htl, hrml]; omega
            rw [e5, List.take_append_of_le_length (by omega), List.take_of_length_le (by omega), List.drop_append, htl, List.drop_eq_nil_of_le (by omega)]
            simp
          have hWt : Wt ds r (site ds.length e) = Xf x.2 := by unfold Wt at hW' ⊢; rw [hdrop]; exact hW'
          have e3 : d.getD j (0, 0) = x.1 := by rw [List.getD_eq_getElem?_getD, hj.1]; rfl
          rw [hmid, hWt, hrm2, e3, ← hxe, Int.mul_assoc]
abbrev rwD (r : List Nat) : D := .lst (r.map fun (x : Nat) => .int (x : Int))
abbrev psD (ps : List Ent) : D := .lst (ps.map entD)
theorem eq_aa : oEq (.d (.str (Str.ofString "ask"))) (.d (.str (Str.ofString "ask"))) = .ok (.bl true) := by rw [ak_sl, oEq_str]; rfl
theorem eq_la : oEq (.d (.str (Str.ofString "leaf"))) (.d (.str (Str.ofString "ask"))) = .ok (.bl false) := by rw [lf_sl, ak_sl, oEq_str]; rfl
abbrev aE (ps : List Ent) (p : Nat) (r : List Nat) (e : Option M) : FL.Env := [some (.d (psD ps)), some (.d (.int (p : Int))), some (.d (rwD r)), e]
theorem lead_loop {ds : Ds} {ps : List Ent} {r : List Nat} {p : Nat} (cj : CJ ds ps) (ok : okR ds r) : ∀ (n i : Nat) (e : Ent), i < n → ps[i]? = some e → ∃ x, lead ps r i = x ∧ ssWhile wc__law_lead_1 wb__law_lead_1 (aE ps p r (some (.d (entD e)))) = .ok (.nx, aE ps p r (some (.d (entD (.leaf x)))))
  | 0, i, _, h, _ => by omega
  | n + 1, i, .leaf x, _, hi => by
    refine ⟨x, lead_leaf hi, ?_⟩
    refine ssWhile_end (e := aE ps p r (some (.d (entD (.leaf x))))) ?_
    unfold wc__law_lead_1
    simp only [sbE, sV, v2, vIx, vN, vC, getE, aE, List.getElem?_cons_succ, List.getElem?_cons_zero, ix_l0, eq_la]
  | n + 1, i, .ask s cs, h, hi => by
    obtain ⟨x, c, d, hd, hx, hxl, hcx, hcg, hci, e', he', _⟩ := child cj ok hi
    obtain ⟨y, hy, hw⟩ := lead_loop (p := p) cj ok n c e' (by omega) he'
    refine ⟨y, by rw [lead_ask cj ok hi, hcg]; exact hy, ?_⟩
    have i1 : mIdx (.d (rwD r)) (.d (.int (s : Int))) = .ok (.d (.int (x : Int))) := mIdx_n (by simp [hx])
    have i2 : mIdx (.d (.lst (cs.map fun (c : Nat) => .int (c : Int)))) (.d (.int (x : Int))) = .ok (.d (.int (c : Int))) := mIdx_n (by simp [hcx])
    have i3 : mIdx (.d (psD ps)) (.d (.int (c : Int))) = .ok (.d (entD e')) := mIdx_n (by simp [he'])
    rw [ssWhile_go (e := aE ps p r (some (.d (entD (.ask s cs))))) (e2 := aE ps p r (some (.d (entD e')))) (fl := .nx) (by
      unfold wc__law_lead_1
      simp only [sbE, sV, v2, vIx, vN, vC, getE, aE, List.getElem?_cons_succ, List.getElem?_cons_zero, ix_a0, eq_aa]) (by
      unfold wb__law_lead_1
      refine (ssSet_eq (m := .d (entD e')) (e := aE ps p r (some (.d (entD (.ask s cs))))) ?_ (show (3:Nat) < 4 by decide)).trans rfl
      simp only [sV, vIx, vN, vC, getE, aE, List.getElem?_cons_succ, List.getElem?_cons_zero, ix_a1, ix_a2, i1, i2, i3]) (.inl rfl)]
    exact hw
theorem lead_int {ds : Ds} {ps : List Ent} {r : List Nat} {p : Nat} {e : Ent} (cj : CJ ds ps) (ok : okR ds r) (hp : ps[p]? = some e) : ∃ e', F__law_lead [.d (psD ps), .d (.int (p : Int)), .d (rwD r)] = .ok (.d (lead ps r p), e') := by
  obtain ⟨x, hx, hw⟩ := lead_loop (p := p) cj ok (p + 1) p e (by omega) hp
  have i1 : mIdx (.d (psD ps)) (.d (.int (p : Int))) = .ok (.d (entD e)) := mIdx_n (by simp [hp])
  unfold F__law_lead
  refine ⟨_, runF_ret (m := .d (lead ps r p)) (e := aE ps p r (some (.d (entD (.leaf x))))) ?_⟩
  unfold b__law_lead
  show ssSeq _ _ (aE ps p r none) = _
  have n0 : sV (vIx (vN 0) (vN 1)) (aE ps p r none) = .ok (.d (entD e), aE ps p r none) := by
    simp only [sV, vIx, vN, getE, aE, List.getElem?_cons_succ, List.getElem?_cons_zero, i1]
  rw [ssSeq_nx (ssSet_eq (i := 3) n0 (show (3:Nat) < 4 by decide))]
  show ssSeq _ _ (aE ps p r (some (.d (entD e)))) = _
  rw [ssSeq_nx hw, hx]
  refine ssRet_eq ?_
  simp only [sV, vIx, vN, vC, getE, aE, List.getElem?_cons_succ, List.getElem?_cons_zero, ix_l1]
/-! ### what is due -/
abbrev dE (ps : List Ent) (p : Nat) (rs : List (List Nat)) (ds : Ds) (t : Nat) (b : Int) (z6 z7 z8 z9 : Option M) : FL.Env := [some (.d (psD ps)), some (.d (.int (p : Int))), some (.d (.lst (rs.map rwD))), some (.d (dsD ds)), some (.d (.int (t : Int))), some (.d (.int b)), z6, z7, z8, z9, none]
theorem wt_step {ps : List Ent} {p : Nat} {rs : List (List Nat)} {ds : Ds} {t k : Nat} {b w : Int} {r : List Nat} {z7 : Option M} {d : List (Int × Int)} {x j : Nat} (hd : ds[k]? = some d) (hx : r[k]? = some x) (hxl : x < d.length) (hgd : GDr d) (hw : Bd j w) (hj : j ≤ 100) :
    fb__law_due_2 (dE ps p rs ds t b (some (.d (rwD r))) z7 (some (.d (.int (k : Int)))) (some (.d (.int w)))) = .ok (.nx, dE ps p rs ds t b (some (.d (rwD r))) z7 (some (.d (.int (k : Int)))) (some (.d (.int (w * (d.getD x (0, 0)).2))))) := by
  have e3 : d.getD x (0, 0) = d[x] := by simp [hxl]
  have hm : d[x] ∈ d := List.getElem_mem hxl
  have c1 : CMulD w (d[x]).2 := hw.cmul (hgd.bw hm)
  have i1 : mIdx (.d (dsD ds)) (.d (.int (k : Int))) = .ok (.d (drwD d)) := mIdx_n (by simp [hd])
  have i2 : mIdx (.d (rwD r)) (.d (.int (k : Int))) = .ok (.d (.int (x : Int))) := mIdx_n (by simp [hx])
  have i3 : mIdx (.d (drwD d)) (.d (.int (x : Int))) = .ok (.d (pI (d[x]).1 (d[x]).2)) := mIdx_n (by simp [hxl])
  have i4 : mIdx (.d (pI (d[x]).1 (d[x]).2)) (.d (.int 1)) = .ok (.d (.int (d[x]).2)) := rfl
  rw [e3]
  unfold fb__law_due_2
  refine (ssSet_eq (m := .d (.int (w * (d[x]).2))) (e := dE ps p rs ds t b (some (.d (rwD r))) z7 (some (.d (.int (k : Int)))) (some (.d (.int w)))) ?_ (show (9:Nat) < 11 by decide)).trans rfl
  simp only [sV, v2, vIx, vN, vC, getE, dE, List.getElem?_cons_succ, List.getElem?_cons_zero, i1, i2, i3, i4, oMul_int c1]
theorem wt_loop {ps : List Ent} {p : Nat} {rs : List (List Nat)} {ds : Ds} {t0 : Nat} {b : Int} {r : List Nat} {z7 : Option M} (hds : ∀ d ∈ ds, GDr d) (ok : okR ds r) : ∀ (m t j : Nat) (w : Int) (z8 : Option M), t + m = ds.length → Bd j w → j + m ≤ 100 →
    ∃ z8', fl fg__law_due_2 fb__law_due_2 ((List.range' t m).map fun (k : Nat) => D.int (k : Int)) (dE ps p rs ds t0 b (some (.d (rwD r))) z7 z8 (some (.d (.int w)))) = .ok (.nx, dE ps p rs ds t0 b (some (.d (rwD r))) z7 z8' (some (.d (.int (w * Wt ds r t)))))
  | 0, t, j, w, z8, ht, _, _ => by
    refine ⟨z8, ?_⟩
    have : Wt ds r t = 1 := by
      unfold Wt
      rw [List.drop_eq_nil_of_le (by omega)]
      rfl
    rw [this, Int.mul_one]
    rfl
  | m + 1, t, j, w, z8, ht, hw, hj => by
    have hd : ds[t]? = some (ds[t]'(by omega)) := List.getElem?_eq_getElem (by omega)
    have hgd := hds _ (List.mem_of_getElem? hd)
    obtain ⟨x, hx, hxl⟩ := okR_get ok hd
    obtain ⟨w1, w2, w3⟩ := mW_get hgd hxl
    have hs := wt_step (ps := ps) (p := p) (rs := rs) (t := t0) (b := b) (z7 := z7) hd hx hxl hgd hw (by omega)
    have hb : Bd 1 ((ds[t]'(by omega)).getD x (0, 0)).2 := Bd1 (by omega) (by omega)
    obtain ⟨z8', h⟩ := wt_loop (ps := ps) (p := p) (rs := rs) (t0 := t0) (b := b) (z7 := z7) hds ok m (t + 1) (j + 1) _ (some (.d (.int (t : Int)))) (by omega) (hw.mul hb) (by omega)
    refine ⟨z8', ?_⟩
    rw [List.range'_succ, List.map_cons, fl_one (e1 := dE ps p rs ds t0 b (some (.d (rwD r))) z7 (some (.d (.int (t : Int)))) (some (.d (.int w)))) rfl hs, h]
    have e1 : Wt ds r t = ((ds[t]'(by omega)).getD x (0, 0)).2 * Wt ds r (t + 1) := by
      unfold Wt
      rw [List.drop_eq_getElem_cons (show t < ds.length by omega), List.drop_eq_getElem_cons (show t < r.length by rw [okR_len ok]; omega)]
      have : r[t]'(by rw [okR_len ok]; omega) = x := (List.getElem?_eq_some_iff.mp hx).2
      rw [this]
      rfl
    rw [e1, Int.mul_assoc]
theorem siR2_nat {fs : SA} {env e : FL.Env} {i n : Nat} (h : fs env = .ok ([.d (.int (i : Int)), .d (.int (n : Int))], e)) (hi : i < 1000) (hn : n < 1000) : siR2 fs env = .ok ((List.range' i (n - i)).map fun (k : Nat) => D.int (k : Int), e) := by
  have q : C62 (i : Int) ∧ C62 (n : Int) := ⟨⟨by omega, by omega⟩, ⟨by omega, by omega⟩⟩
  have e1 : ((n : Int) - (i : Int)).toNat = n - i := by omega
  simp only [siR2, h, if_pos q, e1]
  rw [List.range'_eq_map_range, List.map_map]
  congr 2
def bstep (ds : Ds) (ps : List Ent) (p t : Nat) (b : Int) (r : List Nat) : Int := if FL.isNon (.d (lead ps r p)) then b else fm b (Wt ds r t)
theorem row_step {ps : List Ent} {p : Nat} {rs : List (List Nat)} {ds : Ds} {t : Nat} {b : Int} {r : List Nat} {z7 z8 z9 : Option M} {e : Ent} (hds : ∀ d ∈ ds, GDr d) (hl : ds.length ≤ 24) (cj : CJ ds ps) (ok : okR ds r) (hp : ps[p]? = some e) (ht : t ≤ ds.length) :
    ∃ z8' z9', fb__law_due_1 (dE ps p rs ds t b (some (.d (rwD r))) z7 z8 z9) = .ok (.nx, dE ps p rs ds t (bstep ds ps p t b r) (some (.d (rwD r))) z7 z8' z9') := by
  obtain ⟨z8', hlp⟩ := wt_loop (ps := ps) (p := p) (rs := rs) (t0 := t) (b := b) (z7 := z7) hds ok (ds.length - t) t 0 1 z8 (by omega) (Bd.one 0) (by omega)
  rw [Int.one_mul] at hlp
  obtain ⟨e', hlead⟩ := lead_int cj ok hp
  obtain ⟨w, hw⟩ : ∃ w, w = Wt ds r t := ⟨_, rfl⟩
  rw [← hw] at hlp
  refine ⟨z8', some (.d (.int w)), ?_⟩
  unfold fb__law_due_1
  rw [ssSeq_nx (e := dE ps p rs ds t b (some (.d (rwD r))) z7 z8 (some (.d (.int 1)))) rfl]
  have hsa : saCons (sN 4) (saCons (sV (vB bLen (vaCons (vN 3) (vaNil)))) (saNil)) (dE ps p rs ds t b (some (.d (rwD r))) z7 z8 (some (.d (.int 1)))) = .ok ([.d (.int (t : Int)), .d (.int (ds.length : Int))], dE ps p rs ds t b (some (.d (rwD r))) z7 z8 (some (.d (.int 1)))) := by
    refine sa2_eq rfl ?_
    simp only [sV, vB, vaCons, vaNil, vN, getE, dE, List.getElem?_cons_succ, List.getElem?_cons_zero, bLen_ds]
  rw [ssSeq_nx ((ssFor_eq (siR2_nat hsa (by omega) (by omega))).trans hlp)]
  obtain ⟨E, hE⟩ : ∃ E, E = dE ps p rs ds t b (some (.d (rwD r))) z7 z8' (some (.d (.int w))) := ⟨_, rfl⟩
  have n0 : sN 0 E = .ok (.d (psD ps), E) := by rw [hE]; rfl
  have n1 : sN 1 E = .ok (.d (.int (p : Int)), E) := by rw [hE]; rfl
  have n6 : sN 6 E = .ok (.d (rwD r), E) := by rw [hE]; rfl
  have hcall := sCall_n (bk := [none, none, none]) (by decide) (sa3_eq n0 n1 n6) hlead
  have hc : sbE (s2v oIsNot (sCall F__law_lead [none, none, none] (saCons (sN 0) (saCons (sN 1) (saCons (sN 6) (saNil))))) (vC .non)) E = .ok (!FL.isNon (.d (lead ps r p)), E) := by
    refine sbE_eq (s2v_eq hcall rfl ?_)
    rfl
  rw [← hE]
  unfold bstep
  cases hn : FL.isNon (.d (lead ps r p)) with
  | true =>
    rw [hn] at hc
    rw [ssIf_f hc, hE]
    rfl
  | false =>
    rw [hn] at hc
    rw [ssIf_t hc]
    have hv : sV (vB bMax2 (vaCons (vN 5) (vaCons (vN 9) vaNil))) E = .ok (.d (.int (fm b w)), E) := by
      rw [hE]
      simp only [sV, vB, vaCons, vaNil, vN, getE, dE, List.getElem?_cons_succ, List.getElem?_cons_zero, bMax2, b2I]
      rfl
    rw [ssSet_eq (i := 5) hv (by rw [hE]; show (5:Nat) < 11; decide), hE, hw]
    rfl
theorem brow_loop {ps : List Ent} {p : Nat} {rs : List (List Nat)} {ds : Ds} {t : Nat} {b0 : Int} {z6 z7 z8 z9 : Option M} {e : Ent} (hds : ∀ d ∈ ds, GDr d) (hl : ds.length ≤ 24) (cj : CJ ds ps) (hp : ps[p]? = some e) (ht : t ≤ ds.length) (hr : ∀ r ∈ rs, okR ds r) :
    ∃ z6' z8' z9', ssForW [2] (iwN 2) fg__law_due_1 fb__law_due_1 (dE ps p rs ds t b0 z6 z7 z8 z9) = .ok (.nx, dE ps p rs ds t (rs.foldl (bstep ds ps p t) b0) z6' z7 z8' z9') := by
  obtain ⟨e', h1, b, z6', z8', z9', ⟨hb, _⟩, rfl⟩ := flw_all (ws := [2]) (env0 := dE ps p rs ds t b0 z6 z7 z8 z9) (g := fg__law_due_1) (b := fb__law_due_1) rwD
    (fun rest env => ∃ b z6 z8 z9, (rest.foldl (bstep ds ps p t) b = rs.foldl (bstep ds ps p t) b0 ∧ ∀ r ∈ rest, okR ds r) ∧ env = dE ps p rs ds t b z6 z7 z8 z9)
    (fun xs env ⟨b, z6, z8, z9, _, h⟩ => by subst h; intro i hi; simp at hi; subst hi; rfl)
    (fun r rest env ⟨b, z6, z8, z9, ⟨hb, hok⟩, h⟩ => by
      subst h
      obtain ⟨z8', z9', hs⟩ := row_step (rs := rs) (b := b) (z7 := z7) (z8 := z8) (z9 := z9) hds hl cj (hok r (by simp)) hp ht
      exact ⟨dE ps p rs ds t b (some (.d (rwD r))) z7 z8 z9, _, .nx, rfl, hs, .inl rfl, _, _, _, _, ⟨hb, fun x hx => hok x (by simp [hx])⟩, rfl⟩)
    rs (dE ps p rs ds t b0 z6 z7 z8 z9) ⟨b0, z6, z8, z9, ⟨rfl, hr⟩, rfl⟩
  have hb' : b = rs.foldl (bstep ds ps p t) b0 := hb
  rw [hb'] at h1
  have hi : iwN 2 (dE ps p rs ds t b0 z6 z7 z8 z9) = .ok (rs.map rwD) := rfl
  exact ⟨z6', z8', z9', (ssForW_eq hi).trans h1⟩
theorem best_fold {ds : Ds} {ps : List Ent} {p t : Nat} {X : Int} : ∀ (rs : List (List Nat)) (b : Int), b ≤ X → (∀ r ∈ rs, FL.isNon (.d (lead ps r p)) = false → Wt ds r t ≤ X) → (b = X ∨ ∃ r ∈ rs, FL.isNon (.d (lead ps r p)) = false ∧ Wt ds r t = X) → rs.foldl (bstep ds ps p t) b = X
  | [], b, _, _, h => by rcases h with h | ⟨r, hr, _⟩; exact h; cases hr
  | r :: rs, b, hb, hu, h => by
    have hr := hu r (by simp)
    have k1 : bstep ds ps p t b r ≤ X := by
      unfold bstep
      cases hn : FL.isNon (.d (lead ps r p)) with
      | true => simpa using hb
      | false => have := hr hn; simp [fm]; split <;> assumption
    refine best_fold rs _ k1 (fun x hx => hu x (by simp [hx])) ?_
    rcases h with h | ⟨x, hx, h1, h2⟩
    · left
      unfold bstep
      cases hn : FL.isNon (.d (lead ps r p)) with
      | true => simpa using h
      | false => have := hr hn; simp [fm]; omega
    · rcases List.mem_cons.mp hx with rfl | hx
      · left
        unfold bstep
        rw [h1]
        simp [fm]
        omega
      · exact .inr ⟨x, hx, h1, h2⟩
theorem lsite_leaf (x : D) : F__law_site [.d (entD (.leaf x))] = .ok (.d (.int 100), [some (.d (entD (.leaf x)))]) := by
  simp [F__law_site, b__law_site, runF, ssSeq, ssIf, sbE, sV, v2, vIx, vN, vC, getE, ix_l0, eq_ll, ssRet, killAll]
theorem lsite_ask (s : Nat) (cs : List Nat) : F__law_site [.d (entD (.ask s cs))] = .ok (.d (.int s), [some (.d (entD (.ask s cs)))]) := by
  simp [F__law_site, b__law_site, runF, ssSeq, ssIf, sbE, sV, v2, vIx, vN, vC, getE, ix_a0, ix_a1, eq_al, ssRet, ssNil, killAll]
theorem CS_step {ds : Ds} {t : Nat} {d : List (Int × Int)} (hd : ds[t]? = some d) : CS ds t = sW d * CS ds (t + 1) := by
  have hs := (List.getElem?_eq_some_iff.mp hd).1
  unfold CS
  rw [List.drop_eq_getElem_cons hs, (List.getElem?_eq_some_iff.mp hd).2]
  rfl
theorem whole_step {ps : List Ent} {p : Nat} {rs : List (List Nat)} {ds : Ds} {t k : Nat} {b w : Int} {z6 z9 : Option M} {d : List (Int × Int)} {j : Nat} (hd : ds[k]? = some d) (hgd : GDr d) (hw : Bd j w) (hj : j ≤ 100) :
    fb__law_due_3 (dE ps p rs ds t b z6 (some (.d (.int w))) (some (.d (.int (k : Int)))) z9) = .ok (.nx, dE ps p rs ds t b z6 (some (.d (.int (w * sW d)))) (some (.d (.int (k : Int)))) z9) := by
  have c1 : CMulD w (sW d) := hw.cmul hgd.bs
  have i1 : mIdx (.d (dsD ds)) (.d (.int (k : Int))) = .ok (.d (drwD d)) := mIdx_n (by simp [hd])
  obtain ⟨E, hE⟩ : ∃ E, E = dE ps p rs ds t b z6 (some (.d (.int w))) (some (.d (.int (k : Int)))) z9 := ⟨_, rfl⟩
  have hq1 : siQ (sV (vIx (vN 3) (vN 8))) E = .ok (d.map (fun p => pI p.1 p.2), E) := by
    rw [hE]
    simp only [siQ, sV, vIx, vN, getE, dE, List.getElem?_cons_succ, List.getElem?_cons_zero, i1, fz, drwD, itemsD]
  have hk : killAll [10] E = E := by rw [hE]; rfl
  have hlm := lcl_map (own := [10]) (g := sgN 10) (c := sbYes) (f := sV (vIx (vN 10) (vC (.int 1)))) (env := E) (fun p : Int × Int => pI p.1 p.2) (fun p => M.d (.int p.2)) d [] (fun p hp => by
    rw [hE]
    exact ⟨[some (.d (psD ps)), some (.d (.int _)), some (.d (.lst (rs.map rwD))), some (.d (dsD ds)), some (.d (.int (t : Int))), some (.d (.int b)), z6, some (.d (.int w)), some (.d (.int (k : Int))), z9, some (.d (pI p.1 p.2))], _, _, rfl, rfl, rfl, rfl⟩)
  have hlc := sLc_eq hq1 (by have := hgd.len; rw [sizeLine_eq, List.length_map]; omega) (by rw [hk]; exact hlm)
  have hwM : M.lst ([] ++ d.map fun p => M.d (.int p.2)) = wM d := rfl
  rw [hwM] at hlc
  have n7 : sN 7 E = .ok (.d (.int w), E) := by rw [hE]; rfl
  have hv := s2_eq (op := oMul) n7 (sB_eq (sa1_eq hlc) (bSum_w d)) (oMul_int c1)
  unfold fb__law_due_3
  rw [← hE, ssSet_eq (i := 7) hv (by rw [hE]; show (7:Nat) < 11; decide), hE]
  rfl
theorem whole_loop {ps : List Ent} {p : Nat} {rs : List (List Nat)} {ds : Ds} {t0 : Nat} {b : Int} {z6 z9 : Option M} (hds : ∀ d ∈ ds, GDr d) : ∀ (m t j : Nat) (w : Int) (z8 : Option M), t + m = ds.length → Bd j w → j + m ≤ 100 →
    ∃ z8', fl fg__law_due_3 fb__law_due_3 ((List.range' t m).map fun (k : Nat) => D.int (k : Int)) (dE ps p rs ds t0 b z6 (some (.d (.int w))) z8 z9) = .ok (.nx, dE ps p rs ds t0 b z6 (some (.d (.int (w * CS ds t)))) z8' z9)
  | 0, t, j, w, z8, ht, _, _ => by
    refine ⟨z8, ?_⟩
    have : CS ds t = 1 := by
      unfold CS
      rw [List.drop_eq_nil_of_le (by omega)]
      rfl
    rw [this, Int.mul_one]
    rfl
  | m + 1, t, j, w, z8, ht, hw, hj => by
    have hd : ds[t]? = some (ds[t]'(by omega)) := List.getElem?_eq_getElem (by omega)
    have hgd := hds _ (List.mem_of_getElem? hd)
    have hs := whole_step (ps := ps) (p := p) (rs := rs) (t := t0) (b := b) (z6 := z6) (z9 := z9) hd hgd hw (by omega)
    obtain ⟨z8', h⟩ := whole_loop (ps := ps) (p := p) (rs := rs) (t0 := t0) (b := b) (z6 := z6) (z9 := z9) hds m (t + 1) (j + 1) _ (some (.d (.int (t : Int)))) (by omega) (hw.mul hgd.bs) (by omega)
    refine ⟨z8', ?_⟩
    rw [List.range'_succ, List.map_cons, fl_one (e1 := dE ps p rs ds t0 b z6 (some (.d (.int w))) (some (.d (.int (t : Int)))) z9) rfl hs, h, CS_step hd, Int.mul_assoc]
theorem due_int {ps : List Ent} {p : Nat} {rs : List (List Nat)} {ds : Ds} {e : Ent} {q : Int × Int} {X : Int} (hds : ∀ d ∈ ds, GDr d) (hl : ds.length ≤ 24) (cj : CJ ds ps) (hp : ps[p]? = some e) (hr : ∀ r, r ∈ rs ↔ okR ds r) (hB : Best ds ps p e q X) :
    ∃ e', F__law_due [.d (psD ps), .d (.int (p : Int)), .d (.lst (rs.map rwD)), .d (dsD ds)] = .ok (.d (pI X (CS ds (site ds.length e))), e') := by
  obtain ⟨t, ht⟩ : ∃ t, t = site ds.length e := ⟨_, rfl⟩
  have htl : t ≤ ds.length := by
    rw [ht]
    cases e with
    | leaf x => exact Nat.le_refl _
    | ask s cs => exact Nat.le_of_lt (cj.gp p _ hp).1
  have i1 : mIdx (.d (psD ps)) (.d (.int (p : Int))) = .ok (.d (entD e)) := mIdx_n (by simp [hp])
  have hfold : rs.foldl (bstep ds ps p t) 0 = X := by
    refine best_fold rs 0 hB.nn (fun r hm hn => by rw [ht]; exact hB.up r ((hr r).mp hm) hn) ?_
    rcases Int.lt_or_le 0 X with z | z
    · obtain ⟨r, ok, h1, h2⟩ := hB.at_ z
      exact .inr ⟨r, (hr r).mpr ok, h1, by rw [ht]; exact h2⟩
    · left; have := hB.nn; omega
  obtain ⟨z6, z8, z9, hloop⟩ := brow_loop (z6 := none) (z7 := none) (z8 := none) (z9 := none) (b0 := 0) hds hl cj hp htl fun r hm => (hr r).mp hm
  rw [hfold] at hloop
  obtain ⟨z8', hwh⟩ := whole_loop (ps := ps) (p := p) (rs := rs) (t0 := t) (b := X) (z6 := z6) (z9 := z9) hds (ds.length - t) t 0 1 z8 (by omega) (Bd.one 0) (by omega)
  rw [Int.one_mul] at hwh
  rw [← ht]
  obtain ⟨Cv, hCv⟩ : ∃ Cv, Cv = CS ds t := ⟨_, rfl⟩
  rw [← hCv] at hwh ⊢
  unfold F__law_due
  refine ⟨_, runF_ret (m := .d (pI X Cv)) (e := dE ps p rs ds t X z6 (some (.d (.int Cv))) z8' z9) ?_⟩
  unfold b__law_due
  obtain ⟨E, hE⟩ : ∃ E : FL.Env, E = [some (.d (psD ps)), some (.d (.int (p : Int))), some (.d (.lst (rs.map rwD))), some (.d (dsD ds)), none, none, none, none, none, none, none] := ⟨_, rfl⟩
  show ssSeq _ _ [some (.d (psD ps)), some (.d (.int (p : Int))), some (.d (.lst (rs.map rwD))), some (.d (dsD ds)), none, none, none, none, none, none, none] = _
  rw [← hE]
  have n0 : sV (vIx (vN 0) (vN 1)) E = .ok (.d (entD e), E) := by
    rw [hE]; simp only [sV, vIx, vN, getE, List.getElem?_cons_succ, List.getElem?_cons_zero, i1]
  have n3 : sV (vB bLen (vaCons (vN 3) (vaNil))) E = .ok (.d (.int (ds.length : Int)), E) := by
    rw [hE]; simp only [sV, vB, vaCons, vaNil, vN, getE, List.getElem?_cons_succ, List.getElem?_cons_zero, bLen_ds]
  have h4 : sB bMin2 (saCons (sCall F__law_site [none] (saCons (sV (vIx (vN 0) (vN 1))) (saNil))) (saCons (sV (vB bLen (vaCons (vN 3) (vaNil)))) (saNil))) E = .ok (.d (.int (t : Int)), E) := by
    cases e with
    | leaf x =>
      refine sB_eq (sa2_eq (sCall_n (by decide) (sa1_eq n0) (lsite_leaf x)) n3) ?_
      have ht' : t = ds.length := ht
      have hlt : (ds.length : Int) < 100 := by omega
      simp only [bMin2, b2I]
      rw [if_pos hlt, ht']
    | ask s cs =>
      refine sB_eq (sa2_eq (sCall_n (by decide) (sa1_eq n0) (lsite_ask s cs)) n3) ?_
      have ht' : t = s := ht
      have hge : ¬ (ds.length : Int) < (s : Int) := by omega
      simp only [bMin2, b2I]
      rw [if_neg hge, ht']
  rw [ssSeq_nx (ssSet_eq (i := 4) h4 (by rw [hE]; show (4:Nat) < 11; decide)), hE]
  show ssSeq _ _ [some (.d (psD ps)), some (.d (.int (p : Int))), some (.d (.lst (rs.map rwD))), some (.d (dsD ds)), some (.d (.int (t : Int))), none, none, none, none, none, none] = _
  rw [ssSeq_nx (e := dE ps p rs ds t 0 none none none none) rfl]
  rw [ssSeq_nx hloop]
  rw [ssSeq_nx (e := dE ps p rs ds t X z6 (some (.d (.int 1))) z8 z9) rfl]
  have hsa : saCons (sN 4) (saCons (sV (vB bLen (vaCons (vN 3) (vaNil)))) (saNil)) (dE ps p rs ds t X z6 (some (.d (.int 1))) z8 z9) = .ok ([.d (.int (t : Int)), .d (.int (ds.length : Int))], dE ps p rs ds t X z6 (some (.d (.int 1))) z8 z9) := by
    refine sa2_eq rfl ?_
    simp only [sV, vB, vaCons, vaNil, vN, getE, dE, List.getElem?_cons_succ, List.getElem?_cons_zero, bLen_ds]
  rw [ssSeq_nx ((ssFor_eq (siR2_nat hsa (by omega) (by omega))).trans hwh)]
  refine ssRet_eq ?_
  simp only [sTup, saCons, saNil, sN, getE, dE, List.getElem?_cons_succ, List.getElem?_cons_zero, fz, List.length_cons, List.length_nil, sizeLine_eq]
  simp [mTup, isD, unD]
/-! ### all rows -/
def ext1 (rs : List (List Nat)) (m : Nat) : List (List Nat) := rs.flatMap fun r => (List.range m).map fun t => r ++ [t]
def rowsL (ws : List Nat) : List (List Nat) := ws.foldl ext1 [[]]
theorem rows_mem : ∀ (ds : Ds) (pre : Ds) (rs : List (List Nat)), (∀ r, r ∈ rs ↔ okR pre r) → ∀ r, r ∈ (ds.map List.length).foldl ext1 rs ↔ okR (pre ++ ds) r
  | [], pre, rs, h, r => by simpa using h r
  | d :: ds, pre, rs, h, r => by
    have h2 : ∀ r, r ∈ ext1 rs d.length ↔ okR (pre ++ [d]) r := fun r => by
      unfold ext1
      rw [List.mem_flatMap]
      constructor
      · rintro ⟨r0, hr0, hm⟩
        obtain ⟨t, ht, rfl⟩ := List.mem_map.mp hm
        exact okR_app ((h r0).mp hr0) ⟨List.mem_range.mp ht, trivial⟩
      · intro ok
        have hl := okR_len ok
        rw [List.length_append] at hl
        have hd : (pre ++ [d])[pre.length]? = some d := by simp
        obtain ⟨x, hx, hxl⟩ := okR_get ok hd
        have ht := okR_take pre.length ok
        rw [List.take_left' rfl] at ht
        refine ⟨r.take pre.length, (h _).mpr ht, List.mem_map.mpr ⟨x, List.mem_range.mpr hxl, ?_⟩⟩
        have e : r = r.take pre.length ++ r.drop pre.length := (List.take_append_drop _ _).symm
        have hdr : r.drop pre.length = [x] := by
          have h1 := (List.getElem?_eq_some_iff.mp hx).1
          rw [List.drop_eq_getElem_cons h1, (List.getElem?_eq_some_iff.mp hx).2, List.drop_eq_nil_of_le (by simp at hl; omega)]
        rw [hdr] at e
        exact e.symm
    have := rows_mem ds (pre ++ [d]) (ext1 rs d.length) h2 r
    rw [List.append_assoc] at this
    exact this
theorem rows_all (ds : Ds) (r : List Nat) : r ∈ rowsL (ds.map List.length) ↔ okR ds r := by
  have := rows_mem ds [] [[]] (fun r => by
    cases r with
    | nil => simp [okR]
    | cons x xs => simp [okR]) r
  rw [List.nil_append] at this
  exact this
abbrev wsD (ws : List Nat) : D := .lst (ws.map fun (x : Nat) => .int (x : Int))
def rM (rs : List (List Nat)) : M := .lst (rs.map fun r => .d (rwD r))
abbrev rE (A : M) (z1 z2 z3 z4 z5 : Option M) : FL.Env := [some A, z1, z2, z3, z4, z5]
theorem ext_in {A : M} {z1 z2 : Option M} {done : List (List Nat)} {r : List Nat} {j : Nat} (hd : done.length < 10000) (hr : r.length < 100) :
    fb__law_rows_3 (rE A z1 z2 (some (rM done)) (some (.d (rwD r))) (some (.d (.int (j : Int))))) = .ok (.nx, rE A z1 z2 (some (rM (done ++ [r ++ [j]]))) (some (.d (rwD r))) (some (.d (.int (j : Int))))) := by
  obtain ⟨E, hE⟩ : ∃ E, E = rE A z1 z2 (some (rM done)) (some (.d (rwD r))) (some (.d (.int (j : Int)))) := ⟨_, rfl⟩
  have n4 : sN 4 E = .ok (.d (rwD r), E) := by rw [hE]; rfl
  have n5 : sN 5 E = .ok (.d (.int (j : Int)), E) := by rw [hE]; rfl
  have hl : sLst (saCons (sN 5) (saNil)) E = .ok (.lst [.d (.int (j : Int))], E) := by
    unfold sLst
    rw [sa1_eq n5]
    simp [sizeLine_eq]
  have hadd : mAdd (.d (rwD r)) (.lst [.d (.int (j : Int))]) = .ok (.lst ((r ++ [j]).map fun (x : Nat) => .d (.int (x : Int)))) := by
    have h0 : oAdd (.d (rwD r)) (.lst [.d (.int (j : Int))]) = .bad := rfl
    have h1 : ((r.map fun (x : Nat) => D.int (x : Int)).map M.d).length + [M.d (.int (j : Int))].length ≤ sizeLine := by
      rw [sizeLine_eq, List.length_map, List.length_map, List.length_cons, List.length_nil]; omega
    simp only [mAdd, mOr, h0, mCatL, lstItems, if_pos h1]
    simp
  have hv : sFz (s2m mAdd (sN 4) (sLst (saCons (sN 5) (saNil)))) E = .ok (.d (rwD (r ++ [j])), E) := by
    have h2 : s2m mAdd (sN 4) (sLst (saCons (sN 5) (saNil))) E = .ok (.lst ((r ++ [j]).map fun (x : Nat) => .d (.int (x : Int))), E) := by
      unfold s2m
      rw [n4]
      simp only []
      rw [hl]
      simp only []
      rw [hadd]
    have h3 := sFz_eq h2
    have h4 : fz (.lst ((r ++ [j]).map fun (x : Nat) => M.d (.int (x : Int)))) = rwD (r ++ [j]) := by simp only [fz, fzs_map_d]
    rw [h4] at h3
    exact h3
  have hg : getE E 3 = .ok (rM done) := by rw [hE]; rfl
  have happ : mAppend (rM done) [.d (rwD (r ++ [j]))] = .ok (.d .non, rM (done ++ [r ++ [j]])) := by
    have : (done.map fun r => M.d (rwD r)).length < sizeLine := by rw [sizeLine_eq, List.length_map]; omega
    simp only [mAppend, rM, if_pos this]
    simp
  unfold fb__law_rows_3
  rw [← hE, ssDrop_eq (sMeth_eq hg rfl (sa1_eq hv) hg happ), hE]
  rfl
theorem ext_row {A : M} {z1 : Option M} {done : List (List Nat)} {r : List Nat} {m : Nat} {z5 : Option M} (hm : m ≤ 6) (hd : done.length < 9000) (hr : r.length < 100) :
    ∃ z5', fb__law_rows_2 (rE A z1 (some (.d (.int (m : Int)))) (some (rM done)) (some (.d (rwD r))) z5) = .ok (.nx, rE A z1 (some (.d (.int (m : Int)))) (some (rM (done ++ (List.range m).map fun t => r ++ [t]))) (some (.d (rwD r))) z5') := by
  obtain ⟨e', h1, dn, z5', e1, rfl⟩ := fl_all (g := fg__law_rows_3) (b := fb__law_rows_3) (fun (j : Nat) => D.int (0 + (j : Int)))
    (fun rest env => ∃ dn z5, (dn ++ rest.map (fun t => r ++ [t]) = done ++ (List.range m).map fun t => r ++ [t]) ∧ env = rE A z1 (some (.d (.int (m : Int)))) (some (rM dn)) (some (.d (rwD r))) z5)
    (fun j rest env hI => by
      obtain ⟨dn, z5, e1, rfl⟩ := hI
      have hl : dn.length < 10000 := by
        have := congrArg List.length e1
        simp only [List.length_append, List.length_map, List.length_range, List.length_cons] at this
        omega
      have hz : (0 : Int) + (j : Int) = (j : Int) := Int.zero_add _
      exact ⟨rE A z1 (some (.d (.int (m : Int)))) (some (rM dn)) (some (.d (rwD r))) (some (.d (.int (j : Int)))), _, .nx, by rw [hz]; rfl, ext_in hl hr, .inl rfl, _, _, by rw [← e1]; simp, rfl⟩)
    (List.range m) (rE A z1 (some (.d (.int (m : Int)))) (some (rM done)) (some (.d (rwD r))) z5) ⟨done, z5, rfl, rfl⟩
  rw [List.map_nil, List.append_nil] at e1
  subst e1
  refine ⟨z5', ?_⟩
  have hr1 : siR1 (saCons (sN 2) (saNil)) (rE A z1 (some (.d (.int (m : Int)))) (some (rM done)) (some (.d (rwD r))) z5) = .ok ((List.range m).map fun (j : Nat) => D.int (0 + (j : Int)), rE A z1 (some (.d (.int (m : Int)))) (some (rM done)) (some (.d (rwD r))) z5) := by
    have q : C62 (m : Int) := ⟨by omega, by omega⟩
    simp only [siR1, saCons, saNil, sN, getE, rE, List.getElem?_cons_succ, List.getElem?_cons_zero, fz, if_pos q, Int.toNat_natCast]
  unfold fb__law_rows_2
  exact (ssFor_eq hr1).trans h1
theorem ext1_len (rs : List (List Nat)) (m : Nat) : (ext1 rs m).length = rs.length * m := by
  unfold ext1
  induction rs with
  | nil => simp
  | cons r rs ih => rw [List.flatMap_cons, List.length_append, ih, List.length_map, List.length_range, List.length_cons, Nat.add_mul, Nat.one_mul, Nat.add_comm]
theorem ext1_row {rs : List (List Nat)} {m k : Nat} (h : ∀ r ∈ rs, r.length = k) : ∀ r ∈ ext1 rs m, r.length = k + 1 := fun r hr => by
  obtain ⟨r0, h0, hm⟩ := List.mem_flatMap.mp hr
  obtain ⟨t, _, rfl⟩ := List.mem_map.mp hm
  simp [h r0 h0]
theorem ext_all {A : M} {rs : List (List Nat)} {m k : Nat} {z3 z4 z5 : Option M} (hm : m ≤ 6) (hl : rs.length ≤ 1296) (hk : k < 90) (hr : ∀ r ∈ rs, r.length = k) :
    ∃ z3' z4' z5', fb__law_rows_1 (rE A (some (.d (.lst (rs.map rwD)))) (some (.d (.int (m : Int)))) z3 z4 z5) = .ok (.nx, rE A (some (.d (.lst ((ext1 rs m).map rwD)))) (some (.d (.int (m : Int)))) z3' z4' z5') := by
  obtain ⟨e', h1, dn, z4', z5', ⟨e1, _⟩, rfl⟩ := flw_all (ws := [1]) (env0 := rE A (some (.d (.lst (rs.map rwD)))) (some (.d (.int (m : Int)))) (some (rM [])) z4 z5) (g := fg__law_rows_2) (b := fb__law_rows_2) rwD
    (fun rest env => ∃ dn z4 z5, (dn ++ ext1 rest m = ext1 rs m ∧ ∀ r ∈ rest, r ∈ rs) ∧ env = rE A (some (.d (.lst (rs.map rwD)))) (some (.d (.int (m : Int)))) (some (rM dn)) z4 z5)
    (fun xs env ⟨dn, z4, z5, _, h⟩ => by subst h; intro i hi; simp at hi; subst hi; rfl)
    (fun r rest env ⟨dn, z4, z5, ⟨e1, e2⟩, h⟩ => by
      subst h
      have hl' : dn.length < 9000 := by
        have := congrArg List.length e1
        rw [List.length_append, ext1_len, ext1_len] at this
        have : rs.length * m ≤ 1296 * 6 := Nat.mul_le_mul hl hm
        omega
      obtain ⟨z5', hb⟩ := ext_row (A := A) (z1 := some (.d (.lst (rs.map rwD)))) (done := dn) (r := r) (z5 := z5) hm hl' (by rw [hr r (e2 r (by simp))]; omega)
      exact ⟨rE A (some (.d (.lst (rs.map rwD)))) (some (.d (.int (m : Int)))) (some (rM dn)) (some (.d (rwD r))) z5, _, .nx, rfl, hb, .inl rfl, _, _, _, ⟨by rw [← e1]; simp [ext1], fun x hx => e2 x (by simp [hx])⟩, rfl⟩)
    rs (rE A (some (.d (.lst (rs.map rwD)))) (some (.d (.int (m : Int)))) (some (rM [])) z4 z5) ⟨[], z4, z5, ⟨rfl, fun r h => h⟩, rfl⟩
  have e2 : dn = ext1 rs m := by
    have h0 : ext1 ([] : List (List Nat)) m = [] := rfl
    rw [h0, List.append_nil] at e1
    exact e1
  subst e2
  refine ⟨some (.d (.lst ((ext1 rs m).map rwD))), z4', z5', ?_⟩
  unfold fb__law_rows_1
  rw [ssSeq_nx (e := rE A (some (.d (.lst (rs.map rwD)))) (some (.d (.int (m : Int)))) (some (rM [])) z4 z5) (by simp [ssSet, sLst, saNil, rE, rM])]
  have hi : iwN 1 (rE A (some (.d (.lst (rs.map rwD)))) (some (.d (.int (m : Int)))) (some (rM [])) z4 z5) = .ok (rs.map rwD) := rfl
  rw [ssSeq_nx ((ssForW_eq hi).trans h1)]
  have n3 : sN 3 (rE A (some (.d (.lst (rs.map rwD)))) (some (.d (.int (m : Int)))) (some (rM (ext1 rs m))) z4' z5') = .ok (.d (.lst ((ext1 rs m).map rwD)), rE A (some (.d (.lst (rs.map rwD)))) (some (.d (.int (m : Int)))) (some (.d (.lst ((ext1 rs m).map rwD)))) z4' z5') := by
    simp only [sN, getE, rE, List.getElem?_cons_succ, List.getElem?_cons_zero, rM, fz, fzs_map_d, List.set_cons_succ, List.set_cons_zero]
  exact ssSet_eq (i := 1) n3 (show (1:Nat) < 6 by decide)
theorem rows_int {ws : List Nat} (hl : ws.length ≤ 4) (hw : ∀ m ∈ ws, m ≤ 6) : ∃ e, F__law_rows [.d (wsD ws)] = .ok (.d (.lst ((rowsL ws).map rwD)), e) := by
  obtain ⟨A, hA⟩ : ∃ A : M, A = .d (wsD ws) := ⟨_, rfl⟩
  obtain ⟨e', h1, rs, z2, z3, z4, z5, dn, ⟨e1, e2, e3, e4⟩, rfl⟩ := flw_all (ws := [0]) (env0 := rE A (some (.d (.lst ([[]].map rwD)))) none none none none) (g := fg__law_rows_1) (b := fb__law_rows_1) (fun (m : Nat) => D.int (m : Int))
    (fun rest env => ∃ rs z2 z3 z4 z5, ∃ dn : List Nat, (dn ++ rest = ws ∧ rs = dn.foldl ext1 [[]] ∧ rs.length ≤ 6 ^ dn.length ∧ ∀ r ∈ rs, r.length = dn.length) ∧ env = rE A (some (.d (.lst (rs.map rwD)))) z2 z3 z4 z5)
    (fun xs env ⟨rs, z2, z3, z4, z5, dn, _, h⟩ => by subst h; intro i hi; simp at hi; subst hi; rfl)
    (fun m rest env ⟨rs, z2, z3, z4, z5, dn, ⟨e1, e2, e3, e4⟩, h⟩ => by
      subst h
      have hm : m ≤ 6 := hw m (by rw [← e1]; simp)
      have hdl : dn.length + 1 ≤ 4 := by have := congrArg List.length e1; simp at this; omega
      have hpow : 6 ^ dn.length ≤ 6 ^ 4 := Nat.pow_le_pow_right (by decide) (by omega)
      obtain ⟨z3', z4', z5', hb⟩ := ext_all (A := A) (rs := rs) (k := dn.length) (z3 := z3) (z4 := z4) (z5 := z5) hm (by omega) (by omega) e4
      refine ⟨rE A (some (.d (.lst (rs.map rwD)))) (some (.d (.int (m : Int)))) z3 z4 z5, _, .nx, rfl, hb, .inl rfl, _, _, _, _, _, dn ++ [m], ⟨by rw [← e1]; simp, by rw [List.foldl_append, ← e2]; rfl, ?_, ?_⟩, rfl⟩
      · rw [ext1_len, List.length_append, List.length_singleton, Nat.pow_succ]
        exact Nat.mul_le_mul e3 hm
      · rw [List.length_append, List.length_singleton]
        exact ext1_row e4)
    ws (rE A (some (.d (.lst ([[]].map rwD)))) none none none none) ⟨[[]], none, none, none, none, [], ⟨rfl, rfl, by simp, by simp⟩, rfl⟩
  rw [List.append_nil] at e1
  subst e1 e2
  unfold F__law_rows
  rw [← hA]
  refine ⟨_, runF_ret (m := .d (.lst ((rowsL dn).map rwD))) (e := rE A none z2 z3 z4 z5) ?_⟩
  unfold b__law_rows
  show ssSeq _ _ (rE A none none none none none) = _
  rw [ssSeq_nx (e := rE A (some (.d (.lst ([[]].map rwD)))) none none none none) (by simp [ssSet, sFz, sLst, saCons, saNil, rE, fz, fzs, sizeLine_eq])]
  have hi : iwN 0 (rE A (some (.d (.lst ([[]].map rwD)))) none none none none) = .ok (dn.map fun (m : Nat) => D.int (m : Int)) := by rw [hA]; rfl
  rw [ssSeq_nx ((ssForW_eq hi).trans h1)]
  rfl
theorem abc : Str.ofString "abcdefghijklmnopqrstuvwxyz" = sl [97,98,99,100,101,102,103,104,105,106,107,108,109,110,111,112,113,114,115,116,117,118,119,120,121,122] := by rw [slOf]; congr 1
theorem e_nil : Str.ofString "" = sl [] := by rw [slOf]; congr 1
def abcL : List Nat := [97,98,99,100,101,102,103,104,105,106,107,108,109,110,111,112,113,114,115,116,117,118,119,120,121,122]
theorem word_step {f k : Int} {w : List Nat} (hf : 0 ≤ f ∧ f < 2147483648) (hk : 0 ≤ k ∧ k < 8) (hw : w.length ≤ 100) :
    ∃ c, fb__law_word_1 [some (.d (.int f)), some (.d (.str (sl abcL))), some (.d (.str (sl w))), some (.d (.int k))] = .ok (.nx, [some (.d (.int f)), some (.d (.str (sl abcL))), some (.d (.str (sl (w ++ [c])))), some (.d (.int k))]) := by
  have c2 : CMulD k k := mulD (a := 8) (b := 4) (by omega) (by omega)
  have hkk : 0 ≤ k * k ∧ k * k ≤ 64 := by
    have h1 := Int.mul_nonneg hk.1 hk.1
    have h2 : k * k ≤ 8 * 8 := Int.mul_le_mul (by omega) (by omega) hk.1 (by omega)
    exact ⟨h1, by omega⟩
  have hp : 0 < 8 + k * k := by omega
  have c5 : CFdiv f (8 + k * k) := fdivD (b := 10) (by omega) (by omega)
  obtain ⟨st, hst⟩ : ∃ st, st = f / (8 + k * k) := ⟨_, rfl⟩
  obtain ⟨c, hc⟩ : ∃ c, abcL[(st % 26).toNat]? = some c := ⟨_, List.getElem?_eq_getElem (by show _ < 26; omega)⟩
  have hi : atI abcL (st % 26) = some c := by
    rw [atI_pos (by omega) (by show _ < (26 : Int); omega)]
    exact hc
  have hx := mIdx_str (l := abcL) (by decide) hi
  have ha : oAdd (.d (.str (sl w))) (.d (.str (sl [c]))) = .ok (.str (sl (w ++ [c]))) := oAdd_str (by simp; omega)
  refine ⟨c, ?_⟩
  unfold fb__law_word_1
  simp only [ssSet, sV, v2, vC, vN, getE, vIx, List.getElem?_cons_succ, List.getElem?_cons_zero, oMul_int c2, oAdd_int, oFdiv_int c5, fdivI_pos hp, oMod_int (show (26:Int) ≠ 0 by decide), modI_pos (show (0:Int) < 26 by decide), ← hst, hx, ha]
  simp
theorem word_int {f : Int} (hf : 0 ≤ f ∧ f < 2147483648) : ∃ w, F__law_word [.d (.int f)] = .ok (.d (.str (sl w)), [some (.d (.int f))]) := by
  obtain ⟨e', h1, w, z3, _, rfl⟩ := fl_all (g := fg__law_word_1) (b := fb__law_word_1) D.int (fun ks env => ∃ w z3, (w.length + ks.length ≤ 8 ∧ ∀ k ∈ ks, 0 ≤ k ∧ k < 8) ∧ env = [some (.d (.int f)), some (.d (.str (sl abcL))), some (.d (.str (sl w))), z3])
    (fun k rest env hI => by
      obtain ⟨w, z3, ⟨hl, hk⟩, rfl⟩ := hI
      simp only [List.length_cons] at hl
      obtain ⟨c, hb⟩ := word_step (w := w) hf (hk k (by simp)) (by omega)
      exact ⟨[some (.d (.int f)), some (.d (.str (sl abcL))), some (.d (.str (sl w))), some (.d (.int k))], _, .nx, rfl, hb, .inl rfl, _, _, ⟨by simp; omega, fun i hi => hk i (by simp [hi])⟩, rfl⟩)
    ((List.range (1 + f % 8).toNat).map fun (i : Nat) => (i : Int)) [some (.d (.int f)), some (.d (.str (sl abcL))), some (.d (.str (sl []))), none] ⟨[], none, ⟨by simp; omega, fun j hj => by have := range_in j hj; omega⟩, rfl⟩
  refine ⟨w, ?_⟩
  have hr : C62 (1 + f % 8) := ⟨by omega, by omega⟩
  unfold F__law_word
  rw [runF_ret (m := .d (.str (sl w))) (e := [some (.d (.int f)), some (.d (.str (sl abcL))), none, z3]) ?_]
  · rfl
  unfold b__law_word
  show ssSeq _ _ [some (.d (.int f)), none, none, none] = _
  rw [ssSeq_nx (e := [some (.d (.int f)), some (.d (.str (sl abcL))), none, none]) (by simp [abc, abcL, runF, ssSeq, ssSet, ssIf, ssRet, ssDrop, ssNil, ssRaise, ssPar, setAll, ssAsg, sgN, sgNil, sgCons, sgTup, sbE, sbNot, sbAnd, sbOr, sNotV, sAndV, sOrV, sIf, sV, v2, vN, vC, getE, sN, sT, s2, s2v, s2n, sCall, saCons, saNil, putBack, killAll, sTup, mTup, isD, unD, sLst, vIx, mIdx, M.seq, atI, ixN, vB, vaCons, vaNil, bAbs, b1I, b2I, bLen, vIsi, tyM, tyD, isiB, fz, oAdd_int, oSub_int, oMul_int, oFdiv_int, oMod_int, oPow_int, oLt_int, oLe_int, oGt_int, oGe_int, oEq_int, oNe_int, sizeLine_eq, vNeg, ssSetI, sMeth, isLst, mAppend])]
  rw [ssSeq_nx (e := [some (.d (.int f)), some (.d (.str (sl abcL))), some (.d (.str (sl []))), none]) (by simp [e_nil, runF, ssSeq, ssSet, ssIf, ssRet, ssDrop, ssNil, ssRaise, ssPar, setAll, ssAsg, sgN, sgNil, sgCons, sgTup, sbE, sbNot, sbAnd, sbOr, sNotV, sAndV, sOrV, sIf, sV, v2, vN, vC, getE, sN, sT, s2, s2v, s2n, sCall, saCons, saNil, putBack, killAll, sTup, mTup, isD, unD, sLst, vIx, mIdx, M.seq, atI, ixN, vB, vaCons, vaNil, bAbs, b1I, b2I, bLen, vIsi, tyM, tyD, isiB, fz, oAdd_int, oSub_int, oMul_int, oFdiv_int, oMod_int, oPow_int, oLt_int, oLe_int, oGt_int, oGe_int, oEq_int, oNe_int, sizeLine_eq, vNeg, ssSetI, sMeth, isLst, mAppend])]
  have hr1 : siR1 (saCons (sV (v2 oAdd (vC (.int 1)) (v2 oMod (vN 0) (vC (.int 8))))) (saNil)) [some (.d (.int f)), some (.d (.str (sl abcL))), some (.d (.str (sl []))), none] = .ok (((List.range (1 + f % 8).toNat).map fun (i : Nat) => (i : Int)).map D.int, [some (.d (.int f)), some (.d (.str (sl abcL))), some (.d (.str (sl []))), none]) := by
    simp only [siR1, saCons, saNil, sV, v2, vC, vN, getE, List.getElem?_cons_zero, oMod_int (show (8:Int) ≠ 0 by decide), modI_pos (show (0:Int) < 8 by decide), oAdd_int, if_pos hr, range_D]
  rw [ssSeq_nx ((ssFor_eq hr1).trans h1)]
  rfl
/-! ### plain data -/
mutual
theorem Sm.pl : ∀ (n : Nat) (x : D), Sm n x → (toPy x).plain = true ∧ (toPy x).depth ≤ n ∧ PyData.eqv (toPy x) (toPy x) = true
  | 0, _, h => h.elim
  | n + 1, .tup xs, h => by
    obtain ⟨a, b, c⟩ := Sm.pls n xs h.2
    exact ⟨by simp only [toPy, PyData.plain]; exact a, by simp only [toPy, PyData.depth]; omega, by simp only [toPy, PyData.eqv]; exact c⟩
  | n + 1, .lst xs, h => by
    obtain ⟨a, b, c⟩ := Sm.pls n xs h.2
    exact ⟨by simp only [toPy, PyData.plain]; exact a, by simp only [toPy, PyData.depth]; omega, by simp only [toPy, PyData.eqv]; exact c⟩
  | n + 1, .int i, _ => ⟨rfl, by simp [toPy, PyData.depth], by simp [toPy, PyData.eqv]⟩
  | n + 1, .non, _ => ⟨rfl, by simp [toPy, PyData.depth], by simp [toPy, PyData.eqv]⟩
  | n + 1, .str x, _ => ⟨rfl, by simp [toPy, PyData.depth], by simp [toPy, PyData.eqv]⟩
theorem Sm.pls : ∀ (n : Nat) (xs : List D), (∀ y ∈ xs, Sm n y) → PyData.plainAll (toPys xs) = true ∧ PyData.depthAll (toPys xs) ≤ n ∧ PyData.eqvAll (toPys xs) (toPys xs) = true
  | n, [], _ => by simp [toPys, PyData.plainAll, PyData.depthAll, PyData.eqvAll]
  | n, x :: xs, h => by
    obtain ⟨a, b, c⟩ := Sm.pl n x (h x (by simp))
    obtain ⟨a', b', c'⟩ := Sm.pls n xs fun y hy => h y (by simp [hy])
    refine ⟨?_, ?_, ?_⟩
    · simp only [toPys, PyData.plainAll, a, a', Bool.and_self]
    · simp only [toPys, PyData.depthAll]; omega
    · simp only [toPys, PyData.eqvAll, c, c', Bool.and_self]
end
theorem sm_ne {n : Nat} {x : D} {m1 m2 : M} (h : Sm n x) (hn : n ≤ 60) (h1 : fz m1 = x) (h2 : fz m2 = x) : oNe m1 m2 = .ok (.bl false) := by
  obtain ⟨a, b, c⟩ := Sm.pl n x h
  unfold oNe
  rw [h1, h2, if_pos ⟨a, a, by omega⟩]
  simp [eqD, c]
def kD (ks : List D) (φ : D → Int) : M := .dic ks (ks.map fun k => M.d (.int (φ k)))
structure KD (ks : List D) : Prop where
  nd : ks.Nodup
  st : ∀ k ∈ ks, ∃ w, k = .str (sl w)
theorem put_str {ks : List D} {φ : D → Int} {x : D} {v : Int} (h : KD ks) (hx : ∃ w, x = .str (sl w)) : ∃ ks' φ', KD ks' ∧ ks'.length ≤ ks.length + 1 ∧ putD ks (ks.map fun k => M.d (.int (φ k))) x (.d (.int v)) = kD ks' φ' := by
  have hv : ∀ k : D, (if k = x then M.d (.int v) else M.d (.int (φ k))) = M.d (.int (if k = x then v else φ k)) := fun k => by split <;> rfl
  by_cases q : x ∈ ks
  · refine ⟨ks, fun k => if k = x then v else φ k, h, by omega, ?_⟩
    rw [putD_in h.nd q]
    simp only [hv]
    rfl
  · refine ⟨ks ++ [x], fun k => if k = x then v else φ k, ⟨?_, fun k hk => ?_⟩, by simp, ?_⟩
    · rw [List.nodup_append]
      exact ⟨h.nd, by simp, fun a ha b hb => by simp at hb; subst hb; exact fun e => q (e ▸ ha)⟩
    · rcases List.mem_append.mp hk with hk | hk
      · exact h.st k hk
      · simp at hk; subst hk; exact hx
    · rw [putD_new q]
      simp only [hv]
      rfl
theorem key_str (w : List Nat) : keyOk (.str (sl w)) := ⟨.text (sl w), rfl, by simp [NestedKey.depth]⟩
theorem field_in {c k : Int} {ks : List D} {φ : D → Int} (hk : 0 ≤ k ∧ k < 10) (h : KD ks) (hl : ks.length < 100) :
    ∃ ks' φ', KD ks' ∧ ks'.length ≤ ks.length + 1 ∧ fb__law_outcome_1 [some (.d (.int c)), some (kD ks φ), some (.d (.int k))] = .ok (.nx, [some (.d (.int c)), some (kD ks' φ'), some (.d (.int k))]) := by
  obtain ⟨m0, h0⟩ := mix_eq (c := c) (k := k) (by omega)
  obtain ⟨m5, h5⟩ := mix_eq (c := c) (k := k + 5) (by omega)
  obtain ⟨m9, h9⟩ := mix_eq (c := c) (k := k + 9) (by omega)
  obtain ⟨w, hw⟩ := word_int (f := mixI c k) (by omega)
  obtain ⟨v, hv⟩ : ∃ v, v = mixI c (k + 5) * mixI c (k + 9) % 1000000000000 := ⟨_, rfl⟩
  have c1 : CMulD (mixI c (k + 5)) (mixI c (k + 9)) := mulD (a := 32) (b := 32) (by omega) (by omega)
  have c3 : CPowD 10 12 := by decide
  obtain ⟨ks', φ', k1, k2, k3⟩ := put_str (φ := φ) (v := v) h ⟨w, rfl⟩
  refine ⟨ks', φ', k1, k2, ?_⟩
  obtain ⟨E, hE⟩ : ∃ E : FL.Env, E = [some (.d (.int c)), some (kD ks φ), some (.d (.int k))] := ⟨_, rfl⟩
  have n0 : sN 0 E = .ok (.d (.int c), E) := by rw [hE]; rfl
  have n2 : sN 2 E = .ok (.d (.int k), E) := by rw [hE]; rfl
  have n5 : sV (v2 oAdd (vN 2) (vC (.int 5))) E = .ok (.d (.int (k + 5)), E) := by rw [hE]; simp only [sV, v2, vN, vC, getE, List.getElem?_cons_succ, List.getElem?_cons_zero, oAdd_int]
  have n9 : sV (v2 oAdd (vN 2) (vC (.int 9))) E = .ok (.d (.int (k + 9)), E) := by rw [hE]; simp only [sV, v2, vN, vC, getE, List.getElem?_cons_succ, List.getElem?_cons_zero, oAdd_int]
  have np : sV (v2 oPow (vC (.int 10)) (vC (.int 12))) E = .ok (.d (.int 1000000000000), E) := by simp [sV, v2, vC, oPow_int c3]
  have hf := s2_eq (op := oMod) (s2_eq (op := oMul) (sCall_n (bk := [none, none]) (by decide) (sa2_eq n0 n5) h5) (sCall_n (bk := [none, none]) (by decide) (sa2_eq n0 n9) h9) (oMul_int c1)) np (x := .int v) (by rw [oMod_int (by decide), modI_pos (by decide), hv])
  have hkey := sCall_n (bk := [none]) (by decide) (sa1_eq (sCall_n (bk := [none, none]) (by decide) (sa2_eq n0 n2) h0)) hw
  have hg : getE E 1 = .ok (kD ks φ) := by rw [hE]; rfl
  unfold fb__law_outcome_1 ssSetDE
  rw [← hE, hf]
  simp only []
  rw [hg, hkey]
  simp only []
  rw [hg]
  simp only [kD]
  rw [if_pos ⟨key_str w, by rw [sizeLine_eq]; omega⟩, k3, hE]
  rfl
theorem items_tup {ks : List D} {φ : D → Int} {E : FL.Env} (h : KD ks) (hl : ks.length ≤ 100) (hE : vN 1 E = .ok (kD ks φ)) : ∃ x, Sm 50 x ∧ sTupOf (sSortIt (vN 1)) E = .ok (.d x, E) := by
  have hw : ∀ k, ∃ w, k ∈ ks → k = .str (sl w) := fun k => by
    by_cases q : k ∈ ks
    · obtain ⟨w, e⟩ := h.st k q; exact ⟨w, fun _ => e⟩
    · exact ⟨[], fun z => absurd z q⟩
  obtain ⟨wd, hwd⟩ := Classical.axiomOfChoice hw
  obtain ⟨rs, hrs⟩ : ∃ rs, rs = ks.map fun k => (wd k, φ k) := ⟨_, rfl⟩
  have hz : List.zipWith pairD ks ((ks.map fun k => M.d (.int (φ k))).map unD) = rs.map rowD := by
    rw [hrs, List.map_map, List.map_map]
    have key : ∀ l : List D, (∀ k ∈ l, k ∈ ks) → List.zipWith pairD l (l.map (unD ∘ fun k => M.d (.int (φ k)))) = l.map (rowD ∘ fun k => (wd k, φ k)) := by
      intro l
      induction l with
      | nil => intro _; rfl
      | cons k l ih =>
        intro hk
        rw [List.map_cons, List.zipWith_cons_cons, ih fun x hx => hk x (by simp [hx]), List.map_cons]
        congr 1
        show D.tup [k, .int (φ k)] = .tup [.str (sl (wd k)), .int (φ k)]
        rw [← hwd k (hk k (by simp))]
    exact key ks fun k hk => hk
  obtain ⟨ok, qs, hq⟩ := srt_rows rs
  refine ⟨.tup (qs.map rowD), ?_, ?_⟩
  · refine ⟨?_, fun y hy => ?_⟩
    · have e1 : (srtD (rs.map rowD)).length = (rs.map rowD).length := List.length_mergeSort _
      rw [hq, List.length_map, List.length_map, hrs, List.length_map] at e1
      rw [List.length_map]; omega
    · obtain ⟨r, _, rfl⟩ := List.mem_map.mp hy
      refine ⟨by simp, fun z hz => ?_⟩
      simp only [List.mem_cons, List.not_mem_nil, or_false] at hz
      rcases hz with rfl | rfl
      · exact ⟨_, rfl⟩
      · trivial
  · have hdm : dicM (kD ks φ) = some (ks, ks.map fun k => M.d (.int (φ k))) := rfl
    have hcond : (ks.map fun k => M.d (.int (φ k))).all isD = true ∧ (∀ x ∈ ks, (toPy x).plain = true ∧ noL (toPy x) = true) ∧ (∀ x ∈ (ks.map fun k => M.d (.int (φ k))).map unD, (toPy x).plain = true ∧ noL (toPy x) = true) ∧ SrtOk (List.zipWith pairD ks ((ks.map fun k => M.d (.int (φ k))).map unD)) := by
      refine ⟨by simp [isD], fun x hx => ?_, fun x hx => ?_, by rw [hz]; exact ok⟩
      · obtain ⟨w, rfl⟩ := h.st x hx
        exact ⟨rfl, rfl⟩
      · obtain ⟨m, hm, rfl⟩ := List.mem_map.mp hx
        obtain ⟨k, _, rfl⟩ := List.mem_map.mp hm
        exact ⟨rfl, rfl⟩
    have h1 : sSortIt (vN 1) E = .ok (.lst ((qs.map rowD).map .d), E) := by
      unfold sSortIt
      rw [hE]
      simp only [hdm]
      rw [if_pos hcond, hz, hq]
    unfold sTupOf
    rw [h1]
    simp only [fz, fzs_d, itemsLT]
theorem a_sl : Str.ofString "a" = sl [97] := by rw [slOf]; congr 1
theorem outcome_int {c : Int} (hc : 0 ≤ c ∧ c < 2147483648) : ∃ x, Sm 50 x ∧ ∃ e, F__law_outcome [.d (.int c)] = .ok (.d x, e) := by
  have c3 : CPowD 10 12 := by decide
  have c7 : CFdiv c 7 := fdivD (b := 10) (by decide) (by decide)
  have c21 : CFdiv c 21 := fdivD (b := 10) (by decide) (by decide)
  by_cases h0 : c % 7 = 0
  · exact ⟨.non, trivial, _, by simp [F__law_outcome, b__law_outcome, modI_pos, h0, runF, ssSeq, ssSet, ssIf, ssRet, ssDrop, ssNil, ssRaise, ssPar, setAll, ssAsg, sgN, sgNil, sgCons, sgTup, sbE, sbNot, sbAnd, sbOr, sNotV, sAndV, sOrV, sIf, sV, v2, vN, vC, getE, sN, sT, s2, s2v, s2n, sCall, saCons, saNil, putBack, killAll, sTup, mTup, isD, unD, sLst, vIx, mIdx, M.seq, atI, ixN, vB, vaCons, vaNil, bAbs, b1I, b2I, bLen, vIsi, tyM, tyD, isiB, fz, oAdd_int, oSub_int, oMul_int, oFdiv_int, oMod_int, oPow_int, oLt_int, oLe_int, oGt_int, oGe_int, oEq_int, oNe_int, sizeLine_eq, vNeg, ssSetI, sMeth, isLst, mAppend]; rfl⟩
  by_cases h1 : c % 7 < 3
  · exact ⟨.int (c / 7 % 4), trivial, _, by simp [F__law_outcome, b__law_outcome, modI_pos, h0, h1, oFdiv_int c7, fdivI_pos, runF, ssSeq, ssSet, ssIf, ssRet, ssDrop, ssNil, ssRaise, ssPar, setAll, ssAsg, sgN, sgNil, sgCons, sgTup, sbE, sbNot, sbAnd, sbOr, sNotV, sAndV, sOrV, sIf, sV, v2, vN, vC, getE, sN, sT, s2, s2v, s2n, sCall, saCons, saNil, putBack, killAll, sTup, mTup, isD, unD, sLst, vIx, mIdx, M.seq, atI, ixN, vB, vaCons, vaNil, bAbs, b1I, b2I, bLen, vIsi, tyM, tyD, isiB, fz, oAdd_int, oSub_int, oMul_int, oFdiv_int, oMod_int, oPow_int, oLt_int, oLe_int, oGt_int, oGe_int, oEq_int, oNe_int, sizeLine_eq, vNeg, ssSetI, sMeth, isLst, mAppend]; rfl⟩
  have c8 : CMulD (c / 7) c := mulD (a := 32) (b := 32) (by omega) (by omega)
  by_cases h2 : c % 7 < 5
  · exact ⟨.int (c / 7 * c % 1000000000000), trivial, _, by simp [F__law_outcome, b__law_outcome, modI_pos, h0, h1, h2, oFdiv_int c7, fdivI_pos, oMul_int c8, oPow_int c3, runF, ssSeq, ssSet, ssIf, ssRet, ssDrop, ssNil, ssRaise, ssPar, setAll, ssAsg, sgN, sgNil, sgCons, sgTup, sbE, sbNot, sbAnd, sbOr, sNotV, sAndV, sOrV, sIf, sV, v2, vN, vC, getE, sN, sT, s2, s2v, s2n, sCall, saCons, saNil, putBack, killAll, sTup, mTup, isD, unD, sLst, vIx, mIdx, M.seq, atI, ixN, vB, vaCons, vaNil, bAbs, b1I, b2I, bLen, vIsi, tyM, tyD, isiB, fz, oAdd_int, oSub_int, oMul_int, oFdiv_int, oMod_int, oPow_int, oLt_int, oLe_int, oGt_int, oGe_int, oEq_int, oNe_int, sizeLine_eq, vNeg, ssSetI, sMeth, isLst, mAppend]; rfl⟩
  obtain ⟨e', hL, ks, φ, z2, ⟨hK, hKl, _⟩, rfl⟩ := fl_all (g := fg__law_outcome_1) (b := fb__law_outcome_1) D.int (fun js env => ∃ ks φ z2, (KD ks ∧ ks.length + js.length ≤ 5 ∧ ∀ k ∈ js, 0 ≤ k ∧ k < 10) ∧ env = [some (.d (.int c)), some (kD ks φ), z2])
    (fun k rest env hI => by
      obtain ⟨ks, φ, z2, ⟨hK, hKl, hk⟩, rfl⟩ := hI
      simp only [List.length_cons] at hKl
      obtain ⟨ks', φ', k1, k2, hb⟩ := field_in (c := c) (φ := φ) (hk k (by simp)) hK (by omega)
      exact ⟨[some (.d (.int c)), some (kD ks φ), some (.d (.int k))], _, .nx, rfl, hb, .inl rfl, _, _, _, ⟨k1, by omega, fun i hi => hk i (by simp [hi])⟩, rfl⟩)
    ((List.range (1 + c / 7 % 3).toNat).map fun (i : Nat) => (i : Int)) [some (.d (.int c)), some (kD [] fun _ => 0), none] ⟨[], _, none, ⟨⟨List.nodup_nil, fun _ h => nomatch h⟩, by simp; omega, fun j hj => by have := range_in j hj; omega⟩, rfl⟩
  simp only [List.length_nil, Nat.add_zero] at hKl
  have hr : C62 (1 + c / 7 % 3) := ⟨by omega, by omega⟩
  obtain ⟨ks2, φ2, hK2, hKl2, hS⟩ : ∃ ks2 φ2, KD ks2 ∧ ks2.length ≤ 100 ∧ ssIf (sbE (sV (v2 oEq (v2 oMod (vN 0) (vC (.int 7))) (vC (.int 5))))) (ssSetD 1 (vC (.str (Str.ofString "a"))) (sV (v2 oMod (v2 oFdiv (vN 0) (vC (.int 21))) (vC (.int 2))))) (ssNil) [some (.d (.int c)), some (kD ks φ), z2] = .ok (.nx, [some (.d (.int c)), some (kD ks2 φ2), z2]) := by
    have hcd : sbE (sV (v2 oEq (v2 oMod (vN 0) (vC (.int 7))) (vC (.int 5)))) [some (.d (.int c)), some (kD ks φ), z2] = .ok (decide (c % 7 = 5), [some (.d (.int c)), some (kD ks φ), z2]) := by
      simp only [sbE, sV, v2, vN, vC, getE, List.getElem?_cons_zero, oMod_int (show (7:Int) ≠ 0 by decide), modI_pos (show (0:Int) < 7 by decide), oEq_int]
    by_cases h5 : c % 7 = 5
    · obtain ⟨ks', φ', k1, k2, k3⟩ := put_str (φ := φ) (x := .str (sl [97])) (v := c / 21 % 2) hK ⟨_, rfl⟩
      refine ⟨ks', φ', k1, by omega, ?_⟩
      rw [ssIf_t (by rw [hcd, decide_eq_true h5])]
      have hv : sV (v2 oMod (v2 oFdiv (vN 0) (vC (.int 21))) (vC (.int 2))) [some (.d (.int c)), some (kD ks φ), z2] = .ok (.d (.int (c / 21 % 2)), [some (.d (.int c)), some (kD ks φ), z2]) := by
        simp only [sV, v2, vN, vC, getE, List.getElem?_cons_zero, oFdiv_int c21, fdivI_pos (show (0:Int) < 21 by decide), oMod_int (show (2:Int) ≠ 0 by decide), modI_pos (show (0:Int) < 2 by decide)]
      unfold ssSetD
      rw [hv, a_sl]
      simp only [getE, List.getElem?_cons_succ, List.getElem?_cons_zero, kD, vC]
      rw [if_pos ⟨key_str _, by rw [sizeLine_eq]; omega⟩, k3]
      rfl
    · refine ⟨ks, φ, hK, by omega, ?_⟩
      rw [ssIf_f (by rw [hcd, decide_eq_false h5])]
      rfl
  obtain ⟨x, hx, ht⟩ := items_tup (φ := φ2) (E := [some (.d (.int c)), some (kD ks2 φ2), z2]) hK2 hKl2 rfl
  unfold F__law_outcome
  refine ⟨x, hx, _, runF_ret (m := .d x) (e := [some (.d (.int c)), some (kD ks2 φ2), z2]) ?_⟩
  unfold b__law_outcome
  show ssSeq _ _ [some (.d (.int c)), none, none] = _
  rw [ssSeq_nx (e := [some (.d (.int c)), none, none]) (by simp [modI_pos, h0, runF, ssSeq, ssSet, ssIf, ssRet, ssDrop, ssNil, ssRaise, ssPar, setAll, ssAsg, sgN, sgNil, sgCons, sgTup, sbE, sbNot, sbAnd, sbOr, sNotV, sAndV, sOrV, sIf, sV, v2, vN, vC, getE, sN, sT, s2, s2v, s2n, sCall, saCons, saNil, putBack, killAll, sTup, mTup, isD, unD, sLst, vIx, mIdx, M.seq, atI, ixN, vB, vaCons, vaNil, bAbs, b1I, b2I, bLen, vIsi, tyM, tyD, isiB, fz, oAdd_int, oSub_int, oMul_int, oFdiv_int, oMod_int, oPow_int, oLt_int, oLe_int, oGt_int, oGe_int, oEq_int, oNe_int, sizeLine_eq, vNeg, ssSetI, sMeth, isLst, mAppend])]
  rw [ssSeq_nx (e := [some (.d (.int c)), none, none]) (by simp [modI_pos, h1, runF, ssSeq, ssSet, ssIf, ssRet, ssDrop, ssNil, ssRaise, ssPar, setAll, ssAsg, sgN, sgNil, sgCons, sgTup, sbE, sbNot, sbAnd, sbOr, sNotV, sAndV, sOrV, sIf, sV, v2, vN, vC, getE, sN, sT, s2, s2v, s2n, sCall, saCons, saNil, putBack, killAll, sTup, mTup, isD, unD, sLst, vIx, mIdx, M.seq, atI, ixN, vB, vaCons, vaNil, bAbs, b1I, b2I, bLen, vIsi, tyM, tyD, isiB, fz, oAdd_int, oSub_int, oMul_int, oFdiv_int, oMod_int, oPow_int, oLt_int, oLe_int, oGt_int, oGe_int, oEq_int, oNe_int, sizeLine_eq, vNeg, ssSetI, sMeth, isLst, mAppend])]
  rw [ssSeq_nx (e := [some (.d (.int c)), none, none]) (by simp [modI_pos, h2, runF, ssSeq, ssSet, ssIf, ssRet, ssDrop, ssNil, ssRaise, ssPar, setAll, ssAsg, sgN, sgNil, sgCons, sgTup, sbE, sbNot, sbAnd, sbOr, sNotV, sAndV, sOrV, sIf, sV, v2, vN, vC, getE, sN, sT, s2, s2v, s2n, sCall, saCons, saNil, putBack, killAll, sTup, mTup, isD, unD, sLst, vIx, mIdx, M.seq, atI, ixN, vB, vaCons, vaNil, bAbs, b1I, b2I, bLen, vIsi, tyM, tyD, isiB, fz, oAdd_int, oSub_int, oMul_int, oFdiv_int, oMod_int, oPow_int, oLt_int, oLe_int, oGt_int, oGe_int, oEq_int, oNe_int, sizeLine_eq, vNeg, ssSetI, sMeth, isLst, mAppend])]
  rw [ssSeq_nx (e := [some (.d (.int c)), some (kD [] fun _ => 0), none]) (by simp [ssSet, sDict0, kD])]
  have hr1 : siR1 (saCons (sV (v2 oAdd (vC (.int 1)) (v2 oMod (v2 oFdiv (vN 0) (vC (.int 7))) (vC (.int 3))))) (saNil)) [some (.d (.int c)), some (kD [] fun _ => 0), none] = .ok (((List.range (1 + c / 7 % 3).toNat).map fun (i : Nat) => (i : Int)).map D.int, [some (.d (.int c)), some (kD [] fun _ => 0), none]) := by
    simp only [siR1, saCons, saNil, sV, v2, vC, vN, getE, List.getElem?_cons_zero, oFdiv_int c7, fdivI_pos (show (0:Int) < 7 by decide), oMod_int (show (3:Int) ≠ 0 by decide), modI_pos (show (0:Int) < 3 by decide), oAdd_int, if_pos hr, range_D]
  rw [ssSeq_nx ((ssFor_eq hr1).trans hL), ssSeq_nx hS, ssRet_eq ht]
theorem cell_int' (ns : List Int) (k : Nat) : F__law_cell_at [M.d (.scr (ns.map D.int)), .d (.int (k : Int))] = .ok (.d (.int (ns.getD k 0)), [some (scrM ns), some (.d (.int (k : Int)))]) := cell_int ns k
theorem widths_int (ns : List Int) : ∃ ws : List Nat, (0 < ws.length ∧ ws.length ≤ 4) ∧ (∀ m ∈ ws, 1 ≤ m ∧ m ≤ 6) ∧ ∃ e, F__law_widths [scrM ns] = .ok (.d (wsD ws), e) := by
  obtain ⟨c, hc⟩ : ∃ c, c = ns.getD 1 0 := ⟨_, rfl⟩
  have hcell : F__law_cell_at [scrM ns, .d (.int 1)] = .ok (.d (.int c), [some (scrM ns), some (.d (.int 1))]) := by rw [hc]; exact cell_int ns 1
  obtain ⟨m0, hm⟩ := mix_eq (c := c) (k := 1) (by decide)
  have c2 : CFdiv c 2 := fdivD (b := 10) (by decide) (by decide)
  obtain ⟨j, hj⟩ : ∃ j, j = mixI c 1 % 6 := ⟨_, rfl⟩
  obtain ⟨a, ha, hae⟩ : ∃ a : Nat, (1 ≤ a ∧ a ≤ 2) ∧ (a : Int) = 1 + c % 2 := ⟨(1 + c % 2).toNat, by omega, by omega⟩
  obtain ⟨b, hb, hbe⟩ : ∃ b : Nat, (1 ≤ b ∧ b ≤ 2) ∧ (b : Int) = 1 + c / 2 % 2 := ⟨(1 + c / 2 % 2).toNat, by omega, by omega⟩
  obtain ⟨g, hg, hge⟩ : ∃ g : Nat, (1 ≤ g ∧ g ≤ 6) ∧ (g : Int) = 1 + c % 6 := ⟨(1 + c % 6).toNat, by omega, by omega⟩
  obtain ⟨W, hW⟩ : ∃ W : D, W = .lst [wsD [2, a, 1, b], wsD [1, 2, 4, 1], wsD [3, 1, 2], wsD [1, 6], wsD [2, 2, 2], wsD [g]] := ⟨_, rfl⟩
  obtain ⟨ws, hws1, hws2, hix⟩ : ∃ ws : List Nat, (0 < ws.length ∧ ws.length ≤ 4) ∧ (∀ m ∈ ws, 1 ≤ m ∧ m ≤ 6) ∧ oIdx (.d W) (.d (.int j)) = .ok (wsD ws) := by
    rw [hW]
    rcases (show j = 0 ∨ j = 1 ∨ j = 2 ∨ j = 3 ∨ j = 4 ∨ j = 5 by omega) with q | q | q | q | q | q
    · rw [q]; exact ⟨[2, a, 1, b], by simp, by simp; omega, rfl⟩
    · rw [q]; exact ⟨[1, 2, 4, 1], by simp, by simp, rfl⟩
    · rw [q]; exact ⟨[3, 1, 2], by simp, by simp, rfl⟩
    · rw [q]; exact ⟨[1, 6], by simp, by simp, rfl⟩
    · rw [q]; exact ⟨[2, 2, 2], by simp, by simp, rfl⟩
    · rw [q]; exact ⟨[g], by simp, by simp; omega, rfl⟩
  refine ⟨ws, hws1, hws2, ?_⟩
  unfold F__law_widths
  refine ⟨_, runF_ret (m := .d (wsD ws)) (e := [some (scrM ns), some (.d (.int c)), some (.d W)]) ?_⟩
  unfold b__law_widths
  show ssSeq _ _ [some (scrM ns), none, none] = _
  have n0 : sN 0 [some (scrM ns), none, none] = .ok (scrM ns, [some (scrM ns), none, none]) := rfl
  have n0' : sV (vC (.int 1)) [some (scrM ns), none, none] = .ok (.d (.int 1), [some (scrM ns), none, none]) := rfl
  rw [ssSeq_nx (ssSet_eq (i := 1) (sCall_n (bk := [none, none]) (by decide) (sa2_eq n0 n0') hcell) (show (1:Nat) < 3 by decide))]
  show ssSeq _ _ [some (scrM ns), some (.d (.int c)), none] = _
  rw [ssSeq_nx (e := [some (scrM ns), some (.d (.int c)), some (.d W)]) (by
    have v1 : sV (v2 oAdd (vC (.int 1)) (v2 oMod (vN 1) (vC (.int 2)))) [some (scrM ns), some (.d (.int c)), none] = .ok (.d (.int (a : Int)), [some (scrM ns), some (.d (.int c)), none]) := by
      simp only [sV, v2, vN, vC, getE, List.getElem?_cons_succ, List.getElem?_cons_zero, oMod_int (show (2:Int) ≠ 0 by decide), modI_pos (show (0:Int) < 2 by decide), oAdd_int, hae]
    have v2' : sV (v2 oAdd (vC (.int 1)) (v2 oMod (v2 oFdiv (vN 1) (vC (.int 2))) (vC (.int 2)))) [some (scrM ns), some (.d (.int c)), none] = .ok (.d (.int (b : Int)), [some (scrM ns), some (.d (.int c)), none]) := by
      simp only [sV, v2, vN, vC, getE, List.getElem?_cons_succ, List.getElem?_cons_zero, oFdiv_int c2, fdivI_pos (show (0:Int) < 2 by decide), oMod_int (show (2:Int) ≠ 0 by decide), modI_pos (show (0:Int) < 2 by decide), oAdd_int, hbe]
    have v3 : sV (v2 oAdd (vC (.int 1)) (v2 oMod (vN 1) (vC (.int 6)))) [some (scrM ns), some (.d (.int c)), none] = .ok (.d (.int (g : Int)), [some (scrM ns), some (.d (.int c)), none]) := by
      simp only [sV, v2, vN, vC, getE, List.getElem?_cons_succ, List.getElem?_cons_zero, oMod_int (show (6:Int) ≠ 0 by decide), modI_pos (show (0:Int) < 6 by decide), oAdd_int, hge]
    have vc : ∀ i : Int, sV (vC (.int i)) [some (scrM ns), some (.d (.int c)), none] = .ok (.d (.int i), [some (scrM ns), some (.d (.int c)), none]) := fun i => rfl
    rw [hW]
    simp [ssSet, sFz, sLst, saCons, saNil, v1, v2', v3, vc, sizeLine_eq, fz, fzs])]
  have n1 : sN 1 [some (scrM ns), some (.d (.int c)), some (.d W)] = .ok (.d (.int c), [some (scrM ns), some (.d (.int c)), some (.d W)]) := rfl
  refine ssRet_eq ?_
  have hm6 : s2 oMod (sCall F__law_mix [none, none] (saCons (sN 1) (saCons (sV (vC (.int 1))) (saNil)))) (sV (vC (.int 6))) [some (scrM ns), some (.d (.int c)), some (.d W)] = .ok (.d (.int j), [some (scrM ns), some (.d (.int c)), some (.d W)]) := by
    refine s2_eq (sCall_n (bk := [none, none]) (by decide) (sa2_eq n1 rfl) hm) rfl ?_
    rw [oMod_int (by decide), modI_pos (by decide), hj]
  unfold s2n
  simp only [getE, List.getElem?_cons_succ, List.getElem?_cons_zero]
  rw [hm6]
  simp only [getE, List.getElem?_cons_succ, List.getElem?_cons_zero, hix]
/-! ### draws -/
abbrev cE (ns : List Int) (ws : List Nat) (ds : M) (z3 z4 z5 z6 z7 : Option M) : FL.Env := [some (scrM ns), some (.d (wsD ws)), some ds, z3, z4, z5, z6, z7]
theorem draw_in {ns : List Int} {ws : List Nat} {ds : M} {z3 z7 : Option M} {cell : Int} {k : Nat} {d : List (Int × Int)} (hc : 0 ≤ cell ∧ cell < 2147483587) (hk : k < 10) (hd : d.length < 100) :
    ∃ p : Int × Int, (0 < p.2 ∧ p.2 ≤ 1000000) ∧ ∃ z7', fb__law_draws_2 (cE ns ws ds z3 (some (.d (.int cell))) (some (dM d)) (some (.d (.int (k : Int)))) z7) = .ok (.nx, cE ns ws ds z3 (some (.d (.int cell))) (some (dM (d ++ [p]))) (some (.d (.int (k : Int)))) z7') := by
  obtain ⟨m0, hm⟩ := mix_eq (c := cell) (k := k) (by omega)
  obtain ⟨f, hf⟩ : ∃ f, f = mixI cell k := ⟨_, rfl⟩
  rw [← hf] at m0 hm
  have c1 : CMulD f f := mulD (a := 32) (b := 32) (by omega) (by omega)
  have c2 : CPowD 10 6 := by decide
  have c3 : CFdiv cell 89 := fdivD (b := 10) (by decide) (by decide)
  obtain ⟨x, hx, hix⟩ : ∃ x : Int, (0 ≤ x ∧ x < 1000000) ∧ oIdx (.lst [M.d (.int (f % 3)), .d (.int (f * f % 1000000))]) (.d (.int (cell / 89 % 2))) = .ok (.int x) := by
    rcases (show cell / 89 % 2 = 0 ∨ cell / 89 % 2 = 1 by omega) with q | q
    · rw [q]; exact ⟨f % 3, by omega, rfl⟩
    · rw [q]; exact ⟨f * f % 1000000, ⟨Int.emod_nonneg _ (by decide), Int.emod_lt_of_pos _ (by decide)⟩, rfl⟩
  refine ⟨(cell % 89 + k, 1 + x), by constructor <;> (show _ ; omega), some (.d (.int f)), ?_⟩
  obtain ⟨E, hE⟩ : ∃ E, E = cE ns ws ds z3 (some (.d (.int cell))) (some (dM d)) (some (.d (.int (k : Int)))) (some (.d (.int f))) := ⟨_, rfl⟩
  unfold fb__law_draws_2
  rw [ssSeq_nx (e := E) (by
    have n4 : sN 4 (cE ns ws ds z3 (some (.d (.int cell))) (some (dM d)) (some (.d (.int (k : Int)))) z7) = .ok (.d (.int cell), cE ns ws ds z3 (some (.d (.int cell))) (some (dM d)) (some (.d (.int (k : Int)))) z7) := rfl
    have n6 : sN 6 (cE ns ws ds z3 (some (.d (.int cell))) (some (dM d)) (some (.d (.int (k : Int)))) z7) = .ok (.d (.int (k : Int)), cE ns ws ds z3 (some (.d (.int cell))) (some (dM d)) (some (.d (.int (k : Int)))) z7) := rfl
    rw [ssSet_eq (i := 7) (sCall_n (bk := [none, none]) (by decide) (sa2_eq n4 n6) hm) (show (7:Nat) < 8 by decide), hE]
    rfl)]
  have v1 : sV (v2 oAdd (v2 oMod (vN 4) (vC (.int 89))) (vN 6)) E = .ok (.d (.int (cell % 89 + k)), E) := by
    rw [hE]; simp only [sV, v2, vN, vC, getE, cE, List.getElem?_cons_succ, List.getElem?_cons_zero, oMod_int (show (89:Int) ≠ 0 by decide), modI_pos (show (0:Int) < 89 by decide), oAdd_int]
  have v2' : sLst (saCons (sV (v2 oMod (vN 7) (vC (.int 3)))) (saCons (sV (v2 oMod (v2 oMul (vN 7) (vN 7)) (v2 oPow (vC (.int 10)) (vC (.int 6))))) (saNil))) E = .ok (.lst [M.d (.int (f % 3)), .d (.int (f * f % 1000000))], E) := by
    rw [hE]; simp [sLst, saCons, saNil, sV, v2, vN, vC, getE, cE, oMod_int, modI_pos, oMul_int c1, oPow_int c2, sizeLine_eq]
  have v3 : v2 oMod (v2 oFdiv (vN 4) (vC (.int 89))) (vC (.int 2)) E = .ok (.d (.int (cell / 89 % 2))) := by
    rw [hE]; simp only [v2, vN, vC, getE, cE, List.getElem?_cons_succ, List.getElem?_cons_zero, oFdiv_int c3, fdivI_pos (show (0:Int) < 89 by decide), oMod_int (show (2:Int) ≠ 0 by decide), modI_pos (show (0:Int) < 2 by decide)]
  have v4 := s2v_eq (op := oIdx) v2' v3 hix
  have v5 : s2 oAdd (sV (vC (.int 1))) (s2v oIdx (sLst (saCons (sV (v2 oMod (vN 7) (vC (.int 3)))) (saCons (sV (v2 oMod (v2 oMul (vN 7) (vN 7)) (v2 oPow (vC (.int 10)) (vC (.int 6))))) (saNil)))) (v2 oMod (v2 oFdiv (vN 4) (vC (.int 89))) (vC (.int 2)))) E = .ok (.d (.int (1 + x)), E) := s2_eq rfl v4 (oAdd_int _ _)
  have v6 : sTup (saCons (sV (v2 oAdd (v2 oMod (vN 4) (vC (.int 89))) (vN 6))) (saCons (s2 oAdd (sV (vC (.int 1))) (s2v oIdx (sLst (saCons (sV (v2 oMod (vN 7) (vC (.int 3)))) (saCons (sV (v2 oMod (v2 oMul (vN 7) (vN 7)) (v2 oPow (vC (.int 10)) (vC (.int 6))))) (saNil)))) (v2 oMod (v2 oFdiv (vN 4) (vC (.int 89))) (vC (.int 2))))) (saNil))) E = .ok (.d (pI (cell % 89 + k) (1 + x)), E) := by
    unfold sTup
    rw [sa2_eq v1 v5]
    simp [mTup, isD, unD, sizeLine_eq]
  have hg : getE E 5 = .ok (dM d) := by rw [hE]; rfl
  have happ : mAppend (dM d) [.d (pI (cell % 89 + k) (1 + x))] = .ok (.d .non, dM (d ++ [(cell % 89 + k, 1 + x)])) := by
    have : (d.map fun p => M.d (pI p.1 p.2)).length < sizeLine := by rw [sizeLine_eq, List.length_map]; omega
    simp only [mAppend, dM, if_pos this]
    simp
  rw [ssDrop_eq (sMeth_eq hg rfl (sa1_eq v6) hg happ), hE]
  rfl
theorem draws_in {ns : List Int} {ws : List Nat} {ds : Ds} {t m : Nat} {z4 z5 z6 z7 : Option M} (ht : ws[t]? = some m) (htl : t < 10) (hm : 1 ≤ m ∧ m ≤ 6) (hd : ds.length < 100) :
    ∃ d, GDr d ∧ d.length = m ∧ ∃ z4' z5' z6' z7', fb__law_draws_1 (cE ns ws (.lst (ds.map fun d => .d (drwD d))) (some (.d (.int (t : Int)))) z4 z5 z6 z7) = .ok (.nx, cE ns ws (.lst ((ds ++ [d]).map fun d => .d (drwD d))) (some (.d (.int (t : Int)))) z4' z5' z6' z7') := by
  obtain ⟨m0, hmix⟩ := mix_eq (c := ns.getD 0 0) (k := (t : Int) + 60) (by omega)
  obtain ⟨cell, hcell⟩ : ∃ cell, cell = mixI (ns.getD 0 0) ((t : Int) + 60) := ⟨_, rfl⟩
  rw [← hcell] at m0 hmix
  have hc0 := cell_int ns 0
  obtain ⟨A, hA⟩ : ∃ A : M, A = .lst (ds.map fun d => .d (drwD d)) := ⟨_, rfl⟩
  obtain ⟨e', h1, d, z6', z7', ⟨hw, hlen, _⟩, rfl⟩ := fl_all (g := fg__law_draws_2) (b := fb__law_draws_2) (fun (k : Nat) => D.int (0 + (k : Int)))
    (fun rest env => ∃ (d : List (Int × Int)) (z6 z7 : Option M), ((∀ p ∈ d, 0 < p.2 ∧ p.2 ≤ 1000000) ∧ d.length + rest.length = m ∧ ∀ k ∈ rest, k < 10) ∧ env = cE ns ws A (some (.d (.int (t : Int)))) (some (.d (.int cell))) (some (dM d)) z6 z7)
    (fun k rest env hI => by
      obtain ⟨d, z6, z7, ⟨hw, hlen, hk⟩, rfl⟩ := hI
      simp only [List.length_cons] at hlen
      obtain ⟨p, hp, z7', hb⟩ := draw_in (ns := ns) (ws := ws) (ds := A) (z3 := some (.d (.int (t : Int)))) (z7 := z7) (d := d) m0 (hk k (by simp)) (by omega)
      have hz : (0 : Int) + (k : Int) = (k : Int) := Int.zero_add _
      refine ⟨cE ns ws A (some (.d (.int (t : Int)))) (some (.d (.int cell))) (some (dM d)) (some (.d (.int (k : Int)))) z7, _, .nx, by rw [hz]; rfl, hb, .inl rfl, _, _, _, ⟨fun q hq => ?_, by simp; omega, fun j hj => hk j (by simp [hj])⟩, rfl⟩
      rcases List.mem_append.mp hq with hq | hq
      · exact hw q hq
      · simp at hq; subst hq; exact hp)
    (List.range m) (cE ns ws A (some (.d (.int (t : Int)))) (some (.d (.int cell))) (some (dM [])) z6 z7) ⟨[], z6, z7, ⟨fun p hp => by simp at hp, by simp, fun k hk => by have := List.mem_range.mp hk; omega⟩, rfl⟩
  simp only [List.length_nil, Nat.add_zero] at hlen
  have hgd : GDr d := ⟨fun z => by subst z; simp at hlen; omega, by omega, hw⟩
  refine ⟨d, hgd, hlen, some (.d (.int cell)), some (.d (drwD d)), z6', z7', ?_⟩
  have i1 : mIdx (.d (wsD ws)) (.d (.int (t : Int))) = .ok (.d (.int (m : Int))) := mIdx_n (by simp [ht])
  unfold fb__law_draws_1
  rw [← hA]
  obtain ⟨E0, hE0⟩ : ∃ E0, E0 = cE ns ws A (some (.d (.int (t : Int)))) z4 z5 z6 z7 := ⟨_, rfl⟩
  have n0 : sN 0 E0 = .ok (scrM ns, E0) := by rw [hE0]; rfl
  have n3 : sV (v2 oAdd (vN 3) (vC (.int 60))) E0 = .ok (.d (.int ((t : Int) + 60)), E0) := by rw [hE0]; simp only [sV, v2, vN, vC, getE, cE, List.getElem?_cons_succ, List.getElem?_cons_zero, oAdd_int]
  rw [← hE0, ssSeq_nx (ssSet_eq (i := 4) (sCall_n (bk := [none, none]) (by decide) (sa2_eq (sCall_n (bk := [none, none]) (by decide) (sa2_eq n0 rfl) hc0) n3) hmix) (by rw [hE0]; show (4:Nat) < 8; decide)), hE0]
  show ssSeq _ _ (cE ns ws A (some (.d (.int (t : Int)))) (some (.d (.int cell))) z5 z6 z7) = _
  rw [ssSeq_nx (e := cE ns ws A (some (.d (.int (t : Int)))) (some (.d (.int cell))) (some (dM [])) z6 z7) (by simp [ssSet, sLst, saNil, cE, dM])]
  have hr1 : siR1 (saCons (sV (vIx (vN 1) (vN 3))) (saNil)) (cE ns ws A (some (.d (.int (t : Int)))) (some (.d (.int cell))) (some (dM [])) z6 z7) = .ok ((List.range m).map fun (k : Nat) => D.int (0 + (k : Int)), cE ns ws A (some (.d (.int (t : Int)))) (some (.d (.int cell))) (some (dM [])) z6 z7) := by
    have q : C62 (m : Int) := ⟨by omega, by omega⟩
    simp only [siR1, saCons, saNil, sV, vIx, vN, getE, cE, List.getElem?_cons_succ, List.getElem?_cons_zero, i1, if_pos q, Int.toNat_natCast]
  rw [ssSeq_nx ((ssFor_eq hr1).trans h1)]
  have hfz : fz (dM d) = drwD d := by simp only [dM, drwD, fz, fzs_map_d]
  have n5 : sN 5 (cE ns ws A (some (.d (.int (t : Int)))) (some (.d (.int cell))) (some (dM d)) z6' z7') = .ok (.d (drwD d), cE ns ws A (some (.d (.int (t : Int)))) (some (.d (.int cell))) (some (.d (drwD d))) z6' z7') := by
    rw [← hfz]; rfl
  have happ : mAppend A [.d (drwD d)] = .ok (.d .non, .lst ((ds ++ [d]).map fun d => .d (drwD d))) := by
    have : (ds.map fun d => M.d (drwD d)).length < sizeLine := by rw [sizeLine_eq, List.length_map]; omega
    rw [hA]
    simp only [mAppend, if_pos this]
    simp
  have hiA : isLst A = true := by rw [hA]; rfl
  rw [ssDrop_eq (sMeth_eq (m0 := A) (m := A) rfl hiA (sa1_eq n5) rfl happ)]
  rfl
theorem draws_int {ns : List Int} {ws : List Nat} (hl : ws.length ≤ 4) (hw : ∀ m ∈ ws, 1 ≤ m ∧ m ≤ 6) : ∃ ds : Ds, (∀ d ∈ ds, GDr d) ∧ ds.map List.length = ws ∧ ∃ e, F__law_draws [scrM ns, .d (wsD ws)] = .ok (.lst (ds.map fun d => .d (drwD d)), e) := by
  obtain ⟨e', h1, ds, z3, z4, z5, z6, z7, ⟨hd, hlen, _⟩, rfl⟩ := fl_all (g := fg__law_draws_1) (b := fb__law_draws_1) (fun (k : Nat) => D.int (0 + (k : Int)))
    (fun rest env => ∃ (ds : Ds) (z3 z4 z5 z6 z7 : Option M), ((∀ d ∈ ds, GDr d) ∧ ds.map List.length ++ rest.map (fun i => ws.getD i 0) = ws ∧ ∀ k ∈ rest, k < ws.length) ∧ env = cE ns ws (.lst (ds.map fun d => .d (drwD d))) z3 z4 z5 z6 z7)
    (fun t rest env hI => by
      obtain ⟨ds, z3, z4, z5, z6, z7, ⟨hd, hlen, hk⟩, rfl⟩ := hI
      have htl := hk t (by simp)
      have hdl : ds.length < 100 := by have := congrArg List.length hlen; simp at this; omega
      have hwt : ws[t]? = some (ws.getD t 0) := by rw [List.getD_eq_getElem?_getD, List.getElem?_eq_getElem htl]; rfl
      obtain ⟨d, hgd, hdm, z4', z5', z6', z7', hb⟩ := draws_in (ns := ns) (ds := ds) (z4 := z4) (z5 := z5) (z6 := z6) (z7 := z7) hwt (by omega) (hw _ (List.mem_of_getElem? hwt)) hdl
      have hz : (0 : Int) + (t : Int) = (t : Int) := Int.zero_add _
      refine ⟨cE ns ws (.lst (ds.map fun d => .d (drwD d))) (some (.d (.int (t : Int)))) z4 z5 z6 z7, _, .nx, by rw [hz]; rfl, hb, .inl rfl, _, _, _, _, _, _, ⟨fun q hq => ?_, ?_, fun j hj => hk j (by simp [hj])⟩, rfl⟩
      · rcases List.mem_append.mp hq with hq | hq
        · exact hd q hq
        · simp at hq; subst hq; exact hgd
      · have e0 := hlen
        rw [List.map_cons] at e0
        rw [List.map_append, List.map_cons, List.map_nil, hdm, List.append_assoc]
        exact e0)
    (List.range ws.length) (cE ns ws (.lst []) none none none none none) ⟨[], none, none, none, none, none, ⟨fun d hd => by simp at hd, by
      rw [List.map_nil, List.nil_append]
      refine List.ext_getElem (by simp) fun j h1 h2 => ?_
      simp [h2], fun k hk => List.mem_range.mp hk⟩, rfl⟩
  simp only [List.map_nil, List.append_nil] at hlen
  refine ⟨ds, hd, hlen, ?_⟩
  unfold F__law_draws
  refine ⟨_, runF_ret (m := .lst (ds.map fun d => .d (drwD d))) (e := [some (scrM ns), some (.d (wsD ws)), none, z3, z4, z5, z6, z7]) ?_⟩
  unfold b__law_draws
  show ssSeq _ _ [some (scrM ns), some (.d (wsD ws)), none, none, none, none, none, none] = _
  rw [ssSeq_nx (e := cE ns ws (.lst []) none none none none none) (by simp [ssSet, sLst, saNil, cE])]
  have hr1 : siR1 (saCons (sV (vB bLen (vaCons (vN 1) (vaNil)))) (saNil)) (cE ns ws (.lst []) none none none none none) = .ok ((List.range ws.length).map fun (k : Nat) => D.int (0 + (k : Int)), cE ns ws (.lst []) none none none none none) := by
    have q : C62 (ws.length : Int) := ⟨by omega, by omega⟩
    have hb : bLen [.d (wsD ws)] = .ok (.int ws.length) := by simp [bLen, M.seq]
    simp only [siR1, saCons, saNil, sV, vB, vaCons, vaNil, vN, getE, cE, List.getElem?_cons_succ, List.getElem?_cons_zero, hb, if_pos q, Int.toNat_natCast]
  rw [ssSeq_nx ((ssFor_eq hr1).trans h1)]
  rfl
def lsv : Ent → Nat
  | .leaf _ => 100
  | .ask s _ => s
theorem lsite_int (e : Ent) : F__law_site [.d (entD e)] = .ok (.d (.int (lsv e : Int)), [some (.d (entD e))]) := by
  cases e with
  | leaf x => exact lsite_leaf x
  | ask s cs => exact lsite_ask s cs
structure CK (ds : Ds) (ps : List Ent) : Prop where
  cj : CJ ds ps
  lf : ∀ x, Ent.leaf x ∈ ps → Sm 50 x
theorem site_le {ds : Ds} {ps : List Ent} (c : CJ ds ps) {i : Nat} {e : Ent} (h : ps[i]? = some e) : site ds.length e ≤ ds.length := by
  cases e with
  | leaf x => exact Nat.le_refl _
  | ask s cs => have := (c.gp i _ h).1; exact Nat.le_of_lt this
theorem gent_app {ds : Ds} {ps : List Ent} {q e : Ent} {i : Nat} (g : GEnt ds ps i e) : GEnt ds (ps ++ [q]) i e := by
  cases e with
  | leaf x => trivial
  | ask s' cs' =>
    refine ⟨g.1, fun x hx => ?_⟩
    obtain ⟨h1, e', h2, h3, h4⟩ := g.2 x hx
    have := (List.getElem?_eq_some_iff.mp h2).1
    exact ⟨h1, e', by rw [List.getElem?_append_left this]; exact h2, h3, h4⟩
theorem app_sel {ps : List Ent} {q e : Ent} {i : Nat} (h : (ps ++ [q])[i]? = some e) : (i < ps.length ∧ ps[i]? = some e) ∨ (i = ps.length ∧ e = q) := by
  rcases Nat.lt_trichotomy i ps.length with k | k | k
  · rw [List.getElem?_append_left k] at h; exact .inl ⟨k, h⟩
  · subst k; simp at h; exact .inr ⟨rfl, h.symm⟩
  · rw [List.getElem?_eq_none (by simp; omega)] at h; cases h
theorem CK.leaf {ds : Ds} {ps : List Ent} {x : D} (c : CK ds ps) (hx : Sm 50 x) : CK ds (ps ++ [.leaf x]) := by
  refine ⟨⟨fun i e h => ?_, fun i s cs h => ?_⟩, fun y hy => ?_⟩
  · rcases app_sel h with ⟨k, h⟩ | ⟨rfl, rfl⟩
    · exact gent_app (c.cj.gp i e h)
    · trivial
  · rcases app_sel h with ⟨k, h⟩ | ⟨_, h⟩
    · exact c.cj.al i s cs h
    · cases h
  · rcases List.mem_append.mp hy with hy | hy
    · exact c.lf y hy
    · simp at hy; subst hy; exact hx
theorem CK.ask {ds : Ds} {ps : List Ent} {s : Nat} {cs : List Nat} (c : CK ds ps) (hs : s < ds.length) (hl : cs.length = (ds.getD s []).length) (hc : ∀ x ∈ cs, ∃ e, ps[x]? = some e ∧ s < site ds.length e) : CK ds (ps ++ [.ask s cs]) := by
  refine ⟨⟨fun i e h => ?_, fun i s' cs' h => ?_⟩, fun y hy => ?_⟩
  · rcases app_sel h with ⟨k, h⟩ | ⟨rfl, rfl⟩
    · exact gent_app (c.cj.gp i e h)
    · refine ⟨hs, fun x hx => ?_⟩
      obtain ⟨e, h1, h2⟩ := hc x hx
      have := (List.getElem?_eq_some_iff.mp h1).1
      exact ⟨this, e, by rw [List.getElem?_append_left this]; exact h1, h2, site_le c.cj h1⟩
  · rcases app_sel h with ⟨k, h⟩ | ⟨_, h⟩
    · exact c.cj.al i s' cs' h
    · cases h; exact hl
  · rcases List.mem_append.mp hy with hy | hy
    · exact c.lf y hy
    · simp at hy
abbrev gE (ns : List Int) (ws : List Nat) (ps : List Ent) (z3 z4 z5 z6 z7 : Option M) : FL.Env := [some (scrM ns), some (.d (wsD ws)), some (pM ps), z3, z4, z5, z6, z7, none, none]
theorem app_pM {ps : List Ent} {e : Ent} (hl : ps.length < 1000) : mAppend (pM ps) [.d (entD e)] = .ok (.d .non, pM (ps ++ [e])) := by
  have h1 : (ps.map fun e => M.d (entD e)).length < sizeLine := by rw [sizeLine_eq, List.length_map]; omega
  simp only [mAppend, pM, if_pos h1]
  simp
theorem some_in {ns : List Int} {ws : List Nat} {ps : List Ent} {t : Nat} {z3 z4 z6 z7 : Option M} (hpl : ps.length < 500) :
    ssSet 6 (sLc [8] (siR1 (saCons (sV (vB bLen (vaCons (vN 2) (vaNil)))) (saNil))) (sgN 8) (sbE (s2v oGt (sCall F__law_site [none] (saCons (sV (vIx (vN 2) (vN 8))) (saNil))) (vN 5))) (sN 8)) (gE ns ws ps z3 z4 (some (.d (.int (t : Int)))) z6 z7) =
      .ok (.nx, gE ns ws ps z3 z4 (some (.d (.int (t : Int)))) (some (iM ((List.range ps.length).filter fun i => decide ((t : Int) < ((lsv (ps.getD i (.leaf .non)) : Nat) : Int))))) z7) := by
  obtain ⟨A, hA⟩ : ∃ A, A = pM ps := ⟨_, rfl⟩
  obtain ⟨E, hE⟩ : ∃ E : FL.Env, E = [some (scrM ns), some (.d (wsD ws)), some A, z3, z4, some (.d (.int (t : Int))), z6, z7, none, none] := ⟨_, rfl⟩
  have h := lcl_if (own := [8]) (g := sgN 8) (c := sbE (s2v oGt (sCall F__law_site [none] (saCons (sV (vIx (vN 2) (vN 8))) (saNil))) (vN 5))) (f := sN 8) (env := E) (fun (i : Nat) => D.int (0 + (i : Int))) (fun (i : Nat) => M.d (.int (i : Int))) (fun i => decide ((t : Int) < ((lsv (ps.getD i (.leaf .non)) : Nat) : Int))) (List.range ps.length) [] (fun i hi => by
    have hi' := List.mem_range.mp hi
    have he : ps[i]? = some (ps.getD i (.leaf .non)) := by rw [List.getD_eq_getElem?_getD, List.getElem?_eq_getElem hi']; rfl
    obtain ⟨e, hee⟩ : ∃ e, e = ps.getD i (.leaf .non) := ⟨_, rfl⟩
    rw [← hee] at he ⊢
    have i1 : mIdx A (.d (.int (i : Int))) = .ok (.d (entD e)) := by rw [hA]; exact mIdx_m (by simp [he])
    have hs := lsite_int e
    have hz : (0 : Int) + (i : Int) = (i : Int) := Int.zero_add _
    rw [hz, hE]
    obtain ⟨E1, hE1⟩ : ∃ E1 : FL.Env, E1 = [some (scrM ns), some (.d (wsD ws)), some A, z3, z4, some (.d (.int (t : Int))), z6, z7, some (.d (.int (i : Int))), none] := ⟨_, rfl⟩
    have n8 : sV (vIx (vN 2) (vN 8)) E1 = .ok (.d (entD e), E1) := by rw [hE1]; simp only [sV, vIx, vN, getE, List.getElem?_cons_succ, List.getElem?_cons_zero, i1]
    have hv5 : vN 5 E1 = .ok (.d (.int (t : Int))) := by rw [hE1]; rfl
    refine ⟨E1, E1, E1, by rw [hE1]; rfl, ?_, fun _ => ⟨by rw [hE1]; rfl, by rw [hE1]; rfl⟩, fun _ => by rw [hE1]; rfl⟩
    exact sbE_eq (s2v_eq (sCall_n (bk := [none]) (by decide) (sa1_eq n8) hs) hv5 (oGt_int _ _)))
  have hr : C62 (ps.length : Int) := ⟨by omega, by omega⟩
  have hb : bLen [A] = .ok (.int ps.length) := by rw [hA]; simp [bLen, pM, M.seq]
  have hr1 : siR1 (saCons (sV (vB bLen (vaCons (vN 2) (vaNil)))) (saNil)) E = .ok ((List.range ps.length).map fun (i : Nat) => D.int (0 + (i : Int)), E) := by
    rw [hE]
    simp only [siR1, saCons, saNil, sV, vB, vaCons, vaNil, vN, getE, List.getElem?_cons_succ, List.getElem?_cons_zero, hb, if_pos hr, Int.toNat_natCast]
  have hk : killAll [8] E = E := by rw [hE]; rfl
  have hsz : ((List.range ps.length).map fun (i : Nat) => D.int (0 + (i : Int))).length ≤ sizeLine := by rw [sizeLine_eq, List.length_map, List.length_range]; omega
  have hlc := sLc_eq hr1 hsz (by rw [hk]; exact h)
  show ssSet 6 _ [some (scrM ns), some (.d (wsD ws)), some (pM ps), z3, z4, some (.d (.int (t : Int))), z6, z7, none, none] = _
  rw [← hA, ← hE, ssSet_eq (i := 6) hlc (by rw [hE]; show (6:Nat) < 10; decide), hE, List.nil_append]
  rw [hA]
  rfl
noncomputable def chd (ys : List Nat) (cell : Int) (j : Nat) : Nat := ys.getD (mixI cell (2 + j) % ys.length).toNat 0
theorem chd_mem {ys : List Nat} {cell : Int} {j : Nat} (h : ys ≠ []) : chd ys cell j ∈ ys := by
  have h0 : 0 < ys.length := List.length_pos_iff.mpr h
  have h1 : (ys.length : Int) ≠ 0 := by omega
  have h2 := Int.emod_nonneg (mixI cell (2 + j)) h1
  have h3 := Int.emod_lt_of_pos (mixI cell (2 + j)) (show (0:Int) < ys.length by omega)
  have h4 : (mixI cell (2 + j) % ys.length).toNat < ys.length := by omega
  unfold chd
  rw [List.getD_eq_getElem?_getD, List.getElem?_eq_getElem h4]
  exact List.getElem_mem h4
theorem children_in {ns : List Int} {ws : List Nat} {ps : List Ent} {t m : Nat} {z3 z7 : Option M} {cell : Int} {ys : List Nat} (hy : ys ≠ []) (ht : ws[t]? = some m) (hm : m ≤ 6) :
    ssSet 7 (sLc [9] (siR1 (saCons (sV (vIx (vN 1) (vN 5))) (saNil))) (sgN 9) sbYes (s2n oIdx 6 (s2 oMod (sCall F__law_mix [none, none] (saCons (sN 4) (saCons (sV (v2 oAdd (vC (.int 2)) (vN 9))) (saNil)))) (sV (vB bLen (vaCons (vN 6) (vaNil))))))) (gE ns ws ps z3 (some (.d (.int cell))) (some (.d (.int (t : Int)))) (some (iM ys)) z7) =
      .ok (.nx, gE ns ws ps z3 (some (.d (.int cell))) (some (.d (.int (t : Int)))) (some (iM ys)) (some (iM ((List.range m).map (chd ys cell))))) := by
  obtain ⟨A, hA⟩ : ∃ A, A = pM ps := ⟨_, rfl⟩
  obtain ⟨B, hB⟩ : ∃ B, B = iM ys := ⟨_, rfl⟩
  obtain ⟨E, hE⟩ : ∃ E : FL.Env, E = [some (scrM ns), some (.d (wsD ws)), some A, z3, some (.d (.int cell)), some (.d (.int (t : Int))), some B, z7, none, none] := ⟨_, rfl⟩
  have h0 : 0 < ys.length := List.length_pos_iff.mpr hy
  have h1 : (ys.length : Int) ≠ 0 := by omega
  have hb : bLen [B] = .ok (.int ys.length) := by rw [hB]; simp [bLen, iM, M.seq]
  have h := lcl_map (own := [9]) (g := sgN 9) (c := sbYes) (f := s2n oIdx 6 (s2 oMod (sCall F__law_mix [none, none] (saCons (sN 4) (saCons (sV (v2 oAdd (vC (.int 2)) (vN 9))) (saNil)))) (sV (vB bLen (vaCons (vN 6) (vaNil)))))) (env := E) (fun (i : Nat) => D.int (0 + (i : Int))) (fun (i : Nat) => M.d (.int (chd ys cell i : Int))) (List.range m) [] (fun j hj => by
    have hj' := List.mem_range.mp hj
    have hm := (mix_eq (c := cell) (k := 2 + (j : Int)) (by omega)).2
    have h2 := Int.emod_nonneg (mixI cell (2 + j)) h1
    have h3 := Int.emod_lt_of_pos (mixI cell (2 + j)) (show (0:Int) < ys.length by omega)
    have h4 : (mixI cell (2 + j) % ys.length).toNat < ys.length := by omega
    have hz : (0 : Int) + (j : Int) = (j : Int) := Int.zero_add _
    have hx : oIdx B (.d (.int (mixI cell (2 + j) % ys.length))) = .ok (.int (chd ys cell j : Int)) := by
      have hk : mixI cell (2 + j) % ys.length = (((mixI cell (2 + j) % ys.length).toNat : Nat) : Int) := by omega
      have : mIdx B (.d (.int (mixI cell (2 + j) % ys.length))) = .ok (.d (.int (chd ys cell j : Int))) := by
        rw [hk, hB]
        refine mIdx_m ?_
        rw [List.getElem?_map, List.getElem?_eq_getElem h4]
        simp [chd, h4]
      simp only [oIdx, this]
    rw [hz, hE]
    obtain ⟨E1, hE1⟩ : ∃ E1 : FL.Env, E1 = [some (scrM ns), some (.d (wsD ws)), some A, z3, some (.d (.int cell)), some (.d (.int (t : Int))), some B, z7, none, some (.d (.int (j : Int)))] := ⟨_, rfl⟩
    have n4 : sN 4 E1 = .ok (.d (.int cell), E1) := by rw [hE1]; rfl
    have n9 : sV (v2 oAdd (vC (.int 2)) (vN 9)) E1 = .ok (.d (.int (2 + (j : Int))), E1) := by rw [hE1]; simp only [sV, v2, vN, vC, getE, List.getElem?_cons_succ, List.getElem?_cons_zero, oAdd_int]
    have nl : sV (vB bLen (vaCons (vN 6) (vaNil))) E1 = .ok (.d (.int ys.length), E1) := by rw [hE1]; simp only [sV, vB, vaCons, vaNil, vN, getE, List.getElem?_cons_succ, List.getElem?_cons_zero, hb]
    have hmod := s2_eq (op := oMod) (sCall_n (bk := [none, none]) (by decide) (sa2_eq n4 n9) hm) nl (x := .int (mixI cell (2 + j) % ys.length)) (by rw [oMod_int h1, modI_pos (by omega)])
    refine ⟨E1, E1, E1, by rw [hE1]; rfl, rfl, ?_, by rw [hE1]; rfl⟩
    have hg6 : getE E1 6 = .ok B := by rw [hE1]; rfl
    unfold s2n
    rw [hg6]
    simp only []
    rw [hmod]
    simp only [hg6, hx])
  have i1 : mIdx (.d (wsD ws)) (.d (.int (t : Int))) = .ok (.d (.int (m : Int))) := mIdx_n (by simp [ht])
  have hr : C62 (m : Int) := ⟨by omega, by omega⟩
  have hr1 : siR1 (saCons (sV (vIx (vN 1) (vN 5))) (saNil)) E = .ok ((List.range m).map fun (i : Nat) => D.int (0 + (i : Int)), E) := by
    rw [hE]
    simp only [siR1, saCons, saNil, sV, vIx, vN, getE, List.getElem?_cons_succ, List.getElem?_cons_zero, i1, if_pos hr, Int.toNat_natCast]
  have hk : killAll [9] E = E := by rw [hE]; rfl
  have hsz : ((List.range m).map fun (i : Nat) => D.int (0 + (i : Int))).length ≤ sizeLine := by rw [sizeLine_eq, List.length_map, List.length_range]; omega
  have hlc := sLc_eq hr1 hsz (by rw [hk]; exact h)
  show ssSet 7 _ [some (scrM ns), some (.d (wsD ws)), some (pM ps), z3, some (.d (.int cell)), some (.d (.int (t : Int))), some (iM ys), z7, none, none] = _
  have hM : M.lst ([] ++ (List.range m).map fun (i : Nat) => M.d (.int (chd ys cell i : Int))) = iM ((List.range m).map (chd ys cell)) := by
    unfold iM
    rw [List.nil_append, List.map_map]
    rfl
  rw [hM] at hlc
  rw [← hA, ← hB, ← hE, ssSet_eq (i := 7) hlc (by rw [hE]; show (7:Nat) < 10; decide), hE, hA]
  rfl
theorem list_in {ns : List Int} {ws : List Nat} {ds : Ds} {ps : List Ent} {k : Nat} {z4 z5 z6 z7 : Option M} (hws : ds.map List.length = ws) (hl : 0 < ws.length ∧ ws.length ≤ 4) (hw : ∀ m ∈ ws, 1 ≤ m ∧ m ≤ 6) (c : CK ds ps) (hpl : ps.length < 400) (hk : k < ns.length ∧ k < 1000) :
    ∃ e z4' z5' z6' z7', CK ds (ps ++ [e]) ∧ fb__law_lists_1 (gE ns ws ps (some (.d (.int (k : Int)))) z4 z5 z6 z7) = .ok (.nx, gE ns ws (ps ++ [e]) (some (.d (.int (k : Int)))) z4' z5' z6' z7') := by
  have hdl : ds.length = ws.length := by rw [← hws, List.length_map]
  have i1 : mIdx (scrM ns) (.d (.int (k : Int))) = .ok (.d (.int ns[k])) := mIdx_scr (List.getElem?_eq_getElem hk.1)
  obtain ⟨hm1, hm⟩ := mix_eq (c := ns[k]'hk.1) (k := k) (by omega)
  obtain ⟨cell, hcell⟩ : ∃ cell, cell = mixI (ns[k]'hk.1) k := ⟨_, rfl⟩
  rw [← hcell] at hm hm1
  obtain ⟨hn1, hn⟩ := mix_eq (c := cell) (k := 1) (by decide)
  obtain ⟨f, hf⟩ : ∃ f, f = mixI cell 1 := ⟨_, rfl⟩
  rw [← hf] at hn hn1
  have hwz : (ws.length : Int) ≠ 0 := by omega
  have hwp : (0 : Int) < (ws.length : Int) := by omega
  have hfm0 := Int.emod_nonneg f hwz
  have hfm1 := Int.emod_lt_of_pos f hwp
  obtain ⟨t, ht, hte⟩ : ∃ t : Nat, t < ws.length ∧ f % (ws.length : Int) = (t : Int) := ⟨(f % (ws.length : Int)).toNat, by omega, by omega⟩
  have hwt : ws[t]? = some (ws.getD t 0) := by rw [List.getD_eq_getElem?_getD, List.getElem?_eq_getElem ht]; rfl
  obtain ⟨m, hmm⟩ : ∃ m, m = ws.getD t 0 := ⟨_, rfl⟩
  rw [← hmm] at hwt
  have hmr := hw m (List.mem_of_getElem? hwt)
  obtain ⟨ys, hys⟩ : ∃ ys, ys = (List.range ps.length).filter fun i => decide ((t : Int) < ((lsv (ps.getD i (.leaf .non)) : Nat) : Int)) := ⟨_, rfl⟩
  have hym : ∀ i ∈ ys, ∃ e, ps[i]? = some e ∧ t < site ds.length e := fun i hi => by
    rw [hys, List.mem_filter] at hi
    have h1 := List.mem_range.mp hi.1
    have h2 := of_decide_eq_true hi.2
    have h3 : ps[i]? = some (ps.getD i (.leaf .non)) := by rw [List.getD_eq_getElem?_getD, List.getElem?_eq_getElem h1]; rfl
    refine ⟨_, h3, ?_⟩
    cases he : ps.getD i (.leaf .non) with
    | leaf x => show t < ds.length; omega
    | ask s cs =>
      rw [he] at h2
      have h4 : (t : Int) < ((s : Nat) : Int) := h2
      show t < s
      omega
  have hyl : ys.length < 500 := by
    have : ys.length ≤ (List.range ps.length).length := by rw [hys]; exact List.length_filter_le _ _
    rw [List.length_range] at this
    omega
  have hsi := some_in (ns := ns) (ws := ws) (ps := ps) (t := t) (z3 := some (.d (.int (k : Int)))) (z4 := some (.d (.int cell))) (z6 := z6) (z7 := z7) (by omega)
  rw [← hys] at hsi
  obtain ⟨x, hx, eo, ho⟩ := outcome_int (c := cell / 4) (by omega)
  have c4 : CFdiv cell 4 := fdivD (b := 10) (by decide) (by decide)
  obtain ⟨A, hA⟩ : ∃ A, A = pM ps := ⟨_, rfl⟩
  unfold fb__law_lists_1
  have p4 : ssSet 4 (sCall F__law_mix [none, none] (saCons (sV (vIx (vN 0) (vN 3))) (saCons (sN 3) (saNil)))) (gE ns ws ps (some (.d (.int (k : Int)))) z4 z5 z6 z7) = .ok (.nx, gE ns ws ps (some (.d (.int (k : Int)))) (some (.d (.int cell))) z5 z6 z7) := by
    obtain ⟨E, hE⟩ : ∃ E, E = gE ns ws ps (some (.d (.int (k : Int)))) z4 z5 z6 z7 := ⟨_, rfl⟩
    have n0 : sV (vIx (vN 0) (vN 3)) E = .ok (.d (.int ns[k]), E) := by rw [hE]; simp only [sV, vIx, vN, getE, gE, List.getElem?_cons_succ, List.getElem?_cons_zero, i1]
    have n3 : sN 3 E = .ok (.d (.int (k : Int)), E) := by rw [hE]; rfl
    rw [← hE, ssSet_eq (i := 4) (sCall_n (bk := [none, none]) (by decide) (sa2_eq n0 n3) hm) (by rw [hE]; show (4:Nat) < 10; decide), hE]
    rfl
  have p5 : ssSet 5 (s2 oMod (sCall F__law_mix [none, none] (saCons (sN 4) (saCons (sV (vC (.int 1))) (saNil)))) (sV (vB bLen (vaCons (vN 1) (vaNil))))) (gE ns ws ps (some (.d (.int (k : Int)))) (some (.d (.int cell))) z5 z6 z7) = .ok (.nx, gE ns ws ps (some (.d (.int (k : Int)))) (some (.d (.int cell))) (some (.d (.int (t : Int)))) z6 z7) := by
    obtain ⟨E, hE⟩ : ∃ E, E = gE ns ws ps (some (.d (.int (k : Int)))) (some (.d (.int cell))) z5 z6 z7 := ⟨_, rfl⟩
    have n4 : sN 4 E = .ok (.d (.int cell), E) := by rw [hE]; rfl
    have n1 : sV (vC (.int 1)) E = .ok (.d (.int 1), E) := rfl
    have hb : bLen [.d (wsD ws)] = .ok (.int ws.length) := by simp [bLen, M.seq]
    have nl : sV (vB bLen (vaCons (vN 1) (vaNil))) E = .ok (.d (.int ws.length), E) := by rw [hE]; simp only [sV, vB, vaCons, vaNil, vN, getE, gE, List.getElem?_cons_succ, List.getElem?_cons_zero, hb]
    have hv := s2_eq (op := oMod) (sCall_n (bk := [none, none]) (by decide) (sa2_eq n4 n1) hn) nl (x := .int (t : Int)) (by rw [oMod_int hwz, modI_pos hwp, hte])
    rw [← hE, ssSet_eq (i := 5) hv (by rw [hE]; show (5:Nat) < 10; decide), hE]
    rfl
  rw [ssSeq_nx p4, ssSeq_nx p5, ssSeq_nx hsi]
  have happ : ∀ e, mAppend (pM ps) [.d (entD e)] = .ok (.d .non, pM (ps ++ [e])) := fun e => app_pM (by omega)
  have hil : isLst (pM ps) = true := rfl
  obtain ⟨E, hE⟩ : ∃ E, E = gE ns ws ps (some (.d (.int (k : Int)))) (some (.d (.int cell))) (some (.d (.int (t : Int)))) (some (iM ys)) z7 := ⟨_, rfl⟩
  have hby : bLen [iM ys] = .ok (.int ys.length) := by simp [bLen, iM, M.seq]
  have q1 : sbE (sV (v2 oEq (vB bLen (vaCons (vN 6) (vaNil))) (vC (.int 0)))) E = .ok (decide ((ys.length : Int) = 0), E) := by
    rw [hE]; simp only [sbE, sV, v2, vB, vaCons, vaNil, vN, vC, getE, gE, List.getElem?_cons_succ, List.getElem?_cons_zero, hby, oEq_int]
  have q2 : sbE (sV (v2 oEq (v2 oMod (vN 4) (vC (.int 4))) (vC (.int 0)))) E = .ok (decide (cell % 4 = 0), E) := by
    rw [hE]; simp only [sbE, sV, v2, vN, vC, getE, gE, List.getElem?_cons_succ, List.getElem?_cons_zero, oMod_int (show (4:Int) ≠ 0 by decide), modI_pos (show (0:Int) < 4 by decide), oEq_int]
  rw [← hE]
  by_cases hc : (ys.length : Int) = 0 ∨ cell % 4 = 0
  · have hcc : sbOr (sbE (sV (v2 oEq (vB bLen (vaCons (vN 6) (vaNil))) (vC (.int 0))))) (sbE (sV (v2 oEq (v2 oMod (vN 4) (vC (.int 4))) (vC (.int 0))))) E = .ok (true, E) := by
      by_cases h1 : (ys.length : Int) = 0
      · rw [decide_eq_true h1] at q1
        simp only [sbOr, q1]
      · have h2 : cell % 4 = 0 := by rcases hc with h | h; exact absurd h h1; exact h
        rw [decide_eq_false h1] at q1
        rw [decide_eq_true h2] at q2
        simp only [sbOr, q1, q2]
    refine ⟨.leaf x, some (.d (.int cell)), some (.d (.int (t : Int))), some (iM ys), z7, c.leaf hx, ?_⟩
    rw [ssIf_t hcc]
    have n4 : sV (v2 oFdiv (vN 4) (vC (.int 4))) E = .ok (.d (.int (cell / 4)), E) := by
      rw [hE]; simp only [sV, v2, vN, vC, getE, gE, List.getElem?_cons_succ, List.getElem?_cons_zero, oFdiv_int c4, fdivI_pos (show (0:Int) < 4 by decide)]
    have ncall := sCall_n (bk := [none]) (by decide) (sa1_eq n4) ho
    have nt : sTup (saCons (sV (vC (.str (Str.ofString "leaf")))) (saCons (sCall F__law_outcome [none] (saCons (sV (v2 oFdiv (vN 4) (vC (.int 4)))) (saNil))) (saNil))) E = .ok (.d (entD (.leaf x)), E) := by
      have n0 : sV (vC (.str (Str.ofString "leaf"))) E = .ok (.d (.str (Str.ofString "leaf")), E) := rfl
      unfold sTup
      rw [sa2_eq n0 ncall]
      simp [mTup, isD, unD, sizeLine_eq, entD]
    have hg : getE E 2 = .ok (pM ps) := by rw [hE]; rfl
    rw [ssDrop_eq (sMeth_eq hg hil (sa1_eq nt) hg (happ _)), hE]
    rfl
  · have h1 : ¬ (ys.length : Int) = 0 := fun h => hc (.inl h)
    have h2 : ¬ cell % 4 = 0 := fun h => hc (.inr h)
    have hyn : ys ≠ [] := by intro z; rw [z] at h1; exact h1 rfl
    have hcc : sbOr (sbE (sV (v2 oEq (vB bLen (vaCons (vN 6) (vaNil))) (vC (.int 0))))) (sbE (sV (v2 oEq (v2 oMod (vN 4) (vC (.int 4))) (vC (.int 0))))) E = .ok (false, E) := by
      rw [decide_eq_false h1] at q1
      rw [decide_eq_false h2] at q2
      simp only [sbOr, q1, q2]
    have hch := children_in (ns := ns) (ps := ps) (z3 := some (.d (.int (k : Int)))) (z7 := z7) (cell := cell) hyn hwt hmr.2
    have hds : ds[t]? = some (ds.getD t []) := by rw [List.getD_eq_getElem?_getD, List.getElem?_eq_getElem (show t < ds.length by omega)]; rfl
    have hdm : (ds.getD t []).length = m := by
      have : (ds.map List.length)[t]? = some (ds.getD t []).length := by rw [List.getElem?_map, hds]; rfl
      rw [hws, hwt] at this
      cases this
      rfl
    refine ⟨.ask t ((List.range m).map (chd ys cell)), some (.d (.int cell)), some (.d (.int (t : Int))), some (iM ys), some (.d (.lst (((List.range m).map (chd ys cell)).map fun (c : Nat) => .int (c : Int)))), c.ask (by omega) (by rw [hdm, List.length_map, List.length_range]) (fun y hy => ?_), ?_⟩
    · obtain ⟨j, _, rfl⟩ := List.mem_map.mp hy
      exact hym _ (chd_mem hyn)
    rw [ssIf_f hcc]
    obtain ⟨cs, hcs⟩ : ∃ cs, cs = (List.range m).map (chd ys cell) := ⟨_, rfl⟩
    rw [← hcs] at hch ⊢
    rw [hE, ssSeq_nx hch]
    obtain ⟨E2, hE2⟩ : ∃ E2, E2 = gE ns ws ps (some (.d (.int (k : Int)))) (some (.d (.int cell))) (some (.d (.int (t : Int)))) (some (iM ys)) (some (.d (.lst (cs.map fun (c : Nat) => .int (c : Int))))) := ⟨_, rfl⟩
    obtain ⟨E1, hE1⟩ : ∃ E1, E1 = gE ns ws ps (some (.d (.int (k : Int)))) (some (.d (.int cell))) (some (.d (.int (t : Int)))) (some (iM ys)) (some (iM cs)) := ⟨_, rfl⟩
    have hfz : fz (iM cs) = .lst (cs.map fun (c : Nat) => .int (c : Int)) := by simp only [iM, fz, fzs_map_d]
    have n5 : sN 5 E1 = .ok (.d (.int (t : Int)), E1) := by rw [hE1]; rfl
    have n7 : sN 7 E1 = .ok (.d (.lst (cs.map fun (c : Nat) => .int (c : Int))), E2) := by
      rw [hE1, hE2, ← hfz]; rfl
    have nt : sTup (saCons (sV (vC (.str (Str.ofString "ask")))) (saCons (sN 5) (saCons (sN 7) (saNil)))) E1 = .ok (.d (entD (.ask t cs)), E2) := by
      have n0 : sV (vC (.str (Str.ofString "ask"))) E1 = .ok (.d (.str (Str.ofString "ask")), E1) := rfl
      unfold sTup
      rw [sa3_eq n0 n5 n7]
      simp [mTup, isD, unD, sizeLine_eq, entD]
    have hg : getE E1 2 = .ok (pM ps) := by rw [hE1]; rfl
    have hg2 : getE E2 2 = .ok (pM ps) := by rw [hE2]; rfl
    rw [← hE1, ssDrop_eq (sMeth_eq hg hil (sa1_eq nt) hg2 (happ _)), hE2]
    rfl
theorem lists_int {ns : List Int} {ws : List Nat} {ds : Ds} (hn : ns.length ≤ 63) (hws : ds.map List.length = ws) (hl : 0 < ws.length ∧ ws.length ≤ 4) (hw : ∀ m ∈ ws, 1 ≤ m ∧ m ≤ 6) :
    ∃ ps : List Ent, CK ds ps ∧ ps.length ≤ 100 ∧ ∃ e, F__law_lists [scrM ns, .d (wsD ws)] = .ok (pM ps, e) := by
  obtain ⟨n, hnn⟩ : ∃ n, n = min ns.length 62 := ⟨_, rfl⟩
  obtain ⟨e', h1, ps, z3, z4, z5, z6, z7, ⟨hc, hlen, _⟩, rfl⟩ := fl_all (g := fg__law_lists_1) (b := fb__law_lists_1) (fun (k : Nat) => D.int (k : Int))
    (fun rest env => ∃ (ps : List Ent) (z3 z4 z5 z6 z7 : Option M), (CK ds ps ∧ ps.length + rest.length ≤ 100 ∧ ∀ k ∈ rest, k < ns.length) ∧ env = gE ns ws ps z3 z4 z5 z6 z7)
    (fun k rest env hI => by
      obtain ⟨ps, z3, z4, z5, z6, z7, ⟨hc, hlen, hk⟩, rfl⟩ := hI
      simp only [List.length_cons] at hlen
      have hk0 := hk k (by simp)
      obtain ⟨e, z4', z5', z6', z7', hc', hb⟩ := list_in (z4 := z4) (z5 := z5) (z6 := z6) (z7 := z7) hws hl hw hc (by omega) ⟨hk0, by omega⟩
      exact ⟨gE ns ws ps (some (.d (.int (k : Int)))) z4 z5 z6 z7, _, .nx, rfl, hb, .inl rfl, _, _, _, _, _, _, ⟨hc', by simp; omega, fun j hj => hk j (by simp [hj])⟩, rfl⟩)
    (List.range' 2 (n - 2)) (gE ns ws [] none none none none none) ⟨[], none, none, none, none, none, ⟨⟨⟨fun i e h => by simp at h, fun i s cs h => by simp at h⟩, fun x h => by simp at h⟩, by rw [List.length_nil, List.length_range']; omega, fun k hk => by
      have := List.mem_range'_1.mp hk
      omega⟩, rfl⟩
  refine ⟨ps, hc, by simp at hlen; omega, ?_⟩
  unfold F__law_lists
  refine ⟨_, runF_ret (m := pM ps) (e := [some (scrM ns), some (.d (wsD ws)), none, z3, z4, z5, z6, z7, none, none]) ?_⟩
  unfold b__law_lists
  show ssSeq _ _ [some (scrM ns), some (.d (wsD ws)), none, none, none, none, none, none, none, none] = _
  rw [ssSeq_nx (e := gE ns ws [] none none none none none) (by simp [ssSet, sLst, saNil, gE, pM])]
  have hmin : bMin2 [.d (.int (ns.length : Int)), .d (.int 62)] = .ok (.int (n : Int)) := by
    simp only [bMin2, b2I, hnn]
    split <;> congr 2 <;> omega
  have hsa : saCons (sV (vC (.int 2))) (saCons (sV (vB bMin2 (vaCons (vB bLen (vaCons (vN 0) (vaNil))) (vaCons (vC (.int 62)) vaNil)))) (saNil)) (gE ns ws [] none none none none none) = .ok ([.d (.int ((2 : Nat) : Int)), .d (.int (n : Int))], gE ns ws [] none none none none none) := by
    refine sa2_eq rfl ?_
    simp only [sV, vB, vaCons, vaNil, vN, vC, getE, gE, List.getElem?_cons_succ, List.getElem?_cons_zero, bLen_scr, hmin]
  rw [ssSeq_nx ((ssFor_eq (siR2_nat hsa (by omega) (by omega))).trans h1)]
  rfl
abbrev lE (ns : List Int) (ws : List Nat) (ds : Ds) (ps : List Ent) (rs : List (List Nat)) (A : M) (z8 z9 z11 z12 : Option M) : FL.Env :=
  [some (scrM ns), some (.d (wsD ws)), some (.d (dsD ds)), some (.d (psD ps)), some (.d (.lst (rs.map rwD))), some (.d (psD ps)), some (.d (dsD ds)), some A, z8, z9, none, z11, z12]
theorem asg2 {f : SE} {env e e1 e2 : FL.Env} {x y : Int} {i j : Nat} (h : f env = .ok (.d (pI x y), e)) (h1 : sgN i (.d (.int x)) e = .ok e1) (h2 : sgN j (.d (.int y)) e1 = .ok e2) : ssAsg f (sgTup 2 (sgCons (sgN i) (sgCons (sgN j) (sgNil)))) env = .ok (.nx, e2) := by
  have hs : sgTup 2 (sgCons (sgN i) (sgCons (sgN j) (sgNil))) (.d (pI x y)) e = .ok e2 := by
    show sgCons (sgN i) (sgCons (sgN j) (sgNil)) [.d (.int x), .d (.int y)] e = .ok e2
    simp only [sgCons, h1, h2, sgNil]
  unfold ssAsg
  rw [h]
  simp only []
  rw [hs]
theorem best_bd {ds : Ds} {ps : List Ent} {i : Nat} {e : Ent} {q : Int × Int} {X : Int} (hds : ∀ d ∈ ds, GDr d) (h : Best ds ps i e q X) : Bd ds.length X := by
  rcases Int.lt_or_le 0 X with z | z
  · obtain ⟨r, ok, _, h2⟩ := h.at_ z
    have hg : ∀ d ∈ ds.drop (site ds.length e), GDr d := fun d hd => hds d (List.mem_of_mem_drop hd)
    have h3 := wP_bd hg (okR_drop (site ds.length e) ok)
    have h4 := (pT_bd hg).mono (k := ds.length) (by rw [List.length_drop]; omega)
    have h5 : wP (ds.drop (site ds.length e)) (r.drop (site ds.length e)) = X := h2
    rw [h5] at h3
    exact ⟨by omega, Int.le_trans h3.2 h4.2⟩
  · have := h.nn
    have : X = 0 := by omega
    rw [this]
    exact Bd.zero _
theorem law_in {ns : List Int} {ws : List Nat} {ds : Ds} {ps : List Ent} {rs : List (List Nat)} {fs : List (Int × Int)} {z9 z11 z12 : Option M} {i : Nat} {e : Ent} (hds : ∀ d ∈ ds, GDr d) (hl : ds.length ≤ 24) (cj : CJ ds ps) (hr : ∀ r, r ∈ rs ↔ okR ds r) (hf : GF ds ps fs) (hfl : fs.length = ps.length) (hi : ps[i]? = some e) :
    ∃ z11' z12', fb_law_1 (lE ns ws ds ps rs (fM fs) (some (.d (.int (i : Int)))) z9 z11 z12) = .ok (.nx, lE ns ws ds ps rs (fM fs) (some (.d (.int (i : Int)))) z9 z11' z12') := by
  have hil : i < ps.length := (List.getElem?_eq_some_iff.mp hi).1
  obtain ⟨q, hq⟩ : ∃ q, fs[i]? = some q := ⟨_, List.getElem?_eq_getElem (by omega)⟩
  obtain ⟨X, hB⟩ := best_ok hds cj hf hfl (i + 1) i e q (by omega) hi hq
  obtain ⟨e', hdue⟩ := due_int hds hl cj hi hr hB
  obtain ⟨Cv, hCv⟩ : ∃ Cv, Cv = CS ds (site ds.length e) := ⟨_, rfl⟩
  have hCb := CS_bd (t := site ds.length e) hds
  have hqe := hB.eq
  rw [← hCv] at hdue hCb hqe
  have hXb := best_bd hds hB
  have hq1 : q.1 = lowT X Cv := by rw [hqe]
  have hq2 : q.2 = lowB X Cv := by rw [hqe]
  obtain ⟨b1, b2, b3⟩ := hf.bd i q e hq hi
  have hg : gI q.1 q.2 = 1 := by
    rw [hq1, hq2]
    have := low_gcd (t := X) (b := Cv) (by have := hCb.2; omega)
    unfold gI
    rw [this]
    rfl
  have his := is_share_int b1.1 b3 hg
  have c1 : CMulD q.1 Cv := b1.cmul hCb.1
  have c2 : CMulD X q.2 := hXb.cmul b2
  have hx : q.1 * Cv = X * q.2 := by rw [hq1, hq2]; exact low_cross
  have i2 : mIdx (fM fs) (.d (.int (i : Int))) = .ok (.d (pD q)) := mIdx_m (by simp [hq])
  have i7 : mIdx (.d (pD q)) (.d (.int 0)) = .ok (.d (.int q.1)) := rfl
  have i8 : mIdx (.d (pD q)) (.d (.int 1)) = .ok (.d (.int q.2)) := rfl
  refine ⟨some (.d (.int X)), some (.d (.int Cv)), ?_⟩
  unfold fb_law_1
  obtain ⟨A, hA⟩ : ∃ A, A = fM fs := ⟨_, rfl⟩
  rw [← hA] at i2 ⊢
  obtain ⟨E, hE⟩ : ∃ E, E = lE ns ws ds ps rs A (some (.d (.int (i : Int)))) z9 z11 z12 := ⟨_, rfl⟩
  obtain ⟨E1, hE1⟩ : ∃ E1, E1 = lE ns ws ds ps rs A (some (.d (.int (i : Int)))) z9 (some (.d (.int X))) z12 := ⟨_, rfl⟩
  obtain ⟨E2, hE2⟩ : ∃ E2, E2 = lE ns ws ds ps rs A (some (.d (.int (i : Int)))) z9 (some (.d (.int X))) (some (.d (.int Cv))) := ⟨_, rfl⟩
  have n3 : sN 3 E = .ok (.d (psD ps), E) := by rw [hE]; rfl
  have n8 : sN 8 E = .ok (.d (.int (i : Int)), E) := by rw [hE]; rfl
  have n4 : sN 4 E = .ok (.d (.lst (rs.map rwD)), E) := by rw [hE]; rfl
  have n2 : sN 2 E = .ok (.d (dsD ds), E) := by rw [hE]; rfl
  have hcall := sCall_n (bk := [none, none, none, none]) (by decide) (saCons_eq n3 (sa3_eq n8 n4 n2)) hdue
  rw [← hE, ssSeq_nx (asg2 (e1 := E1) (e2 := E2) hcall (by rw [hE, hE1]; rfl) (by rw [hE1, hE2]; rfl))]
  rw [← hE2]
  have m1 : sV (vIx (vN 7) (vN 8)) E2 = .ok (.d (pI q.1 q.2), E2) := by rw [hE2]; simp only [sV, vIx, vN, getE, lE, List.getElem?_cons_succ, List.getElem?_cons_zero, i2]
  have k1 := sbNot_eq (sbE_eq (sCall_n (bk := [none]) (by decide) (sa1_eq m1) his))
  have k2 : sbE (sV (v2 oNe (v2 oMul (vIx (vIx (vN 7) (vN 8)) (vC (.int 0))) (vN 12)) (v2 oMul (vN 11) (vIx (vIx (vN 7) (vN 8)) (vC (.int 1)))))) E2 = .ok (false, E2) := by
    rw [hE2]
    simp only [sbE, sV, v2, vIx, vN, vC, getE, lE, List.getElem?_cons_succ, List.getElem?_cons_zero, i2, i7, i8, oMul_int c1, oMul_int c2, oNe_int, hx]
    simp
  have k3 : sbOr (sbNot (sbE (sCall F__law_is_share [none] (saCons (sV (vIx (vN 7) (vN 8))) (saNil))))) (sbE (sV (v2 oNe (v2 oMul (vIx (vIx (vN 7) (vN 8)) (vC (.int 0))) (vN 12)) (v2 oMul (vN 11) (vIx (vIx (vN 7) (vN 8)) (vC (.int 1))))))) E2 = .ok (false, E2) := by
    simp only [sbOr, k1, Bool.not_true, k2]
  rw [ssIf_f k3]
  rfl
theorem Sm.up : ∀ (n : Nat) (x : D), Sm n x → Sm (n + 1) x
  | 0, _, h => h.elim
  | n + 1, .tup xs, h => ⟨h.1, fun y hy => Sm.up n y (h.2 y hy)⟩
  | n + 1, .lst xs, h => ⟨h.1, fun y hy => Sm.up n y (h.2 y hy)⟩
  | n + 1, .int i, _ => trivial
  | n + 1, .non, _ => trivial
  | n + 1, .str x, h => h
theorem sm_pair (n : Nat) (a b : Int) : Sm (n + 2) (pI a b) := ⟨by simp, fun y hy => by
  simp only [List.mem_cons, List.not_mem_nil, or_false] at hy
  rcases hy with rfl | rfl <;> trivial⟩
theorem sm_ds {ds : Ds} (hds : ∀ d ∈ ds, GDr d) (hl : ds.length ≤ 24) : Sm 58 (dsD ds) := by
  refine ⟨by rw [List.length_map]; omega, fun y hy => ?_⟩
  obtain ⟨d, hd, rfl⟩ := List.mem_map.mp hy
  refine ⟨by have := (hds d hd).len; rw [List.length_map]; omega, fun y hy => ?_⟩
  obtain ⟨p, hp, rfl⟩ := List.mem_map.mp hy
  exact sm_pair 54 _ _
theorem sm_ps {ds : Ds} {ps : List Ent} (hds : ∀ d ∈ ds, GDr d) (c : CK ds ps) (hl : ps.length ≤ 100) (hcl : ∀ e ∈ ps, ∀ s cs, e = .ask s cs → cs.length ≤ 6) : Sm 58 (psD ps) := by
  refine ⟨by rw [List.length_map]; omega, fun y hy => ?_⟩
  obtain ⟨e, he, rfl⟩ := List.mem_map.mp hy
  cases e with
  | leaf x =>
    refine ⟨by simp, fun y hy => ?_⟩
    simp only [List.mem_cons, List.not_mem_nil, or_false] at hy
    rcases hy with rfl | rfl
    · exact ⟨_, lf_sl⟩
    · exact Sm.up 55 _ (Sm.up 54 _ (Sm.up 53 _ (Sm.up 52 _ (Sm.up 51 _ (Sm.up 50 _ (c.lf _ he))))))
  | ask s cs =>
    have := hcl _ he s cs rfl
    refine ⟨by simp, fun y hy => ?_⟩
    simp only [List.mem_cons, List.not_mem_nil, or_false] at hy
    rcases hy with rfl | rfl | rfl
    · exact ⟨_, ak_sl⟩
    · trivial
    · refine ⟨by rw [List.length_map]; omega, fun y hy => ?_⟩
      obtain ⟨c, _, rfl⟩ := List.mem_map.mp hy
      trivial
theorem law_true (ns : List Int) (hn : ns.length ≤ 63) (hz : ∀ z ∈ ns, z.natAbs.log2 < 1048576) : ∃ ms', F_law [.d (.scr (ns.map D.int))] = .ok (.d (.bl true), ms') := by
  obtain ⟨ws, hwl, hw, e1, hwi⟩ := widths_int ns
  obtain ⟨ds, hds, hdw, e2, hdr⟩ := draws_int (ns := ns) hwl.2 hw
  have hdl : ds.length ≤ 24 := by have := congrArg List.length hdw; rw [List.length_map] at this; omega
  obtain ⟨ps, ck, hpl, e3, hli⟩ := lists_int hn hdw hwl hw
  obtain ⟨e4, hro⟩ := rows_int (ws := ws) hwl.2 fun m hm => (hw m hm).2
  obtain ⟨rs, hrs⟩ : ∃ rs, rs = rowsL ws := ⟨_, rfl⟩
  have hr : ∀ r, r ∈ rs ↔ okR ds r := fun r => by rw [hrs, ← hdw]; exact rows_all ds r
  rw [← hrs] at hro
  have hcl : ∀ e ∈ ps, ∀ s cs, e = .ask s cs → cs.length ≤ 6 := fun e he s cs h => by
    obtain ⟨i, hi⟩ := List.mem_iff_getElem?.mp he
    subst h
    rw [ck.cj.al i s cs hi]
    have hs := (ck.cj.gp i _ hi).1
    have hd : ds[s]? = some (ds.getD s []) := by rw [List.getD_eq_getElem?_getD, List.getElem?_eq_getElem hs]; rfl
    exact (hds _ (List.mem_of_getElem? hd)).len
  have hcp := copy_int hpl hcl
  obtain ⟨fs, hf, hfl, hpr⟩ := prices_int hds hdl ck.cj.gp (by omega)
  have sP := sm_ps hds ck hpl hcl
  have sD := sm_ds hds hdl
  obtain ⟨e', hL, z8, z11, z12, _, rfl⟩ := fl_all (g := fg_law_1) (b := fb_law_1) (fun (i : Nat) => D.int (0 + (i : Int)))
    (fun rest env => ∃ (z8 z11 z12 : Option M), (∀ i ∈ rest, i < ps.length) ∧ env = lE ns ws ds ps rs (fM fs) z8 none z11 z12)
    (fun i rest env hI => by
      obtain ⟨z8, z11, z12, hi, rfl⟩ := hI
      obtain ⟨z11', z12', hb⟩ := law_in (z9 := none) (z11 := z11) (z12 := z12) (ns := ns) (ws := ws) hds hdl ck.cj hr hf hfl (List.getElem?_eq_getElem (hi i (by simp)))
      have hz : (0 : Int) + (i : Int) = (i : Int) := Int.zero_add _
      exact ⟨lE ns ws ds ps rs (fM fs) (some (.d (.int (i : Int)))) none z11 z12, _, .nx, by rw [hz]; rfl, hb, .inl rfl, _, _, _, fun x hx => hi x (by simp [hx]), rfl⟩)
    (List.range ps.length) (lE ns ws ds ps rs (fM fs) none none none none) ⟨none, none, none, fun i hi => List.mem_range.mp hi, rfl⟩
  have hkd : (fs.map pD).map M.d = fs.map fun q => M.d (pD q) := by rw [List.map_map]; rfl
  unfold F_law
  refine ⟨_, runF_ret (m := .d (.bl true)) (e := lE ns ws ds ps rs (.lst []) z8 (some (.d (.lst (fs.map pD)))) z11 z12) ?_⟩
  unfold b_law
  show ssSeq _ _ [some (scrM ns), none, none, none, none, none, none, none, none, none, none, none, none] = _
  obtain ⟨S, hS⟩ : ∃ S, S = scrM ns := ⟨_, rfl⟩
  obtain ⟨W, hW⟩ : ∃ W : M, W = .d (wsD ws) := ⟨_, rfl⟩
  obtain ⟨T, hT⟩ : ∃ T : M, T = .d (dsD ds) := ⟨_, rfl⟩
  obtain ⟨Q, hQ⟩ : ∃ Q : M, Q = .d (psD ps) := ⟨_, rfl⟩
  obtain ⟨R, hR⟩ : ∃ R : M, R = .d (.lst (rs.map rwD)) := ⟨_, rfl⟩
  rw [← hS] at hwi hdr hli
  rw [← hW] at hwi hdr hli hro
  have fzT : fz (M.lst (ds.map fun d => .d (drwD d))) = dsD ds := by simp only [fz, fzs_map_d]
  have fzQ : fz (pM ps) = psD ps := by simp only [pM, fz, fzs_map_d]
  -- 1 widths
  rw [← hS]
  have p1 : ssSet 1 (sCall F__law_widths [none] (saCons (sN 0) (saNil))) [some S, none, none, none, none, none, none, none, none, none, none, none, none] = .ok (.nx, [some S, some W, none, none, none, none, none, none, none, none, none, none, none]) := by
    have n0 : sN 0 [some S, none, none, none, none, none, none, none, none, none, none, none, none] = .ok (S, [some S, none, none, none, none, none, none, none, none, none, none, none, none]) := by rw [hS]; rfl
    exact (ssSet_eq (i := 1) (sCall_n (by decide) (sa1_eq n0) hwi) (show (1:Nat) < 13 by decide)).trans rfl
  rw [ssSeq_nx p1]
  obtain ⟨E1, hE1⟩ : ∃ E1 : FL.Env, E1 = [some S, some W, none, none, none, none, none, none, none, none, none, none, none] := ⟨_, rfl⟩
  have a0 : sN 0 E1 = .ok (S, E1) := by rw [hE1, hS]; rfl
  have a1 : sN 1 E1 = .ok (W, E1) := by rw [hE1, hW]; rfl
  have c2 := sFz_eq (sCall_n (bk := [none, none]) (by decide) (sa2_eq a0 a1) hdr)
  rw [fzT, ← hT] at c2
  rw [← hE1, ssSeq_nx (ssSet_eq (i := 2) c2 (by rw [hE1]; show (2:Nat) < 13; decide)), hE1]
  show ssSeq _ _ [some S, some W, some T, none, none, none, none, none, none, none, none, none, none] = _
  obtain ⟨E2, hE2⟩ : ∃ E2 : FL.Env, E2 = [some S, some W, some T, none, none, none, none, none, none, none, none, none, none] := ⟨_, rfl⟩
  have b0 : sN 0 E2 = .ok (S, E2) := by rw [hE2, hS]; rfl
  have b1 : sN 1 E2 = .ok (W, E2) := by rw [hE2, hW]; rfl
  have c3 := sFz_eq (sCall_n (bk := [none, none]) (by decide) (sa2_eq b0 b1) hli)
  rw [fzQ, ← hQ] at c3
  rw [← hE2, ssSeq_nx (ssSet_eq (i := 3) c3 (by rw [hE2]; show (3:Nat) < 13; decide)), hE2]
  show ssSeq _ _ [some S, some W, some T, some Q, none, none, none, none, none, none, none, none, none] = _
  obtain ⟨E3, hE3⟩ : ∃ E3 : FL.Env, E3 = [some S, some W, some T, some Q, none, none, none, none, none, none, none, none, none] := ⟨_, rfl⟩
  have d1 : sN 1 E3 = .ok (W, E3) := by rw [hE3, hW]; rfl
  have c4 := sFz_eq (sCall_n (bk := [none]) (by decide) (sa1_eq d1) hro)
  have c4' : M.d (fz (.d (.lst (rs.map rwD)))) = R := by rw [hR]; rfl
  rw [c4'] at c4
  rw [← hE3, ssSeq_nx (ssSet_eq (i := 4) c4 (by rw [hE3]; show (4:Nat) < 13; decide)), hE3]
  show ssSeq _ _ [some S, some W, some T, some Q, some R, none, none, none, none, none, none, none, none] = _
  obtain ⟨E4, hE4⟩ : ∃ E4 : FL.Env, E4 = [some S, some W, some T, some Q, some R, none, none, none, none, none, none, none, none] := ⟨_, rfl⟩
  have g3 : sN 3 E4 = .ok (Q, E4) := by rw [hE4, hQ]; rfl
  have hcp' : F__law_copy [Q] = .ok (pM ps, [some (.d (.lst (ps.map entD)))]) := by rw [hQ]; exact hcp
  have c5 := sFz_eq (sCall_n (bk := [none]) (by decide) (sa1_eq g3) hcp')
  rw [fzQ, ← hQ] at c5
  rw [← hE4, ssSeq_nx (ssSet_eq (i := 5) c5 (by rw [hE4]; show (5:Nat) < 13; decide)), hE4]
  show ssSeq _ _ [some S, some W, some T, some Q, some R, some Q, none, none, none, none, none, none, none] = _
  obtain ⟨B, hB⟩ : ∃ B : FL.Env, B = [some S, some W, some T, some Q, some R, some Q, none, none, none, none, none, none, none] := ⟨_, rfl⟩
  rw [← hB]
  have hlm := lclw_map (own := [10]) (ws := [2]) (env0 := B) (g := sgN 10) (c := sbYes) (f := sListV (vN 10)) (env := B) drwD (fun d => M.lst (d.map fun p => .d (pI p.1 p.2))) (fun _ _ => rfl) ds [] (fun d hd => by
    rw [hB]
    refine ⟨[some S, some W, some T, some Q, some R, some Q, none, none, none, none, some (.d (drwD d)), none, none], _, [some S, some W, some T, some Q, some R, some Q, none, none, none, none, some (.d (drwD d)), none, none], rfl, rfl, ?_, rfl⟩
    simp only [sListV, vN, getE, List.getElem?_cons_succ, List.getElem?_cons_zero, brw_drw, List.map_map]
    rfl)
  have hk : killAll [10] B = B := by rw [hB]; rfl
  have c6 := sLcW_eq (own := [10]) (ws := [2]) (fi := iwN 2) (env := B) (xs := ds.map drwD) (by rw [hB, hT]; rfl) (by rw [sizeLine_eq, List.length_map]; omega) (by decide) (by rw [hk]; exact hlm)
  obtain ⟨L, hLL⟩ : ∃ L, L = M.lst ([] ++ ds.map fun d => M.lst (d.map fun p => .d (pI p.1 p.2))) := ⟨_, rfl⟩
  have fzL : fz L = dsD ds := by
    rw [hLL]
    simp only [List.nil_append, fz, fzs_map, List.map_map]
    congr 1
    refine List.map_congr_left fun d _ => ?_
    show fz (M.lst (d.map fun p => .d (pI p.1 p.2))) = drwD d
    simp only [fz, fzs_map_d, drwD]
  rw [← hLL] at c6
  rw [ssSeq_nx (ssSet_eq (i := 6) c6 (by rw [hB]; show (6:Nat) < 13; decide)), hB]
  show ssSeq _ _ [some S, some W, some T, some Q, some R, some Q, some L, none, none, none, none, none, none] = _
  -- 7 prices
  have hpr' : F_prices [Q, T] = .ok (fM fs, [some (.d (.lst (ps.map entD))), some (.d (dsD ds))]) := by rw [hQ, hT]; exact hpr
  have p7 : ssSet 7 (sCall F_prices [none, none] (saCons (sN 5) (saCons (sN 6) (saNil)))) [some S, some W, some T, some Q, some R, some Q, some L, none, none, none, none, none, none] = .ok (.nx, [some S, some W, some T, some Q, some R, some Q, some T, some (fM fs), none, none, none, none, none]) := by
    have n5 : sN 5 [some S, some W, some T, some Q, some R, some Q, some L, none, none, none, none, none, none] = .ok (Q, [some S, some W, some T, some Q, some R, some Q, some L, none, none, none, none, none, none]) := by rw [hQ]; rfl
    have n6 : sN 6 [some S, some W, some T, some Q, some R, some Q, some L, none, none, none, none, none, none] = .ok (T, [some S, some W, some T, some Q, some R, some Q, some T, none, none, none, none, none, none]) := by
      have hTL : T = M.d (fz L) := by rw [hT, fzL]
      rw [hTL, hLL]; rfl
    exact (ssSet_eq (i := 7) (sCall_n (bk := [none, none]) (by decide) (sa2_eq n5 n6) hpr') (show (7:Nat) < 13 by decide)).trans rfl
  rw [ssSeq_nx p7]
  have hlE : ∀ (A : M) (z8 z9 z11 z12 : Option M), lE ns ws ds ps rs A z8 z9 z11 z12 = [some S, some W, some T, some Q, some R, some Q, some T, some A, z8, z9, none, z11, z12] := fun A z8 z9 z11 z12 => by rw [hS, hW, hT, hQ, hR]
  rw [← hlE (fM fs) none none none none]
  obtain ⟨F, hF⟩ : ∃ F, F = lE ns ws ds ps rs (fM fs) none none none none := ⟨_, rfl⟩
  have hb3 : bLen [fM fs] = .ok (.int ps.length) := by simp [bLen, fM, M.seq, hfl]
  have hb2 : bLen [.d (psD ps)] = .ok (.int ps.length) := by simp [bLen, M.seq]
  have hty : vIsi "list" (vN 7) F = .ok (.d (.bl true)) := by rw [hF]; rfl
  rw [← hF, ssSeq_nx (e := F) (by
    refine (ssIf_f ?_).trans rfl
    have q1 : sbNot (sbE (sV (vIsi "list" (vN 7)))) F = .ok (false, F) := by
      simp only [sbNot, sbE, sV, hty]
      rfl
    have q2 : sbE (sV (v2 oNe (vB bLen (vaCons (vN 7) (vaNil))) (vB bLen (vaCons (vN 3) (vaNil))))) F = .ok (false, F) := by
      rw [hF]
      simp only [sbE, sV, v2, vB, vaCons, vaNil, vN, getE, lE, List.getElem?_cons_succ, List.getElem?_cons_zero, hb3, hb2, oNe_int]
      simp
    have q3 : sbE (sV (v2 oNe (vN 5) (vN 3))) F = .ok (false, F) := by
      have := sm_ne (m1 := .d (psD ps)) (m2 := .d (psD ps)) sP (by decide) rfl rfl
      rw [hF]
      simp only [sbE, sV, v2, vN, getE, lE, List.getElem?_cons_succ, List.getElem?_cons_zero, this]
    have q4 : sbE (sV (v2 oNe (vN 6) (vN 2))) F = .ok (false, F) := by
      have := sm_ne (m1 := .d (dsD ds)) (m2 := .d (dsD ds)) sD (by decide) rfl rfl
      rw [hF]
      simp only [sbE, sV, v2, vN, getE, lE, List.getElem?_cons_succ, List.getElem?_cons_zero, this]
    simp only [sbOr, q1, q2, q3, q4])]
  have hrg : C62 (ps.length : Int) := ⟨by omega, by omega⟩
  have hr1 : siR1 (saCons (sV (vB bLen (vaCons (vN 3) (vaNil)))) (saNil)) F = .ok ((List.range ps.length).map fun (i : Nat) => D.int (0 + (i : Int)), F) := by
    rw [hF]
    simp only [siR1, saCons, saNil, sV, vB, vaCons, vaNil, vN, getE, lE, List.getElem?_cons_succ, List.getElem?_cons_zero, hb2, if_pos hrg, Int.toNat_natCast]
  rw [← hF] at hL
  rw [ssSeq_nx ((ssFor_eq hr1).trans hL)]
  obtain ⟨A, hA⟩ : ∃ A, A = fM fs := ⟨_, rfl⟩
  rw [← hA]
  have p9 : ssSet 9 (sListV (vN 7)) (lE ns ws ds ps rs A z8 none z11 z12) = .ok (.nx, lE ns ws ds ps rs A z8 (some A) z11 z12) := by
    have hb : brw A = some (false, fs.map pD) := by
      rw [hA]
      show (if (fs.map fun q => M.d (pD q)).all isD = true then some (false, (fs.map fun q => M.d (pD q)).map unD) else none) = _
      rw [if_pos (by simp [isD]), List.map_map]
      rfl
    have hs : sListV (vN 7) (lE ns ws ds ps rs A z8 none z11 z12) = .ok (A, lE ns ws ds ps rs A z8 none z11 z12) := by
      unfold sListV
      simp only [vN, getE, lE, List.getElem?_cons_succ, List.getElem?_cons_zero, hb]
      rw [hkd, hA]
      rfl
    exact (ssSet_eq (i := 9) hs (show (9:Nat) < 13 by decide)).trans rfl
  rw [ssSeq_nx p9]
  have p10 : ssDrop (sMeth isLst 7 mClear saNil) (lE ns ws ds ps rs A z8 (some A) z11 z12) = .ok (.nx, lE ns ws ds ps rs (.lst []) z8 (some A) z11 z12) := by
    have hil : isLst A = true := by rw [hA]; rfl
    have hcl : mClear A [] = .ok (.d .non, .lst []) := by rw [hA]; rfl
    exact (ssDrop_eq (sMeth_eq (m0 := A) (m := A) rfl hil (saNil_eq _) rfl hcl)).trans rfl
  rw [ssSeq_nx p10]
  obtain ⟨Y, hY⟩ : ∃ Y : D, Y = .lst (fs.map pD) := ⟨_, rfl⟩
  have fzA : fz A = Y := by rw [hA, hY]; simp only [fM, fz, fzs_map_d]
  obtain ⟨G, hG⟩ : ∃ G, G = lE ns ws ds ps rs (.lst []) z8 (some A) z11 z12 := ⟨_, rfl⟩
  have n5 : sN 5 G = .ok (Q, G) := by rw [hG, hQ]; rfl
  have n6 : sN 6 G = .ok (T, G) := by rw [hG, hT]; rfl
  have n9 : sN 9 G = .ok (.d Y, lE ns ws ds ps rs (.lst []) z8 (some (.d Y)) z11 z12) := by rw [hG, ← fzA, hA]; rfl
  have cz := sFz_eq (sCall_n (bk := [none, none]) (by decide) (sa2_eq n5 n6) hpr')
  rw [← hA, fzA] at cz
  have hsame : F__law_same 60 [.d Y, .d Y] = .ok (.d (.bl true), [some (.d Y), some (.d Y)]) := by
    refine same_ok 60 Y ?_
    rw [hY]
    refine ⟨by rw [List.length_map]; omega, fun y hy => ?_⟩
    obtain ⟨p, _, rfl⟩ := List.mem_map.mp hy
    exact sm_pair 57 _ _
  rw [← hG, ← hY]
  exact ssRet_eq (sCall_n (bk := [none, none]) (by decide) (sa2_eq cz n9) hsame)

theorem all_mk {l : PySem.W.OpenLaw} {w : World} {K : PySem.W.Frag} {h : Heap} {mg : Str → Option Value} {fa f_law f_divisor f_fraction f_times f_under f_shares_of f_skipped f_own_site f_worths f_prices f__law_cell_at f__law_whole f__law_mix f__law_same f__law_word f__law_outcome f__law_divisor f__law_is_share f__law_widths f__law_draws f__law_site f__law_lists f__law_copy f__law_lead f__law_rows f__law_due C_NoShare : Addr} (X : K.In h) (G0 : h.Ns mainGlobals mg) (hfa : mg "law" = some (.ref fa))
    {od_divisor an_divisor : Option Addr} {sl_divisor : Array (Option Value)} {oc_divisor kV_divisor dc_divisor pm_divisor cd_divisor ct_divisor : Value}
    (a_divisor : PySem.W.nsIn K mainGlobals "divisor" = some (some (.ref f_divisor))) (l_divisor : K.lookup f_divisor = some ⟨oc_divisor, od_divisor, .func (PySem.W.fnOf "divisor" "divisor" (defArgs st_divisor) (defBody st_divisor) (defScope st_divisor) .none kV_divisor dc_divisor pm_divisor an_divisor cd_divisor ct_divisor), sl_divisor⟩) (c_divisor : PySem.W.codeIn K cd_divisor "divisor" = true) (k_divisor : PySem.W.keepIn K (.ref f_divisor) = true)
    {od_fraction an_fraction : Option Addr} {sl_fraction : Array (Option Value)} {oc_fraction kV_fraction dc_fraction pm_fraction cd_fraction ct_fraction : Value}
    (a_fraction : PySem.W.nsIn K mainGlobals "fraction" = some (some (.ref f_fraction))) (l_fraction : K.lookup f_fraction = some ⟨oc_fraction, od_fraction, .func (PySem.W.fnOf "fraction" "fraction" (defArgs st_fraction) (defBody st_fraction) (defScope st_fraction) .none kV_fraction dc_fraction pm_fraction an_fraction cd_fraction ct_fraction), sl_fraction⟩) (c_fraction : PySem.W.codeIn K cd_fraction "fraction" = true) (k_fraction : PySem.W.keepIn K (.ref f_fraction) = true)
    {od_times an_times : Option Addr} {sl_times : Array (Option Value)} {oc_times kV_times dc_times pm_times cd_times ct_times : Value}
    (a_times : PySem.W.nsIn K mainGlobals "times" = some (some (.ref f_times))) (l_times : K.lookup f_times = some ⟨oc_times, od_times, .func (PySem.W.fnOf "times" "times" (defArgs st_times) (defBody st_times) (defScope st_times) .none kV_times dc_times pm_times an_times cd_times ct_times), sl_times⟩) (c_times : PySem.W.codeIn K cd_times "times" = true) (k_times : PySem.W.keepIn K (.ref f_times) = true)
    {od_under an_under : Option Addr} {sl_under : Array (Option Value)} {oc_under kV_under dc_under pm_under cd_under ct_under : Value}
    (a_under : PySem.W.nsIn K mainGlobals "under" = some (some (.ref f_under))) (l_under : K.lookup f_under = some ⟨oc_under, od_under, .func (PySem.W.fnOf "under" "under" (defArgs st_under) (defBody st_under) (defScope st_under) .none kV_under dc_under pm_under an_under cd_under ct_under), sl_under⟩) (c_under : PySem.W.codeIn K cd_under "under" = true) (k_under : PySem.W.keepIn K (.ref f_under) = true)
    {od_shares_of an_shares_of : Option Addr} {sl_shares_of : Array (Option Value)} {oc_shares_of kV_shares_of dc_shares_of pm_shares_of cd_shares_of ct_shares_of : Value}
    (a_shares_of : PySem.W.nsIn K mainGlobals "shares_of" = some (some (.ref f_shares_of))) (l_shares_of : K.lookup f_shares_of = some ⟨oc_shares_of, od_shares_of, .func (PySem.W.fnOf "shares_of" "shares_of" (defArgs st_shares_of) (defBody st_shares_of) (defScope st_shares_of) .none kV_shares_of dc_shares_of pm_shares_of an_shares_of cd_shares_of ct_shares_of), sl_shares_of⟩) (c_shares_of : PySem.W.codeIn K cd_shares_of "shares_of" = true) (k_shares_of : PySem.W.keepIn K (.ref f_shares_of) = true)
    {od_skipped an_skipped : Option Addr} {sl_skipped : Array (Option Value)} {oc_skipped kV_skipped dc_skipped pm_skipped cd_skipped ct_skipped : Value}
    (a_skipped : PySem.W.nsIn K mainGlobals "skipped" = some (some (.ref f_skipped))) (l_skipped : K.lookup f_skipped = some ⟨oc_skipped, od_skipped, .func (PySem.W.fnOf "skipped" "skipped" (defArgs st_skipped) (defBody st_skipped) (defScope st_skipped) .none kV_skipped dc_skipped pm_skipped an_skipped cd_skipped ct_skipped), sl_skipped⟩) (c_skipped : PySem.W.codeIn K cd_skipped "skipped" = true) (k_skipped : PySem.W.keepIn K (.ref f_skipped) = true)
    {od_own_site an_own_site : Option Addr} {sl_own_site : Array (Option Value)} {oc_own_site kV_own_site dc_own_site pm_own_site cd_own_site ct_own_site : Value}
    (a_own_site : PySem.W.nsIn K mainGlobals "own_site" = some (some (.ref f_own_site))) (l_own_site : K.lookup f_own_site = some ⟨oc_own_site, od_own_site, .func (PySem.W.fnOf "own_site" "own_site" (defArgs st_own_site) (defBody st_own_site) (defScope st_own_site) .none kV_own_site dc_own_site pm_own_site an_own_site cd_own_site ct_own_site), sl_own_site⟩) (c_own_site : PySem.W.codeIn K cd_own_site "own_site" = true) (k_own_site : PySem.W.keepIn K (.ref f_own_site) = true)
    {od_worths an_worths : Option Addr} {sl_worths : Array (Option Value)} {oc_worths kV_worths dc_worths pm_worths cd_worths ct_worths : Value}
    (a_worths : PySem.W.nsIn K mainGlobals "worths" = some (some (.ref f_worths))) (l_worths : K.lookup f_worths = some ⟨oc_worths, od_worths, .func (PySem.W.fnOf "worths" "worths" (defArgs st_worths) (defBody st_worths) (defScope st_worths) .none kV_worths dc_worths pm_worths an_worths cd_worths ct_worths), sl_worths⟩) (c_worths : PySem.W.codeIn K cd_worths "worths" = true) (k_worths : PySem.W.keepIn K (.ref f_worths) = true)
    {od_prices an_prices : Option Addr} {sl_prices : Array (Option Value)} {oc_prices kV_prices dc_prices pm_prices cd_prices ct_prices : Value}
    (a_prices : PySem.W.nsIn K mainGlobals "prices" = some (some (.ref f_prices))) (l_prices : K.lookup f_prices = some ⟨oc_prices, od_prices, .func (PySem.W.fnOf "prices" "prices" (defArgs st_prices) (defBody st_prices) (defScope st_prices) .none kV_prices dc_prices pm_prices an_prices cd_prices ct_prices), sl_prices⟩) (c_prices : PySem.W.codeIn K cd_prices "prices" = true) (k_prices : PySem.W.keepIn K (.ref f_prices) = true)
    {od__law_cell_at an__law_cell_at : Option Addr} {sl__law_cell_at : Array (Option Value)} {oc__law_cell_at kV__law_cell_at dc__law_cell_at pm__law_cell_at cd__law_cell_at ct__law_cell_at : Value}
    (a__law_cell_at : PySem.W.nsIn K mainGlobals "_law_cell_at" = some (some (.ref f__law_cell_at))) (l__law_cell_at : K.lookup f__law_cell_at = some ⟨oc__law_cell_at, od__law_cell_at, .func (PySem.W.fnOf "_law_cell_at" "_law_cell_at" (defArgs st__law_cell_at) (defBody st__law_cell_at) (defScope st__law_cell_at) .none kV__law_cell_at dc__law_cell_at pm__law_cell_at an__law_cell_at cd__law_cell_at ct__law_cell_at), sl__law_cell_at⟩) (c__law_cell_at : PySem.W.codeIn K cd__law_cell_at "_law_cell_at" = true) (k__law_cell_at : PySem.W.keepIn K (.ref f__law_cell_at) = true)
    {od__law_whole an__law_whole : Option Addr} {sl__law_whole : Array (Option Value)} {oc__law_whole kV__law_whole dc__law_whole pm__law_whole cd__law_whole ct__law_whole : Value}
    (a__law_whole : PySem.W.nsIn K mainGlobals "_law_whole" = some (some (.ref f__law_whole))) (l__law_whole : K.lookup f__law_whole = some ⟨oc__law_whole, od__law_whole, .func (PySem.W.fnOf "_law_whole" "_law_whole" (defArgs st__law_whole) (defBody st__law_whole) (defScope st__law_whole) .none kV__law_whole dc__law_whole pm__law_whole an__law_whole cd__law_whole ct__law_whole), sl__law_whole⟩) (c__law_whole : PySem.W.codeIn K cd__law_whole "_law_whole" = true) (k__law_whole : PySem.W.keepIn K (.ref f__law_whole) = true)
    {od__law_mix an__law_mix : Option Addr} {sl__law_mix : Array (Option Value)} {oc__law_mix kV__law_mix dc__law_mix pm__law_mix cd__law_mix ct__law_mix : Value}
    (a__law_mix : PySem.W.nsIn K mainGlobals "_law_mix" = some (some (.ref f__law_mix))) (l__law_mix : K.lookup f__law_mix = some ⟨oc__law_mix, od__law_mix, .func (PySem.W.fnOf "_law_mix" "_law_mix" (defArgs st__law_mix) (defBody st__law_mix) (defScope st__law_mix) .none kV__law_mix dc__law_mix pm__law_mix an__law_mix cd__law_mix ct__law_mix), sl__law_mix⟩) (c__law_mix : PySem.W.codeIn K cd__law_mix "_law_mix" = true) (k__law_mix : PySem.W.keepIn K (.ref f__law_mix) = true)
    {od__law_same an__law_same : Option Addr} {sl__law_same : Array (Option Value)} {oc__law_same kV__law_same dc__law_same pm__law_same cd__law_same ct__law_same : Value}
    (a__law_same : PySem.W.nsIn K mainGlobals "_law_same" = some (some (.ref f__law_same))) (l__law_same : K.lookup f__law_same = some ⟨oc__law_same, od__law_same, .func (PySem.W.fnOf "_law_same" "_law_same" (defArgs st__law_same) (defBody st__law_same) (defScope st__law_same) .none kV__law_same dc__law_same pm__law_same an__law_same cd__law_same ct__law_same), sl__law_same⟩) (c__law_same : PySem.W.codeIn K cd__law_same "_law_same" = true) (k__law_same : PySem.W.keepIn K (.ref f__law_same) = true)
    {od__law_word an__law_word : Option Addr} {sl__law_word : Array (Option Value)} {oc__law_word kV__law_word dc__law_word pm__law_word cd__law_word ct__law_word : Value}
    (a__law_word : PySem.W.nsIn K mainGlobals "_law_word" = some (some (.ref f__law_word))) (l__law_word : K.lookup f__law_word = some ⟨oc__law_word, od__law_word, .func (PySem.W.fnOf "_law_word" "_law_word" (defArgs st__law_word) (defBody st__law_word) (defScope st__law_word) .none kV__law_word dc__law_word pm__law_word an__law_word cd__law_word ct__law_word), sl__law_word⟩) (c__law_word : PySem.W.codeIn K cd__law_word "_law_word" = true) (k__law_word : PySem.W.keepIn K (.ref f__law_word) = true)
    {od__law_outcome an__law_outcome : Option Addr} {sl__law_outcome : Array (Option Value)} {oc__law_outcome kV__law_outcome dc__law_outcome pm__law_outcome cd__law_outcome ct__law_outcome : Value}
    (a__law_outcome : PySem.W.nsIn K mainGlobals "_law_outcome" = some (some (.ref f__law_outcome))) (l__law_outcome : K.lookup f__law_outcome = some ⟨oc__law_outcome, od__law_outcome, .func (PySem.W.fnOf "_law_outcome" "_law_outcome" (defArgs st__law_outcome) (defBody st__law_outcome) (defScope st__law_outcome) .none kV__law_outcome dc__law_outcome pm__law_outcome an__law_outcome cd__law_outcome ct__law_outcome), sl__law_outcome⟩) (c__law_outcome : PySem.W.codeIn K cd__law_outcome "_law_outcome" = true) (k__law_outcome : PySem.W.keepIn K (.ref f__law_outcome) = true)
    {od__law_divisor an__law_divisor : Option Addr} {sl__law_divisor : Array (Option Value)} {oc__law_divisor kV__law_divisor dc__law_divisor pm__law_divisor cd__law_divisor ct__law_divisor : Value}
    (a__law_divisor : PySem.W.nsIn K mainGlobals "_law_divisor" = some (some (.ref f__law_divisor))) (l__law_divisor : K.lookup f__law_divisor = some ⟨oc__law_divisor, od__law_divisor, .func (PySem.W.fnOf "_law_divisor" "_law_divisor" (defArgs st__law_divisor) (defBody st__law_divisor) (defScope st__law_divisor) .none kV__law_divisor dc__law_divisor pm__law_divisor an__law_divisor cd__law_divisor ct__law_divisor), sl__law_divisor⟩) (c__law_divisor : PySem.W.codeIn K cd__law_divisor "_law_divisor" = true) (k__law_divisor : PySem.W.keepIn K (.ref f__law_divisor) = true)
    {od__law_is_share an__law_is_share : Option Addr} {sl__law_is_share : Array (Option Value)} {oc__law_is_share kV__law_is_share dc__law_is_share pm__law_is_share cd__law_is_share ct__law_is_share : Value}
    (a__law_is_share : PySem.W.nsIn K mainGlobals "_law_is_share" = some (some (.ref f__law_is_share))) (l__law_is_share : K.lookup f__law_is_share = some ⟨oc__law_is_share, od__law_is_share, .func (PySem.W.fnOf "_law_is_share" "_law_is_share" (defArgs st__law_is_share) (defBody st__law_is_share) (defScope st__law_is_share) .none kV__law_is_share dc__law_is_share pm__law_is_share an__law_is_share cd__law_is_share ct__law_is_share), sl__law_is_share⟩) (c__law_is_share : PySem.W.codeIn K cd__law_is_share "_law_is_share" = true) (k__law_is_share : PySem.W.keepIn K (.ref f__law_is_share) = true)
    {od__law_widths an__law_widths : Option Addr} {sl__law_widths : Array (Option Value)} {oc__law_widths kV__law_widths dc__law_widths pm__law_widths cd__law_widths ct__law_widths : Value}
    (a__law_widths : PySem.W.nsIn K mainGlobals "_law_widths" = some (some (.ref f__law_widths))) (l__law_widths : K.lookup f__law_widths = some ⟨oc__law_widths, od__law_widths, .func (PySem.W.fnOf "_law_widths" "_law_widths" (defArgs st__law_widths) (defBody st__law_widths) (defScope st__law_widths) .none kV__law_widths dc__law_widths pm__law_widths an__law_widths cd__law_widths ct__law_widths), sl__law_widths⟩) (c__law_widths : PySem.W.codeIn K cd__law_widths "_law_widths" = true) (k__law_widths : PySem.W.keepIn K (.ref f__law_widths) = true)
    {od__law_draws an__law_draws : Option Addr} {sl__law_draws : Array (Option Value)} {oc__law_draws kV__law_draws dc__law_draws pm__law_draws cd__law_draws ct__law_draws : Value}
    (a__law_draws : PySem.W.nsIn K mainGlobals "_law_draws" = some (some (.ref f__law_draws))) (l__law_draws : K.lookup f__law_draws = some ⟨oc__law_draws, od__law_draws, .func (PySem.W.fnOf "_law_draws" "_law_draws" (defArgs st__law_draws) (defBody st__law_draws) (defScope st__law_draws) .none kV__law_draws dc__law_draws pm__law_draws an__law_draws cd__law_draws ct__law_draws), sl__law_draws⟩) (c__law_draws : PySem.W.codeIn K cd__law_draws "_law_draws" = true) (k__law_draws : PySem.W.keepIn K (.ref f__law_draws) = true)
    {od__law_site an__law_site : Option Addr} {sl__law_site : Array (Option Value)} {oc__law_site kV__law_site dc__law_site pm__law_site cd__law_site ct__law_site : Value}
    (a__law_site : PySem.W.nsIn K mainGlobals "_law_site" = some (some (.ref f__law_site))) (l__law_site : K.lookup f__law_site = some ⟨oc__law_site, od__law_site, .func (PySem.W.fnOf "_law_site" "_law_site" (defArgs st__law_site) (defBody st__law_site) (defScope st__law_site) .none kV__law_site dc__law_site pm__law_site an__law_site cd__law_site ct__law_site), sl__law_site⟩) (c__law_site : PySem.W.codeIn K cd__law_site "_law_site" = true) (k__law_site : PySem.W.keepIn K (.ref f__law_site) = true)
    {od__law_lists an__law_lists : Option Addr} {sl__law_lists : Array (Option Value)} {oc__law_lists kV__law_lists dc__law_lists pm__law_lists cd__law_lists ct__law_lists : Value}
    (a__law_lists : PySem.W.nsIn K mainGlobals "_law_lists" = some (some (.ref f__law_lists))) (l__law_lists : K.lookup f__law_lists = some ⟨oc__law_lists, od__law_lists, .func (PySem.W.fnOf "_law_lists" "_law_lists" (defArgs st__law_lists) (defBody st__law_lists) (defScope st__law_lists) .none kV__law_lists dc__law_lists pm__law_lists an__law_lists cd__law_lists ct__law_lists), sl__law_lists⟩) (c__law_lists : PySem.W.codeIn K cd__law_lists "_law_lists" = true) (k__law_lists : PySem.W.keepIn K (.ref f__law_lists) = true)
    {od__law_copy an__law_copy : Option Addr} {sl__law_copy : Array (Option Value)} {oc__law_copy kV__law_copy dc__law_copy pm__law_copy cd__law_copy ct__law_copy : Value}
    (a__law_copy : PySem.W.nsIn K mainGlobals "_law_copy" = some (some (.ref f__law_copy))) (l__law_copy : K.lookup f__law_copy = some ⟨oc__law_copy, od__law_copy, .func (PySem.W.fnOf "_law_copy" "_law_copy" (defArgs st__law_copy) (defBody st__law_copy) (defScope st__law_copy) .none kV__law_copy dc__law_copy pm__law_copy an__law_copy cd__law_copy ct__law_copy), sl__law_copy⟩) (c__law_copy : PySem.W.codeIn K cd__law_copy "_law_copy" = true) (k__law_copy : PySem.W.keepIn K (.ref f__law_copy) = true)
    {od__law_lead an__law_lead : Option Addr} {sl__law_lead : Array (Option Value)} {oc__law_lead kV__law_lead dc__law_lead pm__law_lead cd__law_lead ct__law_lead : Value}
    (a__law_lead : PySem.W.nsIn K mainGlobals "_law_lead" = some (some (.ref f__law_lead))) (l__law_lead : K.lookup f__law_lead = some ⟨oc__law_lead, od__law_lead, .func (PySem.W.fnOf "_law_lead" "_law_lead" (defArgs st__law_lead) (defBody st__law_lead) (defScope st__law_lead) .none kV__law_lead dc__law_lead pm__law_lead an__law_lead cd__law_lead ct__law_lead), sl__law_lead⟩) (c__law_lead : PySem.W.codeIn K cd__law_lead "_law_lead" = true) (k__law_lead : PySem.W.keepIn K (.ref f__law_lead) = true)
    {od__law_rows an__law_rows : Option Addr} {sl__law_rows : Array (Option Value)} {oc__law_rows kV__law_rows dc__law_rows pm__law_rows cd__law_rows ct__law_rows : Value}
    (a__law_rows : PySem.W.nsIn K mainGlobals "_law_rows" = some (some (.ref f__law_rows))) (l__law_rows : K.lookup f__law_rows = some ⟨oc__law_rows, od__law_rows, .func (PySem.W.fnOf "_law_rows" "_law_rows" (defArgs st__law_rows) (defBody st__law_rows) (defScope st__law_rows) .none kV__law_rows dc__law_rows pm__law_rows an__law_rows cd__law_rows ct__law_rows), sl__law_rows⟩) (c__law_rows : PySem.W.codeIn K cd__law_rows "_law_rows" = true) (k__law_rows : PySem.W.keepIn K (.ref f__law_rows) = true)
    {od__law_due an__law_due : Option Addr} {sl__law_due : Array (Option Value)} {oc__law_due kV__law_due dc__law_due pm__law_due cd__law_due ct__law_due : Value}
    (a__law_due : PySem.W.nsIn K mainGlobals "_law_due" = some (some (.ref f__law_due))) (l__law_due : K.lookup f__law_due = some ⟨oc__law_due, od__law_due, .func (PySem.W.fnOf "_law_due" "_law_due" (defArgs st__law_due) (defBody st__law_due) (defScope st__law_due) .none kV__law_due dc__law_due pm__law_due an__law_due cd__law_due ct__law_due), sl__law_due⟩) (c__law_due : PySem.W.codeIn K cd__law_due "_law_due" = true) (k__law_due : PySem.W.keepIn K (.ref f__law_due) = true)
    {od_law an_law : Option Addr} {sl_law : Array (Option Value)} {oc_law kV_law dc_law pm_law cd_law ct_law : Value}
    (a_law : PySem.W.nsIn K mainGlobals "law" = some (some (.ref f_law))) (l_law : K.lookup f_law = some ⟨oc_law, od_law, .func (PySem.W.fnOf "law" "law" (defArgs st_law) (defBody st_law) (defScope st_law) .none kV_law dc_law pm_law an_law cd_law ct_law), sl_law⟩) (c_law : PySem.W.codeIn K cd_law "law" = true) (k_law : PySem.W.keepIn K (.ref f_law) = true)
    (z_abs : PySem.W.nsIn K mainGlobals "abs" = some none)
    (z_bool : PySem.W.nsIn K mainGlobals "bool" = some none)
    (z_int : PySem.W.nsIn K mainGlobals "int" = some none)
    (z_isinstance : PySem.W.nsIn K mainGlobals "isinstance" = some none)
    (z_len : PySem.W.nsIn K mainGlobals "len" = some none)
    (z_list : PySem.W.nsIn K mainGlobals "list" = some none)
    (z_max : PySem.W.nsIn K mainGlobals "max" = some none)
    (z_min : PySem.W.nsIn K mainGlobals "min" = some none)
    (z_range : PySem.W.nsIn K mainGlobals "range" = some none)
    (z_sorted : PySem.W.nsIn K mainGlobals "sorted" = some none)
    (z_str : PySem.W.nsIn K mainGlobals "str" = some none)
    (z_sum : PySem.W.nsIn K mainGlobals "sum" = some none)
    (z_tuple : PySem.W.nsIn K mainGlobals "tuple" = some none)
    (z_zip : PySem.W.nsIn K mainGlobals "zip" = some none)
    (g_NoShare : PySem.W.nsIn K mainGlobals "NoShare" = some (some (.ref C_NoShare)))
    (x_NoShare : PySem.W.excIn K C_NoShare [.type "ValueError", .type "Exception", .type "BaseException", .type "object"] "ValueError.__new__" = true) (kk_NoShare : PySem.W.keepIn K (.ref C_NoShare) = true) (b_NoShare : PySem.W.subIn K (.ref C_NoShare) (.type "BaseException") = some true) (t_NoShare : PySem.W.typeIn K (.ref C_NoShare) = some (.type "type"))
    (hlaw : ∀ ns : List Int, ns.length ≤ 63 → (∀ z ∈ ns, z.natAbs.log2 < 1048576) → ∃ ms', F_law [.d (.scr (ns.map D.int))] = .ok (.d (.bl true), ms')) :
    ∃ (G : Gx) (fd : FuncData) (F : FS), G.K.In h ∧ (∀ (s : Shared) (u : Value), BindsTo s fd ⟨[u], []⟩ [("_law_script", u)]) ∧
        (∀ ns : List Int, ns.length ≤ 63 → (∀ z ∈ ns, z.natAbs.log2 < 1048576) → ∃ ms', F [.d (.scr (ns.map D.int))] = .ok (.d (.bl true), ms')) ∧
        ∀ base : Heap, G.K.In base → base.Ns mainGlobals mg → FnOk l.prog w G.K mg base (L2.CX l.prog w) 62 fa fd ["_law_script"] (spF G 1 F) := by
  have e := hfa.symm.trans (PySem.W.mg_of X G0 a_law)
  cases e
  let G : Gx := ⟨K, fun s => if s = "NoShare" then C_NoShare else fa, w⟩
  have q_NoShare : G.ad "NoShare" = C_NoShare := by simp [G]
  have T : Tx G mg := ⟨PySem.W.mg_none_of X G0 z_len, PySem.W.mg_none_of X G0 z_abs, PySem.W.mg_none_of X G0 z_bool, PySem.W.mg_none_of X G0 z_int, PySem.W.mg_none_of X G0 z_isinstance, PySem.W.mg_none_of X G0 z_list, PySem.W.mg_none_of X G0 z_max, PySem.W.mg_none_of X G0 z_min, PySem.W.mg_none_of X G0 z_range, PySem.W.mg_none_of X G0 z_sorted, PySem.W.mg_none_of X G0 z_str, PySem.W.mg_none_of X G0 z_sum, PySem.W.mg_none_of X G0 z_tuple, PySem.W.mg_none_of X G0 z_zip, ⟨by rw [q_NoShare]; exact PySem.W.mg_of X G0 g_NoShare, by rw [q_NoShare]; exact x_NoShare, by rw [q_NoShare]; exact kk_NoShare, by rw [q_NoShare]; exact b_NoShare, by rw [q_NoShare]; exact t_NoShare⟩⟩
  have F_divisor_ : Fun G.K "divisor" "divisor" st_divisor f_divisor _ := fun_mk (st := st_divisor) l_divisor c_divisor k_divisor
  have F_fraction_ : Fun G.K "fraction" "fraction" st_fraction f_fraction _ := fun_mk (st := st_fraction) l_fraction c_fraction k_fraction
  have F_times_ : Fun G.K "times" "times" st_times f_times _ := fun_mk (st := st_times) l_times c_times k_times
  have F_under_ : Fun G.K "under" "under" st_under f_under _ := fun_mk (st := st_under) l_under c_under k_under
  have F_shares_of_ : Fun G.K "shares_of" "shares_of" st_shares_of f_shares_of _ := fun_mk (st := st_shares_of) l_shares_of c_shares_of k_shares_of
  have F_skipped_ : Fun G.K "skipped" "skipped" st_skipped f_skipped _ := fun_mk (st := st_skipped) l_skipped c_skipped k_skipped
  have F_own_site_ : Fun G.K "own_site" "own_site" st_own_site f_own_site _ := fun_mk (st := st_own_site) l_own_site c_own_site k_own_site
  have F_worths_ : Fun G.K "worths" "worths" st_worths f_worths _ := fun_mk (st := st_worths) l_worths c_worths k_worths
  have F_prices_ : Fun G.K "prices" "prices" st_prices f_prices _ := fun_mk (st := st_prices) l_prices c_prices k_prices
  have F__law_cell_at_ : Fun G.K "_law_cell_at" "_law_cell_at" st__law_cell_at f__law_cell_at _ := fun_mk (st := st__law_cell_at) l__law_cell_at c__law_cell_at k__law_cell_at
  have F__law_whole_ : Fun G.K "_law_whole" "_law_whole" st__law_whole f__law_whole _ := fun_mk (st := st__law_whole) l__law_whole c__law_whole k__law_whole
  have F__law_mix_ : Fun G.K "_law_mix" "_law_mix" st__law_mix f__law_mix _ := fun_mk (st := st__law_mix) l__law_mix c__law_mix k__law_mix
  have F__law_same_ : Fun G.K "_law_same" "_law_same" st__law_same f__law_same _ := fun_mk (st := st__law_same) l__law_same c__law_same k__law_same
  have F__law_word_ : Fun G.K "_law_word" "_law_word" st__law_word f__law_word _ := fun_mk (st := st__law_word) l__law_word c__law_word k__law_word
  have F__law_outcome_ : Fun G.K "_law_outcome" "_law_outcome" st__law_outcome f__law_outcome _ := fun_mk (st := st__law_outcome) l__law_outcome c__law_outcome k__law_outcome
  have F__law_divisor_ : Fun G.K "_law_divisor" "_law_divisor" st__law_divisor f__law_divisor _ := fun_mk (st := st__law_divisor) l__law_divisor c__law_divisor k__law_divisor
  have F__law_is_share_ : Fun G.K "_law_is_share" "_law_is_share" st__law_is_share f__law_is_share _ := fun_mk (st := st__law_is_share) l__law_is_share c__law_is_share k__law_is_share
  have F__law_widths_ : Fun G.K "_law_widths" "_law_widths" st__law_widths f__law_widths _ := fun_mk (st := st__law_widths) l__law_widths c__law_widths k__law_widths
  have F__law_draws_ : Fun G.K "_law_draws" "_law_draws" st__law_draws f__law_draws _ := fun_mk (st := st__law_draws) l__law_draws c__law_draws k__law_draws
  have F__law_site_ : Fun G.K "_law_site" "_law_site" st__law_site f__law_site _ := fun_mk (st := st__law_site) l__law_site c__law_site k__law_site
  have F__law_lists_ : Fun G.K "_law_lists" "_law_lists" st__law_lists f__law_lists _ := fun_mk (st := st__law_lists) l__law_lists c__law_lists k__law_lists
  have F__law_copy_ : Fun G.K "_law_copy" "_law_copy" st__law_copy f__law_copy _ := fun_mk (st := st__law_copy) l__law_copy c__law_copy k__law_copy
  have F__law_lead_ : Fun G.K "_law_lead" "_law_lead" st__law_lead f__law_lead _ := fun_mk (st := st__law_lead) l__law_lead c__law_lead k__law_lead
  have F__law_rows_ : Fun G.K "_law_rows" "_law_rows" st__law_rows f__law_rows _ := fun_mk (st := st__law_rows) l__law_rows c__law_rows k__law_rows
  have F__law_due_ : Fun G.K "_law_due" "_law_due" st__law_due f__law_due _ := fun_mk (st := st__law_due) l__law_due c__law_due k__law_due
  have F_law_ : Fun G.K "law" "law" st_law fa _ := fun_mk (st := st_law) l_law c_law k_law
  refine ⟨G, PySem.W.fnOf "law" "law" (defArgs st_law) (defBody st_law) (defScope st_law) .none kV_law dc_law pm_law an_law cd_law ct_law, F_law, X, fun s v => .of_eq rfl, hlaw, fun base _ _ => ?_⟩
  have h_divisor := K43.a_divisor (P := l.prog) (base := base) T F_divisor_ (PySem.W.mg_of X G0 a_divisor)
  have h_fraction := K43.a_fraction (P := l.prog) (base := base) T h_divisor F_fraction_ (PySem.W.mg_of X G0 a_fraction)
  have h_times := K43.a_times (P := l.prog) (base := base) T h_fraction F_times_ (PySem.W.mg_of X G0 a_times)
  have h_under := K43.a_under (P := l.prog) (base := base) T F_under_ (PySem.W.mg_of X G0 a_under)
  have h_shares_of := K43.a_shares_of (P := l.prog) (base := base) T h_fraction F_shares_of_ (PySem.W.mg_of X G0 a_shares_of)
  have h_skipped := K43.a_skipped (P := l.prog) (base := base) T h_fraction F_skipped_ (PySem.W.mg_of X G0 a_skipped)
  have h_own_site := K43.a_own_site (P := l.prog) (base := base) T F_own_site_ (PySem.W.mg_of X G0 a_own_site)
  have h_worths := K43.a_worths (P := l.prog) (base := base) T h_own_site h_shares_of h_skipped h_times F_worths_ (PySem.W.mg_of X G0 a_worths)
  have h_prices := K43.a_prices (P := l.prog) (base := base) T h_under h_worths F_prices_ (PySem.W.mg_of X G0 a_prices)
  have h__law_cell_at := K43.a__law_cell_at (P := l.prog) (base := base) T F__law_cell_at_ (PySem.W.mg_of X G0 a__law_cell_at)
  have h__law_whole := K43.a__law_whole (P := l.prog) (base := base) T F__law_whole_ (PySem.W.mg_of X G0 a__law_whole)
  have h__law_mix := K43.a__law_mix (P := l.prog) (base := base) T F__law_mix_ (PySem.W.mg_of X G0 a__law_mix)
  have h__law_same : FnA l.prog w G mg base 61 "_law_same" 2 (F__law_same 60) := K43.a__law_same (P := l.prog) (base := base) T h__law_whole F__law_same_ (PySem.W.mg_of X G0 a__law_same) 60
  have h__law_word := K43.a__law_word (P := l.prog) (base := base) T F__law_word_ (PySem.W.mg_of X G0 a__law_word)
  have h__law_outcome := K43.a__law_outcome (P := l.prog) (base := base) T h__law_mix h__law_word F__law_outcome_ (PySem.W.mg_of X G0 a__law_outcome)
  have h__law_divisor := K43.a__law_divisor (P := l.prog) (base := base) T F__law_divisor_ (PySem.W.mg_of X G0 a__law_divisor)
  have h__law_is_share := K43.a__law_is_share (P := l.prog) (base := base) T h__law_divisor h__law_whole F__law_is_share_ (PySem.W.mg_of X G0 a__law_is_share)
  have h__law_widths := K43.a__law_widths (P := l.prog) (base := base) T h__law_cell_at h__law_mix F__law_widths_ (PySem.W.mg_of X G0 a__law_widths)
  have h__law_draws := K43.a__law_draws (P := l.prog) (base := base) T h__law_cell_at h__law_mix F__law_draws_ (PySem.W.mg_of X G0 a__law_draws)
  have h__law_site := K43.a__law_site (P := l.prog) (base := base) T F__law_site_ (PySem.W.mg_of X G0 a__law_site)
  have h__law_lists := K43.a__law_lists (P := l.prog) (base := base) T h__law_mix h__law_outcome h__law_site F__law_lists_ (PySem.W.mg_of X G0 a__law_lists)
  have h__law_copy := K43.a__law_copy (P := l.prog) (base := base) T F__law_copy_ (PySem.W.mg_of X G0 a__law_copy)
  have h__law_lead := K43.a__law_lead (P := l.prog) (base := base) T F__law_lead_ (PySem.W.mg_of X G0 a__law_lead)
  have h__law_rows := K43.a__law_rows (P := l.prog) (base := base) T F__law_rows_ (PySem.W.mg_of X G0 a__law_rows)
  have h__law_due := K43.a__law_due (P := l.prog) (base := base) T h__law_lead h__law_site F__law_due_ (PySem.W.mg_of X G0 a__law_due)
  exact K43.a_law T h__law_copy h__law_draws h__law_due h__law_is_share h__law_lists h__law_rows h__law_same h__law_widths h_prices F_law_
theorem walk {l : PySem.W.OpenLaw} {q : Program} {loose : List Str} {XP : (Str → Option Value) → Heap → Prop} {YP : World → Heap → Prop} {d : DefRec} (hn : l.most = some 63) (hdf : d.params.defaults = [])
    (F : ∀ (w : World) (mg : Str → Option Value) (fa : Addr) (h : Heap), YP w h → h.Ns mainGlobals mg → mg d.name = some (.ref fa) →
      ∃ (G : Gx) (fd : FuncData) (F : FS), G.K.In h ∧ (∀ (s : Shared) (u : Value), BindsTo s fd ⟨[u], []⟩ [("_law_script", u)]) ∧
        (∀ ns : List Int, ns.length ≤ 63 → (∀ z ∈ ns, z.natAbs.log2 < 1048576) → ∃ ms', F [.d (.scr (ns.map D.int))] = .ok (.d (.bl true), ms')) ∧
        ∀ base : Heap, G.K.In base → base.Ns mainGlobals mg → FnOk l.prog w G.K mg base (L2.CX l.prog w) 62 fa fd ["_law_script"] (spF G 1 F)) :
    PySem.W.WalkO q loose XP YP l.row.toRowW d [] (fun f vs => PySem.call f vs) := FL.walk (x := "_law_script") (k := 62) hn hdf ⟨rfl, by decide, by decide⟩ F
end K43
open PySem PySem.W PyProof.Rows
set_option maxRecDepth 100000 in
set_option maxHeartbeats 0 in
theorem PySem.Challenge.cw_flipwright_k43_prices_by_rows_holds : PySem.Challenge.rw_flipwright_k43_prices_by_rows.Holds := by
  w_on; o_law; k_head; (case hw => w_witness2)
  k_fill
  refine K43.walk (l := PySem.Challenge.rw_flipwright_k43_prices_by_rows) rfl rfl ?F
  case F =>
    intro w mg fa h Y G hmg
    refine' K43.all_mk (PySem.W.kIn_of Y) G hmg ?a_divisor ?l_divisor ?c_divisor ?k_divisor ?a_fraction ?l_fraction ?c_fraction ?k_fraction ?a_times ?l_times ?c_times ?k_times ?a_under ?l_under ?c_under ?k_under ?a_shares_of ?l_shares_of ?c_shares_of ?k_shares_of ?a_skipped ?l_skipped ?c_skipped ?k_skipped ?a_own_site ?l_own_site ?c_own_site ?k_own_site ?a_worths ?l_worths ?c_worths ?k_worths ?a_prices ?l_prices ?c_prices ?k_prices ?a__law_cell_at ?l__law_cell_at ?c__law_cell_at ?k__law_cell_at ?a__law_whole ?l__law_whole ?c__law_whole ?k__law_whole ?a__law_mix ?l__law_mix ?c__law_mix ?k__law_mix ?a__law_same ?l__law_same ?c__law_same ?k__law_same ?a__law_word ?l__law_word ?c__law_word ?k__law_word ?a__law_outcome ?l__law_outcome ?c__law_outcome ?k__law_outcome ?a__law_divisor ?l__law_divisor ?c__law_divisor ?k__law_divisor ?a__law_is_share ?l__law_is_share ?c__law_is_share ?k__law_is_share ?a__law_widths ?l__law_widths ?c__law_widths ?k__law_widths ?a__law_draws ?l__law_draws ?c__law_draws ?k__law_draws ?a__law_site ?l__law_site ?c__law_site ?k__law_site ?a__law_lists ?l__law_lists ?c__law_lists ?k__law_lists ?a__law_copy ?l__law_copy ?c__law_copy ?k__law_copy ?a__law_lead ?l__law_lead ?c__law_lead ?k__law_lead ?a__law_rows ?l__law_rows ?c__law_rows ?k__law_rows ?a__law_due ?l__law_due ?c__law_due ?k__law_due ?a_law ?l_law ?c_law ?k_law ?z_abs ?z_bool ?z_int ?z_isinstance ?z_len ?z_list ?z_max ?z_min ?z_range ?z_sorted ?z_str ?z_sum ?z_tuple ?z_zip ?g_NoShare ?x_NoShare ?kk_NoShare ?b_NoShare ?t_NoShare K43.law_true
    (case a_divisor => k_is); (case l_divisor => k_is); (case c_divisor => k_is); (case k_divisor => k_is)
    (case a_fraction => k_is); (case l_fraction => k_is); (case c_fraction => k_is); (case k_fraction => k_is)
    (case a_times => k_is); (case l_times => k_is); (case c_times => k_is); (case k_times => k_is)
    (case a_under => k_is); (case l_under => k_is); (case c_under => k_is); (case k_under => k_is)
    (case a_shares_of => k_is); (case l_shares_of => k_is); (case c_shares_of => k_is); (case k_shares_of => k_is)
    (case a_skipped => k_is); (case l_skipped => k_is); (case c_skipped => k_is); (case k_skipped => k_is)
    (case a_own_site => k_is); (case l_own_site => k_is); (case c_own_site => k_is); (case k_own_site => k_is)
    (case a_worths => k_is); (case l_worths => k_is); (case c_worths => k_is); (case k_worths => k_is)
    (case a_prices => k_is); (case l_prices => k_is); (case c_prices => k_is); (case k_prices => k_is)
    (case a__law_cell_at => k_is); (case l__law_cell_at => k_is); (case c__law_cell_at => k_is); (case k__law_cell_at => k_is)
    (case a__law_whole => k_is); (case l__law_whole => k_is); (case c__law_whole => k_is); (case k__law_whole => k_is)
    (case a__law_mix => k_is); (case l__law_mix => k_is); (case c__law_mix => k_is); (case k__law_mix => k_is)
    (case a__law_same => k_is); (case l__law_same => k_is); (case c__law_same => k_is); (case k__law_same => k_is)
    (case a__law_word => k_is); (case l__law_word => k_is); (case c__law_word => k_is); (case k__law_word => k_is)
    (case a__law_outcome => k_is); (case l__law_outcome => k_is); (case c__law_outcome => k_is); (case k__law_outcome => k_is)
    (case a__law_divisor => k_is); (case l__law_divisor => k_is); (case c__law_divisor => k_is); (case k__law_divisor => k_is)
    (case a__law_is_share => k_is); (case l__law_is_share => k_is); (case c__law_is_share => k_is); (case k__law_is_share => k_is)
    (case a__law_widths => k_is); (case l__law_widths => k_is); (case c__law_widths => k_is); (case k__law_widths => k_is)
    (case a__law_draws => k_is); (case l__law_draws => k_is); (case c__law_draws => k_is); (case k__law_draws => k_is)
    (case a__law_site => k_is); (case l__law_site => k_is); (case c__law_site => k_is); (case k__law_site => k_is)
    (case a__law_lists => k_is); (case l__law_lists => k_is); (case c__law_lists => k_is); (case k__law_lists => k_is)
    (case a__law_copy => k_is); (case l__law_copy => k_is); (case c__law_copy => k_is); (case k__law_copy => k_is)
    (case a__law_lead => k_is); (case l__law_lead => k_is); (case c__law_lead => k_is); (case k__law_lead => k_is)
    (case a__law_rows => k_is); (case l__law_rows => k_is); (case c__law_rows => k_is); (case k__law_rows => k_is)
    (case a__law_due => k_is); (case l__law_due => k_is); (case c__law_due => k_is); (case k__law_due => k_is)
    (case a_law => k_is); (case l_law => k_is); (case c_law => k_is); (case k_law => k_is)
    (case z_abs => k_is); (case z_bool => k_is); (case z_int => k_is); (case z_isinstance => k_is)
    (case z_len => k_is); (case z_list => k_is); (case z_max => k_is); (case z_min => k_is)
    (case z_range => k_is); (case z_sorted => k_is); (case z_str => k_is); (case z_sum => k_is)
    (case z_tuple => k_is); (case z_zip => k_is); (case g_NoShare => k_is); (case x_NoShare => k_exc)
    (case kk_NoShare => k_is); (case b_NoShare => k_is); (case t_NoShare => k_is)
