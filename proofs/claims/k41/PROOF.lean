import PyProof.Rows.All
import Wide.All
import OpenK.AllK
import Wide.FinOn
import HandS.ForMost
import HandS.ForExc
import HandS.ExcInit
import HandS.Wide
import HandS.Zip
import HandS.IsInst
import KE.KeyNested
import KE.DataEq
import HandS.Style
import HandS.Flow
import HandS.TupAny
import HandS.Iter
import HandS.EndBits
import HandS.HeadEnd
import HandS.More
import HandS.StrMore
import HandS.Rev
import PyProof.StrBlock2
import KE.KIntText
import HandS.ExcValue
import HandS.ExcIs
import KE.SortData
import HandS.SortInts
import KE.SortKeyHeap
import HandS.SortKw
import PyProof.ListNew
import PyProof.DictRoadsH
import PyProof.MeetsDict
import HandS.Conv
import HandS.Small
import KE.KDictSum
import PySem.Challenge.RW_flipwright_k41_whole_weighed_step_by_ste
set_option Elab.async false
set_option linter.all false
set_option maxRecDepth 100000
set_option maxHeartbeats 2000000
/-! FLA: plain data D, owned data M, how they lie in the abstract heap. -/
namespace FL
open PySem L2 Classical

/-- frozen data -/
inductive D where
  | non | bl (b : Bool) | int (i : Int) | str (x : Str) | fn (n : String)
  | tup (xs : List D) | lst (xs : List D) | scr (xs : List D)
  | dic (ks : List D) (xs : List D) | ins (C : String) (ns : List Str) (xs : List D)
  | exc (C : String)
instance : Inhabited D := ⟨.non⟩
/-- owned data: nodes at addresses that nothing else points to; d: frozen -/
inductive M where
  | d (x : D) | lst (xs : List M) | tup (xs : List M)
  | dic (ks : List D) (xs : List M) | ins (C : String) (ns : List Str) (xs : List M)
instance : Inhabited M := ⟨.d .non⟩

/-- the written part and where its defs and classes stand -/
structure Gx where
  K : PySem.W.Frag
  ad : String → Addr
  w : World

mutual
/-- a dict's key -/
def nkD : D → Option NestedKey
  | .non => some .none
  | .int i => some (.num i)
  | .str x => some (.text x)
  | .tup xs => match nkDs xs with
    | some ks => some (.tup ks)
    | none => none
  | _ => none
def nkDs : List D → Option (List NestedKey)
  | [] => some []
  | x :: xs => match nkD x, nkDs xs with
    | some a, some b => some (a :: b)
    | _, _ => none
end
/-- a dict's entries -/
def EntR (w : World) : List NestedKey → List (V × V) → List DictEntry → Prop
  | [], [], [] => True
  | k :: ks, p :: kv, e :: es => e.hash = k.hash w ∧ RelV p.1 e.key ∧ RelV p.2 e.val ∧ EntR w ks kv es
  | _, _, _ => False
/-- a dict in the abstract heap -/
def DO (w : World) (a : Addr) (ks : List NestedKey) (kv : List (V × V)) : HO := .ext fun h => (a == sysModules) = false ∧ kv.length ≤ sizeLine ∧ ∃ o es ep, h.get? a = some o ∧ o.ExactDict ∧ o.data = .dict es ep ∧ EntR w ks kv es.toList
structure KsOk (ks : List D) (nk : List NestedKey) : Prop where
  eq : nkDs ks = some nk
  nd : nk.Nodup
  dp : ∀ x ∈ nk, x.depth ≤ 8

abbrev Rg := Addr → Prop
/-- an exception object that was caught -/
def EK (cls : Value) (a : Addr) : HO := .ext fun h => ∃ (oe : Obj) (vs : Array Value), h.get? a = some oe ∧ oe.cls = cls ∧ oe.dict = none ∧ oe.data = .fields vs

mutual
def RepD (G : Gx) (Z : Hp) : D → V → Prop
  | .non, v => v = .non
  | .bl b, v => v = .bl b
  | .int i, v => v = .int i
  | .str x, v => v = .str x
  | .fn n, v => v = .ref (G.ad n)
  | .exc n, v => ∃ a, v = .ref a ∧ Z a = some (EK (.ref (G.ad n)) a)
  | .tup xs, v => ∃ a vs, v = .ref a ∧ SqT G.K Z a vs ∧ RepDs G Z xs vs
  | .lst xs, v => ∃ a vs, v = .ref a ∧ Z a = some (.lst vs) ∧ RepDs G Z xs vs
  | .scr xs, v => ∃ a vs, v = .ref a ∧ SqL G.K Z a vs ∧ RepDs G Z xs vs
  | .dic ks xs, v => ∃ a nk kv, v = .ref a ∧ Z a = some (DO G.w a nk kv) ∧ KsOk ks nk ∧ RepDs G Z ks (kv.map (fun p => p.1)) ∧ RepDs G Z xs (kv.map (fun p => p.2))
  | .ins C ns xs, v => ∃ a dx fs, v = .ref a ∧ Z a = some (.ins (G.ad C) dx fs) ∧ fs.map (fun p => p.1) = ns ∧ RepDs G Z xs (fs.map (fun p => p.2))
def RepDs (G : Gx) (Z : Hp) : List D → List V → Prop
  | [], vs => vs = []
  | x :: xs, vs => ∃ v r, vs = v :: r ∧ RepD G Z x v ∧ RepDs G Z xs r
end

mutual
def RepM (G : Gx) (Z H : Hp) : M → Rg → V → Prop
  | .d x, _, v => RepD G Z x v
  | .lst ms, S, v => ∃ a vs T, v = .ref a ∧ S a ∧ ¬ T a ∧ (∀ b, T b → S b) ∧ H a = some (.lst vs) ∧ RepMs G Z H ms T vs
  | .tup ms, S, v => ∃ a vs T, v = .ref a ∧ S a ∧ ¬ T a ∧ (∀ b, T b → S b) ∧ H a = some (.tup vs) ∧ RepMs G Z H ms T vs
  | .dic ks ms, S, v => ∃ a nk kv T, v = .ref a ∧ S a ∧ ¬ T a ∧ (∀ b, T b → S b) ∧ H a = some (DO G.w a nk kv) ∧ KsOk ks nk ∧ RepDs G Z ks (kv.map (fun p => p.1)) ∧ RepMs G Z H ms T (kv.map (fun p => p.2))
  | .ins C ns ms, S, v => ∃ a dx fs T, v = .ref a ∧ S a ∧ ¬ T a ∧ (∀ b, T b → S b) ∧ H a = some (.ins (G.ad C) dx fs) ∧ fs.map (fun p => p.1) = ns ∧ RepMs G Z H ms T (fs.map (fun p => p.2))
def RepMs (G : Gx) (Z H : Hp) : List M → Rg → List V → Prop
  | [], _, vs => vs = []
  | m :: ms, S, vs => ∃ v r T1 T2, vs = v :: r ∧ (∀ b, T1 b → S b) ∧ (∀ b, T2 b → S b) ∧ (∀ b, T1 b → ¬ T2 b) ∧ RepM G Z H m T1 v ∧ RepMs G Z H ms T2 r
end

mutual
/-- frozen -/
def fz : M → D
  | .d x => x
  | .lst xs => .lst (fzs xs)
  | .tup xs => .tup (fzs xs)
  | .dic ks xs => .dic ks (fzs xs)
  | .ins C ns xs => .ins C ns (fzs xs)
def fzs : List M → List D
  | [] => []
  | m :: ms => fz m :: fzs ms
end
theorem fzs_map : ∀ ms : List M, fzs ms = ms.map fz
  | [] => by simp [fzs]
  | m :: ms => by simp [fzs, fzs_map ms]

theorem Same.seqT {K : PySem.W.Frag} {H H' : Hp} {a : Addr} {xs : List V} (e : Same H H') (h : SqT K H a xs) : SqT K H' a xs := by
  rcases h with (h | ⟨o, h⟩) | h
  · exact .inl (.inl (e _ _ h))
  · exact .inl (.inr ⟨o, e _ _ h⟩)
  · exact .inr h

section
variable {G : Gx} {Z Z' H H' : Hp}
mutual
theorem RepD.mono (h : Same Z Z') : ∀ (x : D) (v : V), RepD G Z x v → RepD G Z' x v
  | .non, _, r => r
  | .bl _, _, r => r
  | .int _, _, r => r
  | .str _, _, r => r
  | .fn _, _, r => r
  | .exc _, _, r => by
    simp only [RepD] at r ⊢
    obtain ⟨a, e, q⟩ := r
    exact ⟨a, e, h _ _ q⟩
  | .tup xs, _, r => by
    simp only [RepD] at r ⊢
    obtain ⟨a, vs, e, q, r⟩ := r
    exact ⟨a, vs, e, Same.seqT h q, RepDs.mono h xs vs r⟩
  | .lst xs, _, r => by
    simp only [RepD] at r ⊢
    obtain ⟨a, vs, e, q, r⟩ := r
    exact ⟨a, vs, e, h _ _ q, RepDs.mono h xs vs r⟩
  | .scr xs, _, r => by
    simp only [RepD] at r ⊢
    obtain ⟨a, vs, e, q, r⟩ := r
    exact ⟨a, vs, e, h.seq q, RepDs.mono h xs vs r⟩
  | .dic ks xs, _, r => by
    simp only [RepD] at r ⊢
    obtain ⟨a, nk, kv, e, q, k, r1, r⟩ := r
    exact ⟨a, nk, kv, e, h _ _ q, k, RepDs.mono h ks _ r1, RepDs.mono h xs _ r⟩
  | .ins C ns xs, _, r => by
    simp only [RepD] at r ⊢
    obtain ⟨a, dx, kv, e, q, k, r⟩ := r
    exact ⟨a, dx, kv, e, h _ _ q, k, RepDs.mono h xs _ r⟩
theorem RepDs.mono (h : Same Z Z') : ∀ (xs : List D) (vs : List V), RepDs G Z xs vs → RepDs G Z' xs vs
  | [], _, r => r
  | x :: xs, _, r => by
    simp only [RepDs] at r ⊢
    obtain ⟨v, r', e, q, r⟩ := r
    exact ⟨v, r', e, RepD.mono h x v q, RepDs.mono h xs r' r⟩
end

mutual
/-- the frozen part grows, the region's objects stay, the region grows -/
theorem RepM.mono (h : Same Z Z') : ∀ (m : M) (S S' : Rg) (v : V), (∀ a, S a → S' a) → (∀ a o, S a → H a = some o → H' a = some o) → RepM G Z H m S v → RepM G Z' H' m S' v
  | .d x, _, _, v, _, _, r => by
    simp only [RepM] at r ⊢
    exact RepD.mono h x v r
  | .lst ms, S, S', v, hs, hk, r => by
    simp only [RepM] at r ⊢
    obtain ⟨a, vs, T, e, sa, ta, ts, ho, r⟩ := r
    exact ⟨a, vs, T, e, hs a sa, ta, fun b q => hs b (ts b q), hk _ _ sa ho, RepMs.mono h ms T T vs (fun _ q => q) (fun b o q => hk b o (ts b q)) r⟩
  | .tup ms, S, S', v, hs, hk, r => by
    simp only [RepM] at r ⊢
    obtain ⟨a, vs, T, e, sa, ta, ts, ho, r⟩ := r
    exact ⟨a, vs, T, e, hs a sa, ta, fun b q => hs b (ts b q), hk _ _ sa ho, RepMs.mono h ms T T vs (fun _ q => q) (fun b o q => hk b o (ts b q)) r⟩
  | .dic ks ms, S, S', v, hs, hk, r => by
    simp only [RepM] at r ⊢
    obtain ⟨a, nk, kv, T, e, sa, ta, ts, ho, k, r1, r⟩ := r
    exact ⟨a, nk, kv, T, e, hs a sa, ta, fun b q => hs b (ts b q), hk _ _ sa ho, k, RepDs.mono h ks _ r1, RepMs.mono h ms T T _ (fun _ q => q) (fun b o q => hk b o (ts b q)) r⟩
  | .ins C ns ms, S, S', v, hs, hk, r => by
    simp only [RepM] at r ⊢
    obtain ⟨a, dx, kv, T, e, sa, ta, ts, ho, k, r⟩ := r
    exact ⟨a, dx, kv, T, e, hs a sa, ta, fun b q => hs b (ts b q), hk _ _ sa ho, k, RepMs.mono h ms T T _ (fun _ q => q) (fun b o q => hk b o (ts b q)) r⟩
theorem RepMs.mono (h : Same Z Z') : ∀ (ms : List M) (S S' : Rg) (vs : List V), (∀ a, S a → S' a) → (∀ a o, S a → H a = some o → H' a = some o) → RepMs G Z H ms S vs → RepMs G Z' H' ms S' vs
  | [], _, _, _, _, _, r => r
  | m :: ms, S, S', vs, hs, hk, r => by
    simp only [RepMs] at r ⊢
    obtain ⟨v, r', T1, T2, e, s1, s2, dj, q, r⟩ := r
    exact ⟨v, r', T1, T2, e, fun b z => hs b (s1 b z), fun b z => hs b (s2 b z), dj, RepM.mono h m T1 T1 v (fun _ q => q) (fun b o z => hk b o (s1 b z)) q, RepMs.mono h ms T2 T2 r' (fun _ q => q) (fun b o z => hk b o (s2 b z)) r⟩
end

mutual
theorem RepM.frz (h : Same Z Z') : ∀ (m : M) (S : Rg) (v : V), (∀ a o, S a → H a = some o → Z' a = some o) → RepM G Z H m S v → RepD G Z' (fz m) v
  | .d x, _, v, _, r => by
    simp only [RepM] at r
    simp only [fz]
    exact RepD.mono h x v r
  | .lst ms, S, v, hk, r => by
    simp only [RepM] at r
    simp only [fz, RepD]
    obtain ⟨a, vs, T, e, sa, ta, ts, ho, r⟩ := r
    exact ⟨a, vs, e, hk _ _ sa ho, RepMs.frz h ms T vs (fun b o q => hk b o (ts b q)) r⟩
  | .tup ms, S, v, hk, r => by
    simp only [RepM] at r
    simp only [fz, RepD]
    obtain ⟨a, vs, T, e, sa, ta, ts, ho, r⟩ := r
    exact ⟨a, vs, e, SqT.of (hk _ _ sa ho), RepMs.frz h ms T vs (fun b o q => hk b o (ts b q)) r⟩
  | .dic ks ms, S, v, hk, r => by
    simp only [RepM] at r
    simp only [fz, RepD]
    obtain ⟨a, nk, kv, T, e, sa, ta, ts, ho, k, r1, r⟩ := r
    exact ⟨a, nk, kv, e, hk _ _ sa ho, k, RepDs.mono h ks _ r1, RepMs.frz h ms T _ (fun b o q => hk b o (ts b q)) r⟩
  | .ins C ns ms, S, v, hk, r => by
    simp only [RepM] at r
    simp only [fz, RepD]
    obtain ⟨a, dx, kv, T, e, sa, ta, ts, ho, k, r⟩ := r
    exact ⟨a, dx, kv, e, hk _ _ sa ho, k, RepMs.frz h ms T _ (fun b o q => hk b o (ts b q)) r⟩
theorem RepMs.frz (h : Same Z Z') : ∀ (ms : List M) (S : Rg) (vs : List V), (∀ a o, S a → H a = some o → Z' a = some o) → RepMs G Z H ms S vs → RepDs G Z' (fzs ms) vs
  | [], _, _, _, r => by
    simp only [RepMs] at r
    simp only [fzs, RepDs]
    exact r
  | m :: ms, S, vs, hk, r => by
    simp only [RepMs] at r
    simp only [fzs, RepDs]
    obtain ⟨v, r', T1, T2, e, s1, s2, dj, q, r⟩ := r
    exact ⟨v, r', e, RepM.frz h m T1 v (fun b o z => hk b o (s1 b z)) q, RepMs.frz h ms T2 r' (fun b o z => hk b o (s2 b z)) r⟩
end
theorem RepD.toM {x : D} {S : Rg} {v : V} (r : RepD G Z x v) : RepM G Z H (.d x) S v := by
  simp only [RepM]; exact r
theorem RepDs.len : ∀ {xs : List D} {vs : List V}, RepDs G Z xs vs → xs.length = vs.length
  | [], _, r => by simp only [RepDs] at r; subst r; rfl
  | x :: xs, _, r => by
    simp only [RepDs] at r
    obtain ⟨v, r', rfl, q, r⟩ := r
    simp [RepDs.len r]
theorem RepMs.len : ∀ {xs : List M} {S : Rg} {vs : List V}, RepMs G Z H xs S vs → xs.length = vs.length
  | [], _, _, r => by simp only [RepMs] at r; subst r; rfl
  | x :: xs, _, _, r => by
    simp only [RepMs] at r
    obtain ⟨v, r', T1, T2, rfl, _, _, _, q, r⟩ := r
    simp [RepMs.len r]
theorem RepDs.toM : ∀ {xs : List D} {S : Rg} {vs : List V}, RepDs G Z xs vs → RepMs G Z H (xs.map .d) S vs
  | [], _, _, r => by simp only [RepDs] at r; simp only [List.map_nil, RepMs]; exact r
  | x :: xs, S, _, r => by
    simp only [RepDs] at r
    obtain ⟨v, r', rfl, q, r⟩ := r
    simp only [List.map_cons, RepMs]
    exact ⟨v, r', fun _ => False, S, rfl, fun _ z => z.elim, fun _ z => z, fun _ z => z.elim, q.toM, RepDs.toM r⟩
theorem RepDs.get : ∀ {xs : List D} {vs : List V} {i : Nat} {x : D}, RepDs G Z xs vs → xs[i]? = some x → ∃ v, vs[i]? = some v ∧ RepD G Z x v
  | [], _, _, _, _, e => by simp at e
  | y :: xs, _, 0, x, r, e => by
    simp only [RepDs] at r
    obtain ⟨v, r', rfl, q, r⟩ := r
    simp at e; subst e
    exact ⟨v, rfl, q⟩
  | y :: xs, _, i + 1, x, r, e => by
    simp only [RepDs] at r
    obtain ⟨v, r', rfl, q, r⟩ := r
    have := RepDs.get (i := i) r (by simpa using e)
    simpa using this
theorem RepMs.get : ∀ {xs : List M} {S : Rg} {vs : List V} {i : Nat} {x : M}, RepMs G Z H xs S vs → xs[i]? = some x → ∃ v, vs[i]? = some v ∧ RepM G Z H x S v
  | [], _, _, _, _, _, e => by simp at e
  | y :: xs, _, _, 0, x, r, e => by
    simp only [RepMs] at r
    obtain ⟨v, r', T1, T2, rfl, s1, s2, dj, q, r⟩ := r
    simp at e; subst e
    exact ⟨v, rfl, RepM.mono (Same.refl _) _ _ _ _ s1 (fun _ _ _ z => z) q⟩
  | y :: xs, _, _, i + 1, x, r, e => by
    simp only [RepMs] at r
    obtain ⟨v, r', T1, T2, rfl, s1, s2, dj, q, r⟩ := r
    obtain ⟨w, h1, h2⟩ := RepMs.get (i := i) r (by simpa using e)
    exact ⟨w, by simpa using h1, RepM.mono (Same.refl _) _ _ _ _ s2 (fun _ _ _ z => z) h2⟩
theorem RepDs.app : ∀ {xs ys : List D} {vs ws : List V}, RepDs G Z xs vs → RepDs G Z ys ws → RepDs G Z (xs ++ ys) (vs ++ ws)
  | [], _, _, _, r, s => by simp only [RepDs] at r; subst r; exact s
  | x :: xs, _, _, _, r, s => by
    simp only [RepDs] at r
    obtain ⟨v, r', rfl, q, r⟩ := r
    simp only [List.cons_append, RepDs]
    exact ⟨v, _, rfl, q, RepDs.app r s⟩
/-- two rows of owned data in parted regions -/
theorem RepMs.app : ∀ {xs ys : List M} {S1 S2 S : Rg} {vs ws : List V}, RepMs G Z H xs S1 vs → RepMs G Z H ys S2 ws → (∀ b, S1 b → S b) → (∀ b, S2 b → S b) → (∀ b, S1 b → ¬ S2 b) → RepMs G Z H (xs ++ ys) S (vs ++ ws)
  | [], _, _, _, _, _, _, r, s, h1, h2, _ => by
    simp only [RepMs] at r; subst r
    exact RepMs.mono (Same.refl _) _ _ _ _ h2 (fun _ _ _ z => z) s
  | x :: xs, _, S1, S2, S, _, _, r, s, h1, h2, dj => by
    simp only [RepMs] at r
    obtain ⟨v, r', T1, T2, rfl, s1, s2, dj', q, r⟩ := r
    simp only [List.cons_append, RepMs]
    refine ⟨v, _, T1, fun b => T2 b ∨ S2 b, rfl, fun b z => h1 b (s1 b z), fun b z => z.elim (fun z => h1 b (s2 b z)) (h2 b), fun b z w => w.elim (dj' b z) (dj b (s1 b z)), q, ?_⟩
    exact RepMs.app r s (fun b z => .inl z) (fun b z => .inr z) (fun b z => dj b (s2 b z))
end

/-! ### the frozen part after a region is frozen -/
noncomputable def Fzp (Z H : Hp) (S : Rg) : Hp := fun a => if S a then H a else Z a
section
variable {G : Gx} {Z Z' H H' : Hp} {S : Rg}
theorem frz_old (zh : Same Z H) : Same Z (Fzp Z H S) := fun a o e => by
  unfold Fzp
  by_cases h : S a
  · rw [if_pos h]; exact zh a o e
  · rw [if_neg h]; exact e
theorem frz_sub (zh : Same Z H) : Same (Fzp Z H S) H := fun a o e => by
  unfold Fzp at e
  by_cases h : S a
  · rw [if_pos h] at e; exact e
  · rw [if_neg h] at e; exact zh a o e
theorem frz_in {a : Addr} (h : S a) : Fzp Z H S a = H a := by unfold Fzp; rw [if_pos h]
theorem frz_out {a : Addr} (h : ¬ S a) : Fzp Z H S a = Z a := by unfold Fzp; rw [if_neg h]
theorem RepM.frozen (zh : Same Z H) {m : M} {v : V} (r : RepM G Z H m S v) : RepD G (Fzp Z H S) (fz m) v :=
  RepM.frz (frz_old zh) m S v (fun a o sa e => by rw [frz_in sa]; exact e) r
end
end FL

set_option maxHeartbeats 2000000
/-! FLB: what a piece of a def computes, as a function of plain data; and that its reading follows. -/
namespace FL
open PySem L2 Classical

structure Exn where
  C : String
  row : Option Int := none
  deriving DecidableEq

abbrev Env := List (Option M)
inductive Res (α : Type) where
  | ok (a : α) | exc (e : Exn) (env : Env) | bad
def Res.bind {α β : Type} : Res α → (α → Res β) → Res β
  | .ok a, f => f a
  | .exc e v, _ => .exc e v
  | .bad, _ => .bad
instance : Monad Res where
  pure := .ok
  bind := Res.bind
@[simp] theorem Res.ok_bind {α β : Type} (a : α) (f : α → Res β) : ((Res.ok a) >>= f) = f a := rfl
@[simp] theorem Res.exc_bind {α β : Type} (e : Exn) (v : Env) (f : α → Res β) : ((Res.exc e v : Res α) >>= f) = .exc e v := rfl
@[simp] theorem Res.bad_bind {α β : Type} (f : α → Res β) : ((Res.bad : Res α) >>= f) = .bad := rfl
@[simp] theorem Res.pure_ok {α : Type} (a : α) : (pure a : Res α) = .ok a := rfl

/-- an exception's class and own dict -/
def ExcAt (G : Gx) (H : Hp) (e : Exn) (cls : Value) (d : Option Addr) : Prop :=
  cls = .ref (G.ad e.C) ∧ match e.row with
    | none => d = none
    | some i => ∃ dd, d = some dd ∧ H dd = some (.xd [("row", .int i)])

abbrev Rs := Nat → Rg
def U (S : Rs) : Rg := fun a => ∃ i, S i a
/-- from (Z, H) with the region R to (Z', H') with the region R' -/
structure Stp (Z H : Hp) (R : Rg) (Z' H' : Hp) (R' : Rg) : Prop where
  z : Same Z Z'
  zh : Same Z' H'
  kp : ∀ b o, H b = some o → ¬ R b → H' b = some o
  rg : ∀ a, R' a → R a ∨ H a = none
  zn : ∀ a, Z' a ≠ none → Z a ≠ none ∨ R a ∨ H a = none
section
variable {Z Z1 Z2 Z' H H1 H2 H' : Hp} {R R1 R2 R' : Rg}
theorem Stp.refl (zh : Same Z H) : Stp Z H R Z H R := ⟨Same.refl _, zh, fun _ _ e _ => e, fun _ h => .inl h, fun _ h => .inl h⟩
theorem Stp.trans (a : Stp Z H R Z1 H1 R1) (b : Stp Z1 H1 R1 Z2 H2 R2) : Stp Z H R Z2 H2 R2 := by
  have back : ∀ x, H1 x = none → R x ∨ H x = none := fun x h => by
    by_cases hr : R x
    · exact .inl hr
    · cases e : H x with
      | none => exact .inr rfl
      | some o => rw [a.kp x o e hr] at h; cases h
  refine ⟨a.z.trans b.z, b.zh, fun x o e hr => ?_, fun x h => ?_, fun x h => ?_⟩
  · refine b.kp x o (a.kp x o e hr) fun h1 => ?_
    rcases a.rg x h1 with h | h
    · exact hr h
    · rw [e] at h; cases h
  · rcases b.rg x h with h | h
    · exact a.rg x h
    · exact back x h
  · rcases b.zn x h with h | h | h
    · exact a.zn x h
    · exact .inr (a.rg x h)
    · exact .inr (back x h)
theorem Stp.weak (a : Stp Z H R Z' H' R1) (h : ∀ x, R2 x → R1 x) : Stp Z H R Z' H' R2 := ⟨a.z, a.zh, a.kp, fun x q => a.rg x (h x q), a.zn⟩
theorem Stp.frame (a : Stp Z H R Z' H' R') (T : Rg) : Stp Z H (fun x => R x ∨ T x) Z' H' (fun x => R' x ∨ T x) :=
  ⟨a.z, a.zh, fun b o e h => a.kp b o e fun q => h (.inl q), fun x h => h.elim (fun h => (a.rg x h).elim (fun h => .inl (.inl h)) .inr) fun h => .inl (.inr h),
    fun x h => (a.zn x h).elim .inl fun h => h.elim (fun h => .inr (.inl (.inl h))) fun h => .inr (.inr h)⟩
theorem Stp.from (a : Stp Z H R Z' H' R') (h : ∀ x, R x → R1 x) : Stp Z H R1 Z' H' R' :=
  ⟨a.z, a.zh, fun b o e q => a.kp b o e fun r => q (h b r), fun x q => (a.rg x q).elim (fun r => .inl (h x r)) .inr, fun x q => (a.zn x q).elim .inl fun r => r.elim (fun r => .inr (.inl (h x r))) fun r => .inr (.inr r)⟩
end

/-- a value in the hand: its region lies apart from R -/
structure Hld (G : Gx) (Z H : Hp) (R : Rg) (m : M) (S : Rg) (v : V) : Prop where
  rep : RepM G Z H m S v
  al : ∀ a, S a → H a ≠ none
  zf : ∀ a, S a → Z a = none
  dj : ∀ a, S a → ¬ R a
section
variable {G : Gx} {Z Z' H H' : Hp} {R R' : Rg} {m : M} {S : Rg} {v : V}
theorem Hld.step (h : Hld G Z H R m S v) (s : Stp Z H R Z' H' R') : Hld G Z' H' R' m S v := by
  have keep : ∀ a o, S a → H a = some o → H' a = some o := fun a o sa e => s.kp a o e (h.dj a sa)
  refine ⟨RepM.mono s.z m S S v (fun _ z => z) keep h.rep, fun a sa q => ?_, fun a sa => ?_, fun a sa q => ?_⟩
  · cases e : H a with
    | none => exact h.al a sa e
    | some o => rw [keep a o sa e] at q; cases q
  · cases q : Z' a with
    | none => rfl
    | some o =>
      rcases s.zn a (by rw [q]; exact fun z => nomatch z) with r | r | r
      · exact absurd (h.zf a sa) r
      · exact absurd r (h.dj a sa)
      · exact absurd r (h.al a sa)
  · rcases s.rg a q with r | r
    · exact h.dj a sa r
    · exact h.al a sa r
theorem Hld.data {x : D} (r : RepD G Z x v) : Hld G Z H R (.d x) (fun _ => False) v := ⟨r.toM, fun _ z => z.elim, fun _ z => z.elim, fun _ z => z.elim⟩
/-- frozen data needs no region -/
theorem Hld.free {x : D} (h : Hld G Z H R (.d x) S v) : RepD G Z x v := by
  have := h.rep
  simp only [RepM] at this
  exact this
/-- frozen in the hand -/
theorem Hld.frozen (zh : Same Z H) (h : Hld G Z H R m S v) : RepD G (Fzp Z H S) (fz m) v ∧ Stp Z H (fun a => R a ∨ S a) (Fzp Z H S) H R :=
  ⟨h.rep.frozen zh, frz_old zh, frz_sub zh, fun _ _ e _ => e, fun _ q => .inl (.inl q), fun a q => by
    by_cases sa : S a
    · exact .inr (.inl (.inr sa))
    · rw [frz_out sa] at q; exact .inl q⟩
end

/-- the slots hold what env says, each in a region of its own -/
structure Good (G : Gx) (Z H : Hp) (σ : St) (env : Env) (S : Rs) : Prop where
  zh : Same Z H
  rep : ∀ i m, env[i]? = some (some m) → ∃ v, σ[i]? = some (some v) ∧ RepM G Z H m (S i) v
  dj : ∀ i j a, S i a → S j a → i = j
  al : ∀ i a, S i a → H a ≠ none
  zf : ∀ i a, S i a → Z a = none
  len : env.length = σ.length
def Rs.set (S : Rs) (i : Nat) (T : Rg) : Rs := fun j => if j = i then T else S j
theorem Rs.set_same {S : Rs} {i : Nat} {T : Rg} : S.set i T i = T := by unfold Rs.set; rw [if_pos rfl]
theorem Rs.set_ne {S : Rs} {i j : Nat} {T : Rg} (h : j ≠ i) : S.set i T j = S j := by unfold Rs.set; rw [if_neg h]
theorem Rs.set_sub {S : Rs} {i : Nat} {T : Rg} {a : Addr} (h : U (S.set i T) a) : U S a ∨ T a := by
  obtain ⟨j, h⟩ := h
  by_cases e : j = i
  · subst e; rw [Rs.set_same] at h; exact .inr h
  · rw [Rs.set_ne e] at h; exact .inl ⟨j, h⟩
theorem Rs.wipe_sub {S : Rs} {i : Nat} {a : Addr} (h : U (S.set i fun _ => False) a) : U S a ∧ ¬ S i a ∨ ∃ j, j ≠ i ∧ S j a := by
  obtain ⟨j, h⟩ := h
  by_cases e : j = i
  · subst e; rw [Rs.set_same] at h; exact h.elim
  · rw [Rs.set_ne e] at h; exact .inr ⟨j, e, h⟩
section
variable {G : Gx} {Z Z' H H' : Hp} {σ : St} {env : Env} {S : Rs} {i : Nat} {m : M} {v : V} {T : Rg}
theorem Good.lt (g : Good G Z H σ env S) (h : i < env.length) : i < σ.length := by rw [← g.len]; exact h
/-- a slot is emptied, its datum in the hand -/
theorem Good.take (g : Good G Z H σ env S) (e : env[i]? = some (some m)) : ∃ v, σ[i]? = some (some v) ∧ Good G Z H σ (env.set i none) (S.set i fun _ => False) ∧ Hld G Z H (U (S.set i fun _ => False)) m (S i) v := by
  obtain ⟨v, hv, r⟩ := g.rep i m e
  refine ⟨v, hv, ⟨g.zh, fun j m' e' => ?_, fun j k a h1 h2 => ?_, fun j a h => ?_, fun j a h => ?_, by rw [List.length_set]; exact g.len⟩, r, g.al i, g.zf i, fun a h q => ?_⟩
  · by_cases hj : j = i
    · subst hj
      rw [List.getElem?_set_self (List.getElem?_eq_some_iff.mp e).1] at e'
      cases e'
    · rw [List.getElem?_set_ne (Ne.symm hj)] at e'
      obtain ⟨w, hw, r'⟩ := g.rep j m' e'
      exact ⟨w, hw, by rw [Rs.set_ne hj]; exact r'⟩
  · by_cases hj : j = i
    · subst hj; rw [Rs.set_same] at h1; exact h1.elim
    · by_cases hk : k = i
      · subst hk; rw [Rs.set_same] at h2; exact h2.elim
      · rw [Rs.set_ne hj] at h1; rw [Rs.set_ne hk] at h2; exact g.dj j k a h1 h2
  · by_cases hj : j = i
    · subst hj; rw [Rs.set_same] at h; exact h.elim
    · rw [Rs.set_ne hj] at h; exact g.al j a h
  · by_cases hj : j = i
    · subst hj; rw [Rs.set_same] at h; exact h.elim
    · rw [Rs.set_ne hj] at h; exact g.zf j a h
  · obtain ⟨j, q⟩ := q
    by_cases hj : j = i
    · subst hj; rw [Rs.set_same] at q; exact q.elim
    · rw [Rs.set_ne hj] at q; exact hj (g.dj j i a q h)
theorem Rs.wipe_le {S : Rs} {i : Nat} {a : Addr} (h : U (S.set i fun _ => False) a) : U S a := (Rs.set_sub h).elim id fun z => z.elim
/-- a slot is emptied -/
theorem Good.kill (g : Good G Z H σ env S) (i : Nat) : Good G Z H σ (env.set i none) (S.set i fun _ => False) := by
  refine ⟨g.zh, fun j m' e' => ?_, fun j k a h1 h2 => ?_, fun j a h => ?_, fun j a h => ?_, by rw [List.length_set]; exact g.len⟩
  · by_cases hj : j = i
    · subst hj
      by_cases hl : j < env.length
      · rw [List.getElem?_set_self hl] at e'; cases e'
      · rw [List.getElem?_eq_none (by rw [List.length_set]; omega)] at e'; cases e'
    · rw [List.getElem?_set_ne (Ne.symm hj)] at e'
      obtain ⟨w, hw, r'⟩ := g.rep j m' e'
      exact ⟨w, hw, by rw [Rs.set_ne hj]; exact r'⟩
  · by_cases hj : j = i
    · subst hj; rw [Rs.set_same] at h1; exact h1.elim
    · by_cases hk : k = i
      · subst hk; rw [Rs.set_same] at h2; exact h2.elim
      · rw [Rs.set_ne hj] at h1; rw [Rs.set_ne hk] at h2; exact g.dj j k a h1 h2
  · by_cases hj : j = i
    · subst hj; rw [Rs.set_same] at h; exact h.elim
    · rw [Rs.set_ne hj] at h; exact g.al j a h
  · by_cases hj : j = i
    · subst hj; rw [Rs.set_same] at h; exact h.elim
    · rw [Rs.set_ne hj] at h; exact g.zf j a h
/-- what is in the hand is put into a slot; σ' agrees with σ elsewhere -/
theorem Good.put' (g : Good G Z H σ env S) (h : Hld G Z H (U S) m T v) {σ' : St} (hi : i < env.length) (hs : σ'[i]? = some (some v)) (ho : ∀ j, j ≠ i → σ'[j]? = σ[j]?) (hl : σ'.length = σ.length) :
    Good G Z H σ' (env.set i (some m)) (S.set i T) := by
  refine ⟨g.zh, fun j m' e' => ?_, fun j k a h1 h2 => ?_, fun j a q => ?_, fun j a q => ?_, by rw [List.length_set, hl]; exact g.len⟩
  · by_cases hj : j = i
    · subst hj
      rw [List.getElem?_set_self hi] at e'
      cases e'
      exact ⟨v, hs, by rw [Rs.set_same]; exact h.rep⟩
    · rw [List.getElem?_set_ne (Ne.symm hj)] at e'
      obtain ⟨w, hw, r'⟩ := g.rep j m' e'
      exact ⟨w, by rw [ho j hj]; exact hw, by rw [Rs.set_ne hj]; exact r'⟩
  · by_cases hj : j = i
    · by_cases hk : k = i
      · rw [hj, hk]
      · subst hj; rw [Rs.set_same] at h1; rw [Rs.set_ne hk] at h2; exact absurd ⟨k, h2⟩ (h.dj a h1)
    · by_cases hk : k = i
      · subst hk; rw [Rs.set_same] at h2; rw [Rs.set_ne hj] at h1; exact absurd ⟨j, h1⟩ (h.dj a h2)
      · rw [Rs.set_ne hj] at h1; rw [Rs.set_ne hk] at h2; exact g.dj j k a h1 h2
  · by_cases hj : j = i
    · subst hj; rw [Rs.set_same] at q; exact h.al a q
    · rw [Rs.set_ne hj] at q; exact g.al j a q
  · by_cases hj : j = i
    · subst hj; rw [Rs.set_same] at q; exact h.zf a q
    · rw [Rs.set_ne hj] at q; exact g.zf j a q
theorem Good.put (g : Good G Z H σ env S) (h : Hld G Z H (U S) m T v) (hi : i < env.length) : Good G Z H (σ.set i (some v)) (env.set i (some m)) (S.set i T) :=
  g.put' h hi (List.getElem?_set_self (g.lt hi)) (fun j hj => List.getElem?_set_ne (Ne.symm hj)) (by rw [List.length_set])
/-- the datum goes back to the slot whose value it is -/
theorem Good.back (g : Good G Z H σ env S) (h : Hld G Z H (U S) m T v) (hs : σ[i]? = some (some v)) : Good G Z H σ (env.set i (some m)) (S.set i T) :=
  g.put' h (by rw [g.len]; exact (List.getElem?_eq_some_iff.mp hs).1) hs (fun _ _ => rfl) rfl
/-- all that Good says stays while the frozen part grows away from the slots' regions, and the heap keeps these -/
theorem Good.move {R R' : Rg} (g : Good G Z H σ env S) (s : Stp Z H R Z' H' R') (hd : ∀ a, U S a → ¬ R a) : Good G Z' H' σ env S ∧ ∀ a, U S a → ¬ R' a := by
  have keep : ∀ i a o, S i a → H a = some o → H' a = some o := fun i a o sa e => s.kp a o e (hd a ⟨i, sa⟩)
  refine ⟨⟨s.zh, fun i m e => ?_, g.dj, fun i a sa q => ?_, fun i a sa => ?_, g.len⟩, fun a ⟨i, sa⟩ q => ?_⟩
  · obtain ⟨v, hv, r⟩ := g.rep i m e
    exact ⟨v, hv, RepM.mono s.z m _ _ v (fun _ z => z) (keep i) r⟩
  · cases e : H a with
    | none => exact g.al i a sa e
    | some o => rw [keep i a o sa e] at q; cases q
  · cases q : Z' a with
    | none => rfl
    | some o =>
      rcases s.zn a (by rw [q]; exact fun z => nomatch z) with r | r | r
      · exact absurd (g.zf i a sa) r
      · exact absurd r (hd a ⟨i, sa⟩)
      · exact absurd r (g.al i a sa)
  · rcases s.rg a q with r | r
    · exact hd a ⟨i, sa⟩ r
    · exact g.al i a sa r
end

/-! ### what is computed, and that a reading follows -/
abbrev SE := Env → Res (M × Env)
abbrev VE := Env → Res M
abbrev SB := Env → Res (Bool × Env)
abbrev SA := Env → Res (List M × Env)
abbrev WX' := Value → Option Addr → St → Hp → Prop

def SEok (G : Gx) (W : WX') (t : TE) (f : SE) : Prop := ∀ (Z H : Hp) (σ : St) (env : Env) (S : Rs) (Q : VK), Good G Z H σ env S →
  match f env with
  | .ok (m, env') => (∀ v Z' H' S' T, Stp Z H (U S) Z' H' (fun a => U S' a ∨ T a) → Good G Z' H' σ env' S' → Hld G Z' H' (U S') m T v → Q v H') → t σ H Q
  | .exc e env' => (∀ cls d Z' H' S', ExcAt G H' e cls d → Stp Z H (U S) Z' H' (U S') → Good G Z' H' σ env' S' → W cls d σ H') → t σ H Q
  | .bad => True
/-- nothing is made, nothing changed: the value may lie within the slots' regions -/
def VEok (G : Gx) (t : TE) (f : VE) : Prop := ∀ (Z H : Hp) (σ : St) (env : Env) (S : Rs) (Q : VK), Good G Z H σ env S →
  match f env with
  | .ok m => (∀ v T, (∀ a, T a → U S a) → RepM G Z H m T v → Q v H) → t σ H Q
  | _ => True
def SBok (G : Gx) (W : WX') (t : TT) (f : SB) : Prop := ∀ (Z H : Hp) (σ : St) (env : Env) (S : Rs) (Q : Bool → Hp → Prop), Good G Z H σ env S →
  match f env with
  | .ok (b, env') => (∀ Z' H' S', Stp Z H (U S) Z' H' (U S') → Good G Z' H' σ env' S' → Q b H') → t σ H Q
  | .exc e env' => (∀ cls d Z' H' S', ExcAt G H' e cls d → Stp Z H (U S) Z' H' (U S') → Good G Z' H' σ env' S' → W cls d σ H') → t σ H Q
  | .bad => True
/-- the arguments in the hand: their data are the slots' of a row of their own -/
def SAok (G : Gx) (W : WX') (t : TA) (f : SA) : Prop := ∀ (Z H : Hp) (σ : St) (env : Env) (S : Rs) (Q : List V → Hp → Prop), Good G Z H σ env S →
  match f env with
  | .ok (ms, env') => (∀ vs Z' H' S' T, Stp Z H (U S) Z' H' (fun a => U S' a ∨ U T a) → Good G Z' H' σ env' S' → Good G Z' H' (vs.map some) (ms.map some) T → (∀ a, U T a → ¬ U S' a) → Q vs H') → t σ H Q
  | .exc e env' => (∀ cls d Z' H' S', ExcAt G H' e cls d → Stp Z H (U S) Z' H' (U S') → Good G Z' H' σ env' S' → W cls d σ H') → t σ H Q
  | .bad => True

structure PEs (G : Gx) (X : Cx) (W : WX') (e : Expr) (f : SE) : Prop where
  ex : ∃ t, PE X e t ∧ SEok G W t f
structure PVs (G : Gx) (X : Cx) (e : Expr) (f : VE) : Prop where
  ex : ∃ t, PE X e t ∧ VEok G t f
structure PBs (G : Gx) (X : Cx) (W : WX') (e : Expr) (f : SB) : Prop where
  ex : ∃ t, PT X e t ∧ SBok G W t f
structure PAs (G : Gx) (X : Cx) (W : WX') (es : List Expr) (f : SA) : Prop where
  ex : ∃ t, PA X es t ∧ SAok G W t f

section
variable {G : Gx} {X : Cx} {W : WX'} {e a b c : Expr} {f fa fb : SE} {g ga gb : VE} {pos : Pos}

/-! ### views -/
def vC (x : D) : VE := fun _ => .ok (.d x)
theorem VEok.const {t : TE} {x : D} (h : ∀ Z H σ Q, Same Z H → (∀ v, RepD G Z x v → Q v H) → t σ H Q) : VEok G t (vC x) := fun Z H σ env S Q g q =>
  h Z H σ Q g.zh fun v r => q v (fun _ => False) (fun _ z => z.elim) r.toM
theorem xv_int {i j pos} : PVs G X (.Constant (.int i) j pos) (vC (.int i)) := ⟨_, pe_int, VEok.const fun _ _ _ _ _ q => q _ (by simp [RepD])⟩
theorem xv_bl {b j pos} : PVs G X (.Constant (.bool b) j pos) (vC (.bl b)) := ⟨_, pe_bl, VEok.const fun _ _ _ _ _ q => q _ (by simp [RepD])⟩
theorem xv_non {j pos} : PVs G X (.Constant .none j pos) (vC .non) := ⟨_, pe_non, VEok.const fun _ _ _ _ _ q => q _ (by simp [RepD])⟩
theorem xv_str {x j pos} : PVs G X (.Constant (.str x) j pos) (vC (.str x)) := ⟨_, pe_str, VEok.const fun _ _ _ _ _ q => q _ (by simp [RepD])⟩
def getE (env : Env) (i : Nat) : Res M := match env[i]? with
  | some (some m) => .ok m
  | _ => .bad
def vN (i : Nat) : VE := fun env => getE env i
theorem xv_name (i : Nat) {x : Str} (hN : X.N[i]? = some x := by rfl) (hv : Vis X.env.scope x := by first | exact Or.inl rfl | exact Or.inr (Or.inl rfl) | exact Or.inr (Or.inr rfl)) (hd : (x == ("__debug__" : Str)) = false := by decide)
    (hcd : (x == ("__classdict__" : Str)) = false := by decide) : PVs G X (.Name x pos) (vN i) := by
  refine ⟨_, pe_var hN hv hd hcd, fun Z H σ env S Q gd => ?_⟩
  unfold vN getE
  split
  · rename_i e
    intro q
    split at e
    · rename_i m e'
      cases e
      obtain ⟨v, hv, r⟩ := gd.rep _ _ e'
      exact ⟨v, hv, q v _ (fun a h => ⟨i, h⟩) r⟩
    · cases e
  · trivial
/-- a value that a view gives and that is frozen -/
def sV (g : VE) : SE := fun env => match g env with
  | .ok (.d x) => .ok (.d x, env)
  | _ => .bad
theorem SEok.of_v {t : TE} (h : VEok G t g) : SEok G W t (sV g) := fun Z H σ env S Q gd => by
  have hh := h Z H σ env S Q gd
  unfold sV
  split
  · rename_i e
    split at e
    · rename_i x ex
      cases e
      rw [ex] at hh
      intro q
      refine hh fun v T _ r => ?_
      simp only [RepM] at r
      exact q v Z H S (fun _ => False) ((Stp.refl gd.zh).weak fun _ z => z.elim id fun z => z.elim) gd (Hld.data r)
    · cases e
  · rename_i e; split at e <;> cases e
  · trivial
theorem xe_v (h : PVs G X e g) : PEs G X W e (sV g) := by
  obtain ⟨t, p, h⟩ := h.ex
  exact ⟨t, p, SEok.of_v h⟩
/-- a name's value; what is owned is frozen -/
def sN (i : Nat) : SE := fun env => match getE env i with
  | .ok m => .ok (.d (fz m), match m with | .d _ => env | _ => env.set i (some (.d (fz m))))
  | _ => .bad
/-- a name's value is taken out of its slot -/
def sT (i : Nat) : SE := fun env => match getE env i with
  | .ok m => .ok (m, env.set i none)
  | _ => .bad
theorem getE_ok {env : Env} {i : Nat} {m : M} (h : getE env i = .ok m) : env[i]? = some (some m) := by
  unfold getE at h
  split at h
  · rename_i e; cases h; exact e
  · cases h
theorem getE_cases (env : Env) (i : Nat) : (∃ m, getE env i = .ok m) ∨ getE env i = .bad := by
  unfold getE
  split
  · exact .inl ⟨_, rfl⟩
  · exact .inr rfl
theorem Good.frozen {Z H : Hp} {σ : St} {env : Env} {S : Rs} {i : Nat} {m : M} (gd : Good G Z H σ env S) (em : env[i]? = some (some m)) :
    ∃ v, σ[i]? = some (some v) ∧ RepD G (Fzp Z H (S i)) (fz m) v ∧ Good G (Fzp Z H (S i)) H σ (env.set i (some (.d (fz m)))) (S.set i fun _ => False) ∧ Stp Z H (U S) (Fzp Z H (S i)) H (U (S.set i fun _ => False)) := by
  obtain ⟨v, hv, g1, h1⟩ := gd.take em
  have h2 := h1.frozen gd.zh
  have st : Stp Z H (U S) (Fzp Z H (S i)) H (U (S.set i fun _ => False)) := h2.2.from fun a q => q.elim Rs.wipe_le fun q => ⟨i, q⟩
  have s3 : Stp Z H (S i) (Fzp Z H (S i)) H (S i) := ⟨frz_old gd.zh, frz_sub gd.zh, fun _ _ e _ => e, fun _ q => .inl q, fun a q => by
    by_cases sa : S i a
    · exact .inr (.inl sa)
    · rw [frz_out sa] at q; exact .inl q⟩
  have g2 := (g1.move s3 (fun a q r => h1.dj a r q)).1
  have g3 := g2.back (Hld.data (R := U (S.set i fun _ => False)) h2.1) hv
  have e1 : (env.set i none).set i (some (M.d (fz m))) = env.set i (some (M.d (fz m))) := List.set_set ..
  have e2 : (S.set i fun _ => False).set i (fun _ => False) = (S.set i fun _ => False) := by
    funext j; unfold Rs.set; split <;> rfl
  rw [e1, e2] at g3
  exact ⟨v, hv, h2.1, g3, st⟩
theorem xe_name (i : Nat) {x : Str} (hN : X.N[i]? = some x := by rfl) (hv : Vis X.env.scope x := by first | exact Or.inl rfl | exact Or.inr (Or.inl rfl) | exact Or.inr (Or.inr rfl)) (hd : (x == ("__debug__" : Str)) = false := by decide)
    (hcd : (x == ("__classdict__" : Str)) = false := by decide) : PEs G X W (.Name x pos) (sN i) := by
  refine ⟨_, pe_var hN hv hd hcd, fun Z H σ env S Q gd => ?_⟩
  unfold sN
  rcases getE_cases env i with ⟨m, e⟩ | e
  · rw [e]
    have em := getE_ok e
    cases hm : m with
    | d x =>
      subst hm
      simp only [fz]
      intro q
      obtain ⟨v, hv, r⟩ := gd.rep i _ em
      simp only [RepM] at r
      exact ⟨v, hv, q v Z H S (fun _ => False) ((Stp.refl gd.zh).weak fun _ z => z.elim id fun z => z.elim) gd (Hld.data r)⟩
    | _ =>
      rw [← hm]
      intro q
      obtain ⟨v, hv, r, g', st⟩ := gd.frozen em
      refine ⟨v, hv, q v _ H _ (fun _ => False) (st.weak fun _ z => z.elim id fun z => z.elim) ?_ (Hld.data r)⟩
      subst hm
      exact g'
  · rw [e]; trivial
theorem xe_take (i : Nat) {x : Str} (hN : X.N[i]? = some x := by rfl) (hv : Vis X.env.scope x := by first | exact Or.inl rfl | exact Or.inr (Or.inl rfl) | exact Or.inr (Or.inr rfl)) (hd : (x == ("__debug__" : Str)) = false := by decide)
    (hcd : (x == ("__classdict__" : Str)) = false := by decide) : PEs G X W (.Name x pos) (sT i) := by
  refine ⟨_, pe_var hN hv hd hcd, fun Z H σ env S Q gd => ?_⟩
  unfold sT
  rcases getE_cases env i with ⟨m, e⟩ | e
  · rw [e]
    intro q
    obtain ⟨v, hv, g1, h1⟩ := gd.take (getE_ok e)
    exact ⟨v, hv, q v Z H _ (S i) ((Stp.refl gd.zh).weak fun a z => z.elim Rs.wipe_le fun z => ⟨i, z⟩) g1 h1⟩
  · rw [e]; trivial
end
end FL

set_option maxHeartbeats 2000000
/-! FLC: operators, comparisons, subscripts, len, isinstance. -/
namespace FL
open PySem L2 Classical

/-! ### reading data off the heap -/
mutual
def toPy : D → PyData
  | .non => .none
  | .bl b => .bool b
  | .int i => .int i
  | .str x => .str x
  | .tup xs => .tuple (toPys xs)
  | .lst xs => .list (toPys xs)
  | .scr xs => .list (toPys xs)
  | .fn _ => .dict []
  | .exc _ => .dict []
  | .dic _ _ => .dict []
  | .ins _ _ _ => .dict []
def toPys : List D → List PyData
  | [] => []
  | x :: xs => toPy x :: toPys xs
end
section
variable {G : Gx} {Z H : Hp}
mutual
theorem RepD.dp (zh : Same Z H) : ∀ (x : D) (v : V), (toPy x).plain = true → RepD G Z x v → Dp G.K H v (toPy x)
  | .non, _, _, r => by simp only [RepD] at r; subst r; exact .non
  | .bl b, _, _, r => by simp only [RepD] at r; subst r; exact .bl b
  | .int b, _, _, r => by simp only [RepD] at r; subst r; exact .int b
  | .str b, _, _, r => by simp only [RepD] at r; subst r; exact .str b
  | .tup xs, _, p, r => by
    simp only [RepD] at r
    obtain ⟨a, vs, rfl, q, r⟩ := r
    simp only [toPy, PyData.plain] at p
    exact .tup (Same.seqT zh q) (RepDs.dp zh xs vs p r)
  | .lst xs, _, p, r => by
    simp only [RepD] at r
    obtain ⟨a, vs, rfl, q, r⟩ := r
    simp only [toPy, PyData.plain] at p
    exact .lst (SqL.of (zh _ _ q)) (RepDs.dp zh xs vs p r)
  | .scr xs, _, p, r => by
    simp only [RepD] at r
    obtain ⟨a, vs, rfl, q, r⟩ := r
    simp only [toPy, PyData.plain] at p
    exact .lst (zh.seq q) (RepDs.dp zh xs vs p r)
  | .fn _, _, p, _ => by simp only [toPy, PyData.plain] at p; cases p
  | .exc _, _, p, _ => by simp only [toPy, PyData.plain] at p; cases p
  | .dic _ _, _, p, _ => by simp only [toPy, PyData.plain] at p; cases p
  | .ins _ _ _, _, p, _ => by simp only [toPy, PyData.plain] at p; cases p
theorem RepDs.dp (zh : Same Z H) : ∀ (xs : List D) (vs : List V), PyData.plainAll (toPys xs) = true → RepDs G Z xs vs → DpAll G.K H vs (toPys xs)
  | [], _, _, r => by simp only [RepDs] at r; subst r; exact .nil
  | x :: xs, _, p, r => by
    simp only [RepDs] at r
    obtain ⟨v, r', rfl, q, r⟩ := r
    simp only [toPys, PyData.plainAll, Bool.and_eq_true] at p
    exact .cons (RepD.dp zh x v p.1 q) (RepDs.dp zh xs r' p.2 r)
end
theorem RepM.dp (zh : Same Z H) {m : M} {T : Rg} {v : V} (r : RepM G Z H m T v) (p : (toPy (fz m)).plain = true) : Dp G.K H v (toPy (fz m)) :=
  RepD.dp (Same.refl H) (fz m) v p (RepM.frz zh m T v (fun _ _ _ e => e) r)

def M.seq : M → Option (Bool × List M)
  | .d (.lst xs) => some (false, xs.map .d)
  | .d (.scr xs) => some (false, xs.map .d)
  | .d (.tup xs) => some (true, xs.map .d)
  | .lst ms => some (false, ms)
  | .tup ms => some (true, ms)
  | _ => none
theorem RepM.seq (zh : Same Z H) {m : M} {T : Rg} {v : V} {b : Bool} {ms : List M} (r : RepM G Z H m T v) (e : m.seq = some (b, ms)) :
    ∃ a vs, v = .ref a ∧ (b = true → SqT G.K H a vs) ∧ (b = false → SqL G.K H a vs) ∧ RepMs G Z H ms T vs := by
  cases m with
  | d x =>
    simp only [RepM] at r
    cases x with
    | lst xs =>
      simp only [M.seq, Option.some.injEq, Prod.mk.injEq] at e
      obtain ⟨rfl, rfl⟩ := e
      simp only [RepD] at r
      obtain ⟨a, vs, rfl, q, r⟩ := r
      exact ⟨a, vs, rfl, (fun h => nomatch h), fun _ => SqL.of (zh _ _ q), r.toM⟩
    | scr xs =>
      simp only [M.seq, Option.some.injEq, Prod.mk.injEq] at e
      obtain ⟨rfl, rfl⟩ := e
      simp only [RepD] at r
      obtain ⟨a, vs, rfl, q, r⟩ := r
      exact ⟨a, vs, rfl, (fun h => nomatch h), fun _ => zh.seq q, r.toM⟩
    | tup xs =>
      simp only [M.seq, Option.some.injEq, Prod.mk.injEq] at e
      obtain ⟨rfl, rfl⟩ := e
      simp only [RepD] at r
      obtain ⟨a, vs, rfl, q, r⟩ := r
      exact ⟨a, vs, rfl, fun _ => Same.seqT zh q, (fun h => nomatch h), r.toM⟩
    | _ => simp [M.seq] at e
  | lst xs =>
    simp only [M.seq, Option.some.injEq, Prod.mk.injEq] at e
    obtain ⟨rfl, rfl⟩ := e
    simp only [RepM] at r
    obtain ⟨a, vs, T', rfl, sa, ta, ts, ho, r⟩ := r
    exact ⟨a, vs, rfl, (fun h => nomatch h), fun _ => SqL.of ho, RepMs.mono (Same.refl _) _ _ _ _ ts (fun _ _ _ z => z) r⟩
  | tup xs =>
    simp only [M.seq, Option.some.injEq, Prod.mk.injEq] at e
    obtain ⟨rfl, rfl⟩ := e
    simp only [RepM] at r
    obtain ⟨a, vs, T', rfl, sa, ta, ts, ho, r⟩ := r
    exact ⟨a, vs, rfl, fun _ => SqT.of ho, (fun h => nomatch h), RepMs.mono (Same.refl _) _ _ _ _ ts (fun _ _ _ z => z) r⟩
  | _ => simp [M.seq] at e
end

/-! ### two-place operations whose answer is plain -/
abbrev DOp := M → M → Res D
def VOP (G : Gx) (r : R2) (op : DOp) : Prop := ∀ (Z H : Hp) (m1 : M) (T1 : Rg) (v1 : V) (m2 : M) (T2 : Rg) (v2 : V) (Q : VK), Same Z H → RepM G Z H m1 T1 v1 → RepM G Z H m2 T2 v2 →
  match op m1 m2 with
  | .ok x => (∀ u, RepD G Z x u → Q u H) → r v1 v2 H Q
  | _ => True
def v2 (op : DOp) (ga gb : VE) : VE := fun env => match ga env, gb env with
  | .ok m1, .ok m2 => match op m1 m2 with
    | .ok x => .ok (.d x)
    | _ => .bad
  | _, _ => .bad
def s2 (op : DOp) (fa fb : SE) : SE := fun env => match fa env with
  | .ok (m1, e1) => match fb e1 with
    | .ok (m2, e2) => match op m1 m2 with
      | .ok x => .ok (.d x, e2)
      | _ => .bad
    | .exc e v => .exc e v
    | .bad => .bad
  | .exc e v => .exc e v
  | .bad => .bad
/-- the left a name's slot as it is -/
def s2n (op : DOp) (i : Nat) (fb : SE) : SE := fun env => match getE env i with
  | .ok _ => match fb env with
    | .ok (m2, e2) => match getE e2 i with
      | .ok m1 => match op m1 m2 with
        | .ok x => .ok (.d x, e2)
        | _ => .bad
      | _ => .bad
    | .exc e v => .exc e v
    | .bad => .bad
  | _ => .bad
/-- the right a view -/
def s2v (op : DOp) (fa : SE) (gb : VE) : SE := fun env => match fa env with
  | .ok (m1, e1) => match gb e1 with
    | .ok m2 => match op m1 m2 with
      | .ok x => .ok (.d x, e1)
      | _ => .bad
    | _ => .bad
  | .exc e v => .exc e v
  | .bad => .bad
section
variable {G : Gx} {X : Cx} {W : WX'} {r : R2} {op : DOp} {ta tb : TE} {fa fb : SE} {ga gb : VE} {a b : Expr} {pos : Pos}
theorem VEok.bin (h : VOP G r op) (ha : VEok G ta ga) (hb : VEok G tb gb) : VEok G (tOp r ta tb) (v2 op ga gb) := fun Z H σ env S Q gd => by
  have h1 := ha Z H σ env S (fun x H1 => tb σ H1 fun y H2 => r x y H2 Q) gd
  unfold v2
  split
  · rename_i e
    intro q
    split at e
    · rename_i m1 m2 e1 e2
      split at e
      · rename_i x ex
        cases e
        rw [e1] at h1
        refine h1 fun v T1 _ r1 => ?_
        have h2 := hb Z H σ env S (fun y H2 => r v y H2 Q) gd
        rw [e2] at h2
        refine h2 fun w T2 _ r2 => ?_
        have h3 := h Z H m1 T1 v m2 T2 w Q gd.zh r1 r2
        rw [ex] at h3
        exact h3 fun u ru => q u (fun _ => False) (fun _ z => z.elim) ru.toM
      · cases e
    · cases e
  · trivial
theorem SEok.bin (h : VOP G r op) (ha : SEok G W ta fa) (hb : SEok G W tb fb) : SEok G W (tOp r ta tb) (s2 op fa fb) := fun Z H σ env S Q gd => by
  have h1 := ha Z H σ env S (fun x H1 => tb σ H1 fun y H2 => r x y H2 Q) gd
  unfold s2
  cases e1 : fa env with
  | bad => trivial
  | exc e v => rw [e1] at h1; exact h1
  | ok p =>
    obtain ⟨m1, env1⟩ := p
    rw [e1] at h1
    simp only
    cases e2 : fb env1 with
    | bad => trivial
    | exc e v =>
      intro q
      refine h1 fun v1 Z1 H1 S1 T1 s1 g1 l1 => ?_
      have h2 := hb Z1 H1 σ env1 S1 (fun y H2 => r v1 y H2 Q) g1
      rw [e2] at h2
      refine h2 fun cls d Z2 H2 S2 x2 s2 g2 => ?_
      have s2' := (s2.frame T1).weak (R2 := U S2) fun _ z => .inl z
      exact q cls d Z2 H2 S2 x2 (s1.trans s2') g2
    | ok p2 =>
      obtain ⟨m2, env2⟩ := p2
      simp only
      cases e3 : op m1 m2 with
      | ok x =>
        intro q
        refine h1 fun v1 Z1 H1 S1 T1 s1 g1 l1 => ?_
        have h2 := hb Z1 H1 σ env1 S1 (fun y H2 => r v1 y H2 Q) g1
        rw [e2] at h2
        refine h2 fun w2 Z2 H2 S2 T2 s2 g2 l2 => ?_
        have l1' := l1.step s2
        have h3 := h Z2 H2 m1 T1 v1 m2 T2 w2 Q g2.zh l1'.rep l2.rep
        rw [e3] at h3
        refine h3 fun u ru => ?_
        have s2' := (s2.frame T1).weak (R2 := fun a => U S2 a ∨ False) fun _ z => .inl (.inl (z.elim id fun z => z.elim))
        exact q u Z2 H2 S2 (fun _ => False) (s1.trans s2') g2 (Hld.data ru)
      | _ => trivial
theorem SEok.binN {i : Nat} (h : VOP G r op) (hb : SEok G W tb fb) : SEok G W (tOp r (tVar i) tb) (s2n op i fb) := fun Z H σ env S Q gd => by
  unfold s2n
  rcases getE_cases env i with ⟨m0, e0⟩ | e0
  · rw [e0]
    obtain ⟨v, hv, _⟩ := gd.rep i m0 (getE_ok e0)
    have h2 := hb Z H σ env S (fun y H2 => r v y H2 Q) gd
    simp only
    cases e2 : fb env with
    | bad => trivial
    | exc e w => rw [e2] at h2; intro q; exact ⟨v, hv, h2 q⟩
    | ok p2 =>
      obtain ⟨m2, env2⟩ := p2
      rw [e2] at h2
      simp only
      rcases getE_cases env2 i with ⟨m1, e1⟩ | e1
      · rw [e1]
        simp only
        cases e3 : op m1 m2 with
        | ok x =>
          intro q
          refine ⟨v, hv, h2 fun w2 Z2 H2 S2 T2 s2 g2 l2 => ?_⟩
          obtain ⟨v', hv', r1⟩ := g2.rep i m1 (getE_ok e1)
          rw [hv] at hv'; cases hv'
          have h3 := h Z2 H2 m1 _ v m2 T2 w2 Q g2.zh r1 l2.rep
          rw [e3] at h3
          exact h3 fun u ru => q u Z2 H2 S2 (fun _ => False) (s2.weak fun _ z => .inl (z.elim id fun z => z.elim)) g2 (Hld.data ru)
        | _ => trivial
      · rw [e1]; trivial
  · rw [e0]; trivial
theorem SEok.binV (h : VOP G r op) (ha : SEok G W ta fa) (hb : VEok G tb gb) : SEok G W (tOp r ta tb) (s2v op fa gb) := fun Z H σ env S Q gd => by
  have h1 := ha Z H σ env S (fun x H1 => tb σ H1 fun y H2 => r x y H2 Q) gd
  unfold s2v
  cases e1 : fa env with
  | bad => trivial
  | exc e v => rw [e1] at h1; exact h1
  | ok p =>
    obtain ⟨m1, env1⟩ := p
    rw [e1] at h1
    simp only
    cases e2 : gb env1 with
    | ok m2 =>
      simp only
      cases e3 : op m1 m2 with
      | ok x =>
        intro q
        refine h1 fun v1 Z1 H1 S1 T1 s1 g1 l1 => ?_
        have h2 := hb Z1 H1 σ env1 S1 (fun y H2 => r v1 y H2 Q) g1
        rw [e2] at h2
        refine h2 fun w2 T2 _ r2 => ?_
        have h3 := h Z1 H1 m1 T1 v1 m2 T2 w2 Q g1.zh l1.rep r2
        rw [e3] at h3
        exact h3 fun u ru => q u Z1 H1 S1 (fun _ => False) (s1.weak fun _ z => .inl (z.elim id fun z => z.elim)) g1 (Hld.data ru)
      | _ => trivial
    | _ => trivial

/-! the three kinds -/
theorem xv_op {o : Operator} (ho : OpR X (binaryOp o) r) (h : VOP G r op) (ha : PVs G X a ga) (hb : PVs G X b gb) : PVs G X (.BinOp a o b pos) (v2 op ga gb) := by
  obtain ⟨ta, pa, ha⟩ := ha.ex
  obtain ⟨tb, pb, hb⟩ := hb.ex
  exact ⟨_, pe_op ho pa pb, VEok.bin h ha hb⟩
theorem xe_op {o : Operator} (ho : OpR X (binaryOp o) r) (h : VOP G r op) (ha : PEs G X W a fa) (hb : PEs G X W b fb) : PEs G X W (.BinOp a o b pos) (s2 op fa fb) := by
  obtain ⟨ta, pa, ha⟩ := ha.ex
  obtain ⟨tb, pb, hb⟩ := hb.ex
  exact ⟨_, pe_op ho pa pb, SEok.bin h ha hb⟩
theorem xv_cmp {o : CmpOp} (ho : OpR X (compareOp o) r) (h : VOP G r op) (ha : PVs G X a ga) (hb : PVs G X b gb) (hm : behindInMarks o b = false) : PVs G X (.Compare a [o] [b] pos) (v2 op ga gb) := by
  obtain ⟨ta, pa, ha⟩ := ha.ex
  obtain ⟨tb, pb, hb⟩ := hb.ex
  exact ⟨_, pe_cmpR ho pa pb hm, VEok.bin h ha hb⟩
theorem xe_cmp {o : CmpOp} (ho : OpR X (compareOp o) r) (h : VOP G r op) (ha : PEs G X W a fa) (hb : PEs G X W b fb) (hm : behindInMarks o b = false) : PEs G X W (.Compare a [o] [b] pos) (s2 op fa fb) := by
  obtain ⟨ta, pa, ha⟩ := ha.ex
  obtain ⟨tb, pb, hb⟩ := hb.ex
  exact ⟨_, pe_cmpR ho pa pb hm, SEok.bin h ha hb⟩
theorem xe_cmpN {o : CmpOp} (i : Nat) {x : Str} {p1 : Pos} (ho : OpR X (compareOp o) r) (h : VOP G r op) (hb : PEs G X W b fb) (hm : behindInMarks o b = false) (hN : X.N[i]? = some x := by rfl) (hv : Vis X.env.scope x := by first | exact Or.inl rfl | exact Or.inr (Or.inl rfl) | exact Or.inr (Or.inr rfl))
    (hd : (x == ("__debug__" : Str)) = false := by decide) (hcd : (x == ("__classdict__" : Str)) = false := by decide) : PEs G X W (.Compare (.Name x p1) [o] [b] pos) (s2n op i fb) := by
  obtain ⟨tb, pb, hb⟩ := hb.ex
  exact ⟨_, pe_cmpR ho (pe_var hN hv hd hcd) pb hm, SEok.binN h hb⟩
theorem xe_cmpV {o : CmpOp} (ho : OpR X (compareOp o) r) (h : VOP G r op) (ha : PEs G X W a fa) (hb : PVs G X b gb) (hm : behindInMarks o b = false) : PEs G X W (.Compare a [o] [b] pos) (s2v op fa gb) := by
  obtain ⟨ta, pa, ha⟩ := ha.ex
  obtain ⟨tb, pb, hb⟩ := hb.ex
  exact ⟨_, pe_cmpR ho pa pb hm, SEok.binV h ha hb⟩
theorem xe_ixS (ho : IxR X r) (h : VOP G r op) (ha : PEs G X W a fa) (hb : PVs G X b gb) (hs : PlainIx b := by exact fun _ _ => rfl) : PEs G X W (.Subscript a b pos) (s2v op fa gb) := by
  obtain ⟨ta, pa, ha⟩ := ha.ex
  obtain ⟨tb, pb, hb⟩ := hb.ex
  exact ⟨_, pe_ix ho pa pb hs, SEok.binV h ha hb⟩
end

/-! ### numbers and texts -/
theorem rep_int {G : Gx} {Z H : Hp} {i : Int} {T : Rg} {v : V} (r : RepM G Z H (.d (.int i)) T v) : v = .int i := by simpa [RepM, RepD] using r
theorem rep_str {G : Gx} {Z H : Hp} {i : Str} {T : Rg} {v : V} (r : RepM G Z H (.d (.str i)) T v) : v = .str i := by simpa [RepM, RepD] using r
theorem rep_bl {G : Gx} {Z H : Hp} {i : Bool} {T : Rg} {v : V} (r : RepM G Z H (.d (.bl i)) T v) : v = .bl i := by simpa [RepM, RepD] using r
theorem rep_non {G : Gx} {Z H : Hp} {T : Rg} {v : V} (r : RepM G Z H (.d .non) T v) : v = .non := by simpa [RepM, RepD] using r
/-- two ints in -/
def dI (C : Int → Int → Prop) [∀ i j, Decidable (C i j)] (g : Int → Int → D) : DOp
  | .d (.int i), .d (.int j) => if C i j then .ok (g i j) else .bad
  | _, _ => .bad
/-- two texts in -/
def dS (C : Str → Str → Prop) [∀ i j, Decidable (C i j)] (g : Str → Str → D) : DOp
  | .d (.str i), .d (.str j) => if C i j then .ok (g i j) else .bad
  | _, _ => .bad
def dOr (f g : DOp) : DOp := fun a b => match f a b with
  | .ok x => .ok x
  | _ => g a b
def rOr (r r' : R2) : R2 := fun x y H Q => r x y H Q ∨ r' x y H Q
theorem OpR.orR {X : Cx} {f : Value → Value → Sem Value} {r r' : R2} (h : OpR X f r) (h' : OpR X f r') : OpR X f (rOr r r') :=
  fun pins s σ H x y v u Q I rx ry q => q.elim (h pins s σ H x y v u Q I rx ry) (h' pins s σ H x y v u Q I rx ry)
theorem VOP.or {G : Gx} {r r' : R2} {f g : DOp} (h : VOP G r f) (h' : VOP G r' g) : VOP G (rOr r r') (dOr f g) := fun Z H m1 T1 v1 m2 T2 v2 Q zh r1 r2 => by
  have a := h Z H m1 T1 v1 m2 T2 v2 Q zh r1 r2
  have b := h' Z H m1 T1 v1 m2 T2 v2 Q zh r1 r2
  unfold dOr
  cases e : f m1 m2 with
  | ok x => rw [e] at a; exact fun q => .inl (a q)
  | _ =>
    simp only
    cases e' : g m1 m2 with
    | ok x => rw [e'] at b; exact fun q => .inr (b q)
    | _ => trivial
theorem vop_I {G : Gx} {C : Int → Int → Prop} [∀ i j, Decidable (C i j)] {g : Int → Int → D} {g' : Int → Int → V} (h : ∀ i j, C i j → ∀ Z, RepD G Z (g i j) (g' i j)) : VOP G (rI C g') (dI C g) := fun Z H m1 T1 v1 m2 T2 v2 Q zh r1 r2 => by
  unfold dI
  split
  · rename_i e
    intro q
    split at e
    · rename_i i j
      split at e
      · rename_i hc
        cases e
        exact ⟨i, j, rep_int r1, rep_int r2, hc, q _ (h i j hc Z)⟩
      · cases e
    · cases e
  · trivial
theorem vop_I0 {G : Gx} {g : Int → Int → D} {g' : Int → Int → V} (h : ∀ i j Z, RepD G Z (g i j) (g' i j)) : VOP G (rI0 g') (dI (fun _ _ => True) g) := fun Z H m1 T1 v1 m2 T2 v2 Q zh r1 r2 => by
  unfold dI
  split
  · rename_i e
    intro q
    split at e
    · rename_i i j
      simp only [if_true] at e
      cases e
      exact ⟨i, j, rep_int r1, rep_int r2, q _ (h i j Z)⟩
    · cases e
  · trivial
theorem vop_S {G : Gx} {C : Str → Str → Prop} [∀ i j, Decidable (C i j)] {g : Str → Str → D} {g' : Str → Str → V} (h : ∀ i j, C i j → ∀ Z, RepD G Z (g i j) (g' i j)) : VOP G (fun x y H Q => ∃ i j, x = .str i ∧ y = .str j ∧ C i j ∧ Q (g' i j) H) (dS C g) :=
  fun Z H m1 T1 v1 m2 T2 v2 Q zh r1 r2 => by
  unfold dS
  split
  · rename_i e
    intro q
    split at e
    · rename_i i j
      split at e
      · rename_i hc
        cases e
        exact ⟨i, j, rep_str r1, rep_str r2, hc, q _ (h i j hc Z)⟩
      · cases e
    · cases e
  · trivial
theorem vop_S0 {G : Gx} {g : Str → Str → D} {g' : Str → Str → V} (h : ∀ i j, ∀ Z, RepD G Z (g i j) (g' i j)) : VOP G (fun x y H Q => ∃ i j, x = .str i ∧ y = .str j ∧ Q (g' i j) H) (dS (fun _ _ => True) g) :=
  fun Z H m1 T1 v1 m2 T2 v2 Q zh r1 r2 => by
  unfold dS
  split
  · rename_i e
    intro q
    split at e
    · rename_i i j
      simp only [if_true] at e
      cases e
      exact ⟨i, j, rep_str r1, rep_str r2, q _ (h i j Z)⟩
    · cases e
  · trivial

theorem intD {G : Gx} {Z : Hp} {i : Int} : RepD G Z (.int i) (.int i) := by simp [RepD]
theorem blD {G : Gx} {Z : Hp} {i : Bool} : RepD G Z (.bl i) (.bl i) := by simp [RepD]
theorem strD {G : Gx} {Z : Hp} {i : Str} : RepD G Z (.str i) (.str i) := by simp [RepD]

/-- floor division by any divisor but 0, below 2 ^ 9000 -/
abbrev CFdiv (i j : Int) : Prop := j ≠ 0 ∧ j.natAbs.log2 < 9000
def fdivI (i j : Int) : Int := if 0 < j then i / j else i.fdiv j
def modI (i j : Int) : Int := if 0 < j then i % j else i.fmod j
theorem fdivI_eq (i j : Int) : i.fdiv j = fdivI i j := by
  unfold fdivI
  split
  · rename_i h; exact Int.fdiv_eq_ediv_of_nonneg i (by omega)
  · rfl
theorem modI_eq (i j : Int) : i.fmod j = modI i j := by
  unfold modI
  split
  · rename_i h; exact Int.fmod_eq_emod_of_nonneg i (by omega)
  · rfl
abbrev CMulD (i j : Int) : Prop := i.natAbs.log2 + j.natAbs.log2 < 130000000
theorem mulOkD {i j : Int} (h : CMulD i j) : PySem.IntMulOk i j := by
  have b : ∀ x : Int, Builtin.Int.intBits x ≤ x.natAbs.log2 + 1 := fun x => by
    unfold Builtin.Int.intBits
    split <;> omega
  have h1 := b i
  have h2 := b j
  have h3 : i.natAbs.log2 + j.natAbs.log2 < 130000000 := h
  have e : bitsLine = 134217728 := by decide
  unfold PySem.IntMulOk
  intro z
  rw [Bool.and_eq_true] at z
  have z2 := z.2
  unfold Builtin.Int.intTooBig at z2
  have z3 := of_decide_eq_true z2
  rw [e] at z3
  omega
abbrev CPowD (i j : Int) : Prop := 0 ≤ j ∧ j ≤ 1000000 ∧ i.natAbs < 2 ^ 64
section
variable {G : Gx} {X : Cx}
theorem op_fdivG : OpR X (binaryOp .FloorDiv) (rI CFdiv fun i j => .int (fdivI i j)) := opI fun i j _ _ _ _ _ hc q => PyProof.Rows.floordiv_int hc.1 (by rw [fdivI_eq]; exact q) (.inl (PyProof.noPylong_of_log2 hc.2))
theorem op_modG : OpR X (binaryOp .Mod) (rI (fun _ j => j ≠ 0) fun i j => .int (modI i j)) := opI fun i j _ _ _ _ _ hc q => PyProof.Rows.mod_int' hc (by rw [modI_eq]; exact q)
end
def oAdd : DOp := dOr (dI (fun _ _ => True) fun i j => .int (i + j)) (dS (fun i j => i.length + j.length ≤ sizeLine) fun i j => .str (i ++ j))
def oSub : DOp := dI (fun _ _ => True) fun i j => .int (i - j)
def oMul : DOp := dI CMulD fun i j => .int (i * j)
def oFdiv : DOp := dI CFdiv fun i j => .int (fdivI i j)
def oMod : DOp := dI (fun _ j => j ≠ 0) fun i j => .int (modI i j)
def oPow : DOp := dI CPowD fun i j => .int (i ^ j.toNat)
def oLt : DOp := dOr (dI (fun _ _ => True) fun i j => .bl (decide (i < j))) (dS (fun _ _ => True) fun i j => .bl (decide (i.cps.toList < j.cps.toList)))
def oLe : DOp := dOr (dI (fun _ _ => True) fun i j => .bl (decide (i ≤ j))) (dS (fun _ _ => True) fun i j => .bl (!decide (j.cps.toList < i.cps.toList)))
def oGt : DOp := dOr (dI (fun _ _ => True) fun i j => .bl (decide (j < i))) (dS (fun _ _ => True) fun i j => .bl (decide (j.cps.toList < i.cps.toList)))
def oGe : DOp := dOr (dI (fun _ _ => True) fun i j => .bl (decide (j ≤ i))) (dS (fun _ _ => True) fun i j => .bl (!decide (i.cps.toList < j.cps.toList)))
/-- data are alike -/
def eqD (x y : D) : Bool := PyData.eqv (toPy x) (toPy y)
abbrev CEq (x y : D) : Prop := (toPy x).plain = true ∧ (toPy y).plain = true ∧ min (toPy x).depth (toPy y).depth ≤ 60
def oEq : DOp := fun m1 m2 => if CEq (fz m1) (fz m2) then .ok (.bl (eqD (fz m1) (fz m2))) else .bad
def oNe : DOp := fun m1 m2 => if CEq (fz m1) (fz m2) then .ok (.bl (!eqD (fz m1) (fz m2))) else .bad
def isNon : M → Bool
  | .d .non => true
  | _ => false
def oIs : DOp := fun m1 m2 => match m1, m2 with
  | m, .d .non => .ok (.bl (isNon m))
  | .d (.bl a), .d (.bl b) => .ok (.bl (a == b))
  | _, _ => .bad
def oIsNot : DOp := fun m1 m2 => match m1, m2 with
  | m, .d .non => .ok (.bl (!isNon m))
  | _, _ => .bad
/-- a flat thing among flat ones, one sign in a text -/
def flatD : D → Bool
  | .non => true | .bl _ => true | .int _ => true | .str _ => true
  | _ => false
def flatM : M → Bool
  | .d x => flatD x
  | _ => false
def D.V : D → V
  | .non => .non | .bl b => .bl b | .int i => .int i | .str x => .str x
  | _ => .non
def M.V : M → V
  | .d x => x.V
  | _ => .non
def inM (m1 m2 : M) : Res Bool := match m2.seq with
  | some (_, ms) => if flatM m1 = true ∧ ms.all flatM = true then .ok (inV m1.V (ms.map M.V)) else .bad
  | none => match m1, m2 with
    | .d (.str w), .d (.str z) => match w.cps.toList with
      | [c] => .ok (decide (c ∈ z.cps.toList))
      | _ => .bad
    | _, _ => .bad
def oIn : DOp := fun m1 m2 => match inM m1 m2 with
  | .ok b => .ok (.bl b)
  | _ => .bad
def oNotIn : DOp := fun m1 m2 => match inM m1 m2 with
  | .ok b => .ok (.bl (!b))
  | _ => .bad
theorem flat_rep {G : Gx} {Z H : Hp} {m : M} {T : Rg} {v : V} (r : RepM G Z H m T v) (f : flatM m = true) : v = m.V ∧ flatV v = true := by
  cases m with
  | d x =>
    simp only [RepM] at r
    cases x <;> simp_all [RepD, M.V, D.V, flatM, flatD, flatV]
  | _ => simp [flatM] at f
theorem flats_rep {G : Gx} {Z H : Hp} : ∀ {ms : List M} {T : Rg} {vs : List V}, RepMs G Z H ms T vs → ms.all flatM = true → vs = ms.map M.V ∧ vs.all flatV = true
  | [], _, _, r, _ => by simp only [RepMs] at r; subst r; exact ⟨rfl, rfl⟩
  | m :: ms, _, _, r, f => by
    simp only [RepMs] at r
    obtain ⟨v, r', T1, T2, rfl, _, _, _, q, r⟩ := r
    rw [List.all_cons, Bool.and_eq_true] at f
    obtain ⟨h1, h2⟩ := flat_rep q f.1
    obtain ⟨h3, h4⟩ := flats_rep r f.2
    exact ⟨by rw [List.map_cons, ← h1, ← h3], by rw [List.all_cons, h2, h4]; rfl⟩
def rEqP (K : PySem.W.Frag) : R2 := fun x y H Q => ∃ d e : PyData, Dp K H x d ∧ Dp K H y e ∧ d.plain = true ∧ e.plain = true ∧ min d.depth e.depth ≤ 60 ∧ Q (.bl (PyData.eqv d e)) H
def rNeP (K : PySem.W.Frag) : R2 := fun x y H Q => ∃ d e : PyData, Dp K H x d ∧ Dp K H y e ∧ d.plain = true ∧ e.plain = true ∧ min d.depth e.depth ≤ 60 ∧ Q (.bl (!PyData.eqv d e)) H
theorem one_sign {w : Str} {c : Nat} (h : w.cps.toList = [c]) : w = ⟨#[c]⟩ := by
  obtain ⟨a⟩ := w
  obtain ⟨l⟩ := a
  have h' : l = [c] := h
  subst h'
  rfl
section
variable {G : Gx} {X : Cx}
theorem op_eqP (hu : X.A.units + 64 < cLine) : OpR X (compareOp .Eq) (rEqP X.K) := by
  intro pins s σ H x y v u Q I rx ry h
  obtain ⟨d, e, hd, he, pd, pe, md, q⟩ := h
  obtain ⟨as, r1⟩ := Dp.reads I d x v hd rx
  obtain ⟨bs, r2⟩ := Dp.reads I e y u he ry
  exact PySem.SeqAt.eq_plain r1 r2 pd pe (by omega) ⟨.bl _, H, I, rfl, q⟩
theorem op_neP (hu : X.A.units + 64 < cLine) : OpR X (compareOp .NotEq) (rNeP X.K) := by
  intro pins s σ H x y v u Q I rx ry h
  obtain ⟨d, e, hd, he, pd, pe, md, q⟩ := h
  obtain ⟨as, r1⟩ := Dp.reads I d x v hd rx
  obtain ⟨bs, r2⟩ := Dp.reads I e y u he ry
  exact PySem.SeqAt.ne_plain r1 r2 pd pe (by omega) ⟨.bl _, H, I, rfl, q⟩
end
end FL

set_option maxHeartbeats 2000000
/-! FLD: the operators' rules; arguments, displays, calls. -/
namespace FL
open PySem L2 Classical

section
variable {G : Gx} {X : Cx}
theorem vop_add : VOP G (rOr (rI0 fun i j => .int (i + j)) (fun x y H Q => ∃ i j, x = .str i ∧ y = .str j ∧ i.length + j.length ≤ sizeLine ∧ Q (.str (i ++ j)) H)) oAdd := (vop_I0 fun _ _ _ => intD).or (vop_S fun _ _ _ _ => strD)
theorem opr_add : OpR X (binaryOp .Add) (rOr (rI0 fun i j => .int (i + j)) (fun x y H Q => ∃ i j, x = .str i ∧ y = .str j ∧ i.length + j.length ≤ sizeLine ∧ Q (.str (i ++ j)) H)) := OpR.orR op_add op_add_str
theorem vop_sub : VOP G (rI0 fun i j => .int (i - j)) oSub := vop_I0 fun _ _ _ => intD
theorem vop_mul : VOP G (rI CMulD fun i j => .int (i * j)) oMul := vop_I fun _ _ _ _ => intD
theorem opr_mul : OpR X (binaryOp .Mult) (rI CMulD fun i j => .int (i * j)) := opI fun _ _ _ _ _ _ _ hc q => PyProof.Rows.mul_int q (mulOkD hc)
theorem opr_pow : OpR X (binaryOp .Pow) (rI CPowD fun i j => .int (i ^ j.toNat)) := op_pow
theorem vop_fdiv : VOP G (rI CFdiv fun i j => .int (fdivI i j)) oFdiv := vop_I fun _ _ _ _ => intD
theorem vop_mod : VOP G (rI (fun _ j => j ≠ 0) fun i j => .int (modI i j)) oMod := vop_I fun _ _ _ _ => intD
theorem vop_pow : VOP G (rI CPowD fun i j => .int (i ^ j.toNat)) oPow := vop_I fun _ _ _ _ => intD
theorem vop_lt : VOP G (rOr (rI0 fun i j => .bl (decide (i < j))) (fun x y H Q => ∃ i j, x = .str i ∧ y = .str j ∧ Q (.bl (decide (i.cps.toList < j.cps.toList))) H)) oLt := (vop_I0 fun _ _ _ => blD).or (vop_S0 fun _ _ _ => blD)
theorem opr_lt : OpR X (compareOp .Lt) (rOr (rI0 fun i j => .bl (decide (i < j))) (fun x y H Q => ∃ i j, x = .str i ∧ y = .str j ∧ Q (.bl (decide (i.cps.toList < j.cps.toList))) H)) := OpR.orR op_lt op_lt_str
theorem vop_le : VOP G (rOr (rI0 fun i j => .bl (decide (i ≤ j))) (fun x y H Q => ∃ i j, x = .str i ∧ y = .str j ∧ Q (.bl (!decide (j.cps.toList < i.cps.toList))) H)) oLe := (vop_I0 fun _ _ _ => blD).or (vop_S0 fun _ _ _ => blD)
theorem opr_le : OpR X (compareOp .LtE) (rOr (rI0 fun i j => .bl (decide (i ≤ j))) (fun x y H Q => ∃ i j, x = .str i ∧ y = .str j ∧ Q (.bl (!decide (j.cps.toList < i.cps.toList))) H)) := OpR.orR op_le op_le_str
theorem vop_gt : VOP G (rOr (rI0 fun i j => .bl (decide (j < i))) (fun x y H Q => ∃ i j, x = .str i ∧ y = .str j ∧ Q (.bl (decide (j.cps.toList < i.cps.toList))) H)) oGt := (vop_I0 fun _ _ _ => blD).or (vop_S0 fun _ _ _ => blD)
theorem opr_gt : OpR X (compareOp .Gt) (rOr (rI0 fun i j => .bl (decide (j < i))) (fun x y H Q => ∃ i j, x = .str i ∧ y = .str j ∧ Q (.bl (decide (j.cps.toList < i.cps.toList))) H)) := OpR.orR op_gt op_gt_str
theorem vop_ge : VOP G (rOr (rI0 fun i j => .bl (decide (j ≤ i))) (fun x y H Q => ∃ i j, x = .str i ∧ y = .str j ∧ Q (.bl (!decide (i.cps.toList < j.cps.toList))) H)) oGe := (vop_I0 fun _ _ _ => blD).or (vop_S0 fun _ _ _ => blD)
theorem opr_ge : OpR X (compareOp .GtE) (rOr (rI0 fun i j => .bl (decide (j ≤ i))) (fun x y H Q => ∃ i j, x = .str i ∧ y = .str j ∧ Q (.bl (!decide (i.cps.toList < j.cps.toList))) H)) := OpR.orR op_ge op_ge_str
theorem vop_eq : VOP G (rEqP G.K) oEq := fun Z H m1 T1 v1 m2 T2 v2 Q zh r1 r2 => by
  unfold oEq
  by_cases c : CEq (fz m1) (fz m2)
  · rw [if_pos c]
    exact fun q => ⟨_, _, r1.dp zh c.1, r2.dp zh c.2.1, c.1, c.2.1, c.2.2, q _ blD⟩
  · rw [if_neg c]; trivial
theorem vop_ne : VOP G (rNeP G.K) oNe := fun Z H m1 T1 v1 m2 T2 v2 Q zh r1 r2 => by
  unfold oNe
  by_cases c : CEq (fz m1) (fz m2)
  · rw [if_pos c]
    exact fun q => ⟨_, _, r1.dp zh c.1, r2.dp zh c.2.1, c.1, c.2.1, c.2.2, q _ blD⟩
  · rw [if_neg c]; trivial
theorem isNon_rep {Z H : Hp} {m : M} {T : Rg} {v : V} (r : RepM G Z H m T v) : decide (v = .non) = isNon m := by
  cases m with
  | d x => cases x <;> simp_all [RepM, RepD, isNon] <;> (obtain ⟨a, r⟩ := r; simp_all) <;> (try (obtain ⟨_, r⟩ := r; simp_all))
  | _ => simp_all [RepM, isNon] <;> (obtain ⟨a, r⟩ := r; simp_all) <;> (try (obtain ⟨_, r⟩ := r; simp_all))
def rIsO : R2 := rOr (fun x y H Q => y = .non ∧ Q (.bl (decide (x = .non))) H) rIsB
theorem opr_is : OpR X (compareOp .Is) rIsO := OpR.orR op_isN op_isBl
theorem vop_is : VOP G rIsO oIs := fun Z H m1 T1 v1 m2 T2 v2 Q zh r1 r2 => by
  unfold oIs
  split
  · rename_i e
    intro q
    split at e
    · cases e
      exact .inl ⟨rep_non r2, by rw [isNon_rep r1]; exact q _ blD⟩
    · cases e
      refine .inr ⟨_, _, rep_bl r1, rep_bl r2, ?_⟩
      have := q _ blD
      simpa [Bool.beq_eq_decide_eq] using this
    · cases e
  · trivial
theorem vop_isnot : VOP G (fun x y H Q => y = .non ∧ Q (.bl (!decide (x = .non))) H) oIsNot := fun Z H m1 T1 v1 m2 T2 v2 Q zh r1 r2 => by
  unfold oIsNot
  split
  · rename_i e
    intro q
    split at e
    · cases e
      exact ⟨rep_non r2, by rw [isNon_rep r1]; exact q _ blD⟩
    · cases e
  · trivial
def rInO (K : PySem.W.Frag) : R2 := rOr (rIn K false) (fun x y H Q => ∃ (c : Nat) (z : Str), x = .str ⟨#[c]⟩ ∧ y = .str z ∧ Q (.bl (decide (c ∈ z.cps.toList))) H)
def rNotInO (K : PySem.W.Frag) : R2 := rOr (rIn K true) (fun x y H Q => ∃ (c : Nat) (z : Str), x = .str ⟨#[c]⟩ ∧ y = .str z ∧ Q (.bl (!decide (c ∈ z.cps.toList))) H)
theorem opr_in : OpR X (compareOp .In) (rInO X.K) := OpR.orR op_in_seq op_in_sign
theorem opr_notin : OpR X (compareOp .NotIn) (rNotInO X.K) := OpR.orR op_notIn_seq op_notIn_sign
theorem vop_in : VOP G (rInO G.K) oIn := fun Z H m1 T1 v1 m2 T2 v2 Q zh r1 r2 => by
  unfold oIn inM
  cases e : m2.seq with
  | some p =>
    obtain ⟨b, ms⟩ := p
    simp only
    by_cases f : flatM m1 = true ∧ ms.all flatM = true
    · rw [if_pos f]
      intro q
      obtain ⟨a, vs, rfl, h1, h2, h3⟩ := r2.seq zh e
      obtain ⟨e1, f1⟩ := flat_rep r1 f.1
      obtain ⟨e2, f2⟩ := flats_rep h3 f.2
      refine .inl ⟨a, vs, rfl, ?_, f1, f2, ?_⟩
      · cases b with
        | true => exact .inr (h1 rfl)
        | false => exact .inl (h2 rfl)
      · rw [if_neg Bool.false_ne_true, e1, e2]; exact q _ blD
    · rw [if_neg f]; trivial
  | none =>
    simp only
    split
    · rename_i e2
      intro q
      split at e2
      · rename_i b e3
        split at e3
        · split at e3
          · rename_i w z _ c ec
            cases e3; cases e2
            have h1 := rep_str r1
            rw [one_sign ec] at h1
            exact .inr ⟨_, _, h1, rep_str r2, q _ blD⟩
          · cases e3
        · cases e3
      · cases e2
    · trivial
theorem vop_notin : VOP G (rNotInO G.K) oNotIn := fun Z H m1 T1 v1 m2 T2 v2 Q zh r1 r2 => by
  unfold oNotIn inM
  cases e : m2.seq with
  | some p =>
    obtain ⟨b, ms⟩ := p
    simp only
    by_cases f : flatM m1 = true ∧ ms.all flatM = true
    · rw [if_pos f]
      intro q
      obtain ⟨a, vs, rfl, h1, h2, h3⟩ := r2.seq zh e
      obtain ⟨e1, f1⟩ := flat_rep r1 f.1
      obtain ⟨e2, f2⟩ := flats_rep h3 f.2
      refine .inl ⟨a, vs, rfl, ?_, f1, f2, ?_⟩
      · cases b with
        | true => exact .inr (h1 rfl)
        | false => exact .inl (h2 rfl)
      · rw [if_pos rfl, e1, e2]; exact q _ blD
    · rw [if_neg f]; trivial
  | none =>
    simp only
    split
    · rename_i e2
      intro q
      split at e2
      · rename_i b e3
        split at e3
        · split at e3
          · rename_i w z _ c ec
            cases e3; cases e2
            have h1 := rep_str r1
            rw [one_sign ec] at h1
            exact .inr ⟨_, _, h1, rep_str r2, q _ blD⟩
          · cases e3
        · cases e3
      · cases e2
    · trivial

/-! ### subscripts -/
def mIdx (m1 m2 : M) : Res M := match m2 with
  | .d (.int i) => match m1.seq with
    | some (_, ms) => match atI ms i with
      | some x => .ok x
      | none => .bad
    | none => match m1 with
      | .d (.str z) => if z.length ≤ sizeLine then (match atI z.cps.toList i with
        | some c => .ok (.d (.str ⟨#[c]⟩))
        | none => .bad) else .bad
      | _ => .bad
  | _ => .bad
def oIdx : DOp := fun m1 m2 => match mIdx m1 m2 with
  | .ok (.d x) => .ok x
  | _ => .bad
def vIx (ga gb : VE) : VE := fun env => match ga env, gb env with
  | .ok m1, .ok m2 => mIdx m1 m2
  | _, _ => .bad
theorem atI_rep {Z H : Hp} {ms : List M} {T : Rg} {vs : List V} {i : Int} {x : M} (r : RepMs G Z H ms T vs) (e : atI ms i = some x) : ∃ v, atI vs i = some v ∧ RepM G Z H x T v := by
  unfold atI at e ⊢
  rw [← r.len]
  cases q : ixN ms.length i with
  | none => rw [q] at e; cases e
  | some j =>
    rw [q] at e
    exact RepMs.get r e
theorem mIdx_rep {Z H : Hp} {m1 m2 x : M} {T1 T2 : Rg} {v1 v2 : V} {Q : VK} (zh : Same Z H) (r1 : RepM G Z H m1 T1 v1) (r2 : RepM G Z H m2 T2 v2) (e : mIdx m1 m2 = .ok x) (q : ∀ u, RepM G Z H x T1 u → Q u H) : rIx G.K v1 v2 H Q := by
  unfold mIdx at e
  split at e
  · rename_i i
    have e2 := rep_int r2
    subst e2
    cases es : m1.seq with
    | some p =>
      obtain ⟨b, ms⟩ := p
      rw [es] at e
      simp only at e
      obtain ⟨a, vs, rfl, h1, h2, h3⟩ := r1.seq zh es
      cases ea : atI ms i with
      | none => rw [ea] at e; cases e
      | some y =>
        rw [ea] at e
        cases e
        obtain ⟨v, hv, rv⟩ := atI_rep h3 ea
        cases b with
        | true => exact .inr (.inl ⟨a, vs, i, v, rfl, rfl, h1 rfl, hv, q v rv⟩)
        | false => exact .inl ⟨a, vs, i, v, rfl, rfl, h2 rfl, hv, q v rv⟩
    | none =>
      rw [es] at e
      simp only at e
      split at e
      · rename_i z
        have e1 := rep_str r1
        subst e1
        split at e
        · rename_i hz
          cases ec : atI z.cps.toList i with
          | none => rw [ec] at e; cases e
          | some c =>
            rw [ec] at e
            cases e
            exact .inr (.inr ⟨z, i, c, rfl, rfl, hz, ec, q _ (by simp [RepM, RepD])⟩)
        · cases e
      · cases e
  · cases e
theorem vop_ix : VOP G (rIx G.K) oIdx := fun Z H m1 T1 v1 m2 T2 v2 Q zh r1 r2 => by
  unfold oIdx
  cases e : mIdx m1 m2 with
  | ok x =>
    cases x with
    | d y => exact fun q => mIdx_rep zh r1 r2 e fun u ru => q u (by simpa [RepM] using ru)
    | _ => trivial
  | _ => trivial
theorem xv_ix {a b : Expr} {pos : Pos} {ga gb : VE} (hK : G.K = X.K) (ha : PVs G X a ga) (hb : PVs G X b gb) (hs : PlainIx b := by exact fun _ _ => rfl) : PVs G X (.Subscript a b pos) (vIx ga gb) := by
  obtain ⟨ta, pa, ha⟩ := ha.ex
  obtain ⟨tb, pb, hb⟩ := hb.ex
  refine ⟨_, pe_ix ix_seq pa pb hs, fun Z H σ env S Q gd => ?_⟩
  have h1 := ha Z H σ env S (fun x H1 => tb σ H1 fun y H2 => rIx X.K x y H2 Q) gd
  unfold vIx
  cases e1 : ga env with
  | ok m1 =>
    cases e2 : gb env with
    | ok m2 =>
      simp only
      cases e3 : mIdx m1 m2 with
      | ok x =>
        intro q
        rw [e1] at h1
        refine h1 fun v T1 t1 r1 => ?_
        have h2 := hb Z H σ env S (fun y H2 => rIx X.K v y H2 Q) gd
        rw [e2] at h2
        refine h2 fun w T2 _ r2 => ?_
        rw [← hK]
        exact mIdx_rep gd.zh r1 r2 e3 fun u ru => q u T1 t1 ru
      | _ => trivial
    | _ => trivial
  | _ => trivial
end
end FL

set_option maxHeartbeats 2000000
/-! FLE: argument rows, displays, calls. -/
namespace FL
open PySem L2 Classical

def Rs.cons (T : Rg) (S : Rs) : Rs
  | 0 => T
  | j + 1 => S j
theorem Rs.cons_U {T : Rg} {S : Rs} {a : Addr} : U (S.cons T) a ↔ T a ∨ U S a := by
  constructor
  · rintro ⟨i, h⟩
    cases i with
    | zero => exact .inl h
    | succ j => exact .inr ⟨j, h⟩
  · rintro (h | ⟨j, h⟩)
    · exact ⟨0, h⟩
    · exact ⟨j + 1, h⟩
section
variable {G : Gx} {Z Z' H H' : Hp} {σ : St} {env : Env} {S T : Rs} {m : M} {v : V} {T1 : Rg}
theorem Good.nil (zh : Same Z H) : Good G Z H [] [] (fun _ _ => False) := ⟨zh, fun i m e => by simp at e, fun _ _ _ h => h.elim, fun _ _ h => h.elim, fun _ _ h => h.elim, rfl⟩
theorem U_none {a : Addr} (h : U (fun _ _ => False) a) : False := by obtain ⟨_, h⟩ := h; exact h
theorem Good.cons (g : Good G Z H σ env S) (h : Hld G Z H (U S) m T1 v) : Good G Z H (some v :: σ) (some m :: env) (S.cons T1) := by
  refine ⟨g.zh, fun i m' e => ?_, fun i j a h1 h2 => ?_, fun i a h1 => ?_, fun i a h1 => ?_, by simp [g.len]⟩
  · cases i with
    | zero => simp at e; subst e; exact ⟨v, rfl, h.rep⟩
    | succ i =>
      obtain ⟨w, hw, r⟩ := g.rep i m' (by simpa using e)
      exact ⟨w, by simpa using hw, r⟩
  · cases i with
    | zero =>
      cases j with
      | zero => rfl
      | succ j => exact absurd ⟨j, h2⟩ (h.dj a h1)
    | succ i =>
      cases j with
      | zero => exact absurd ⟨i, h1⟩ (h.dj a h2)
      | succ j => rw [g.dj i j a h1 h2]
  · cases i with
    | zero => exact h.al a h1
    | succ i => exact g.al i a h1
  · cases i with
    | zero => exact h.zf a h1
    | succ i => exact g.zf i a h1
/-- the tail of a row -/
theorem Good.tail {o : Option V} {p : Option M} (g : Good G Z H (o :: σ) (p :: env) S) : Good G Z H σ env (fun j => S (j + 1)) :=
  ⟨g.zh, fun i m e => by simpa using g.rep (i + 1) m (by simpa using e), fun i j a h1 h2 => by have := g.dj (i + 1) (j + 1) a h1 h2; omega, fun i => g.al (i + 1), fun i => g.zf (i + 1), by simpa using g.len⟩
theorem Good.head {o : Option V} (g : Good G Z H (o :: σ) (some m :: env) S) : ∃ v, o = some v ∧ Hld G Z H (U fun j => S (j + 1)) m (S 0) v := by
  obtain ⟨v, hv, r⟩ := g.rep 0 m rfl
  refine ⟨v, by simpa using hv, r, g.al 0, g.zf 0, fun a h ⟨j, q⟩ => ?_⟩
  have := g.dj 0 (j + 1) a h q
  omega
theorem Good.row : ∀ {ms : List M} {vs : List V} {T : Rs}, Good G Z H (vs.map some) (ms.map some) T → RepMs G Z H ms (U T) vs
  | [], vs, T, g => by
    have := g.len
    cases vs with
    | nil => simp [RepMs]
    | cons _ _ => simp at this
  | m :: ms, vs, T, g => by
    cases vs with
    | nil => have := g.len; simp at this
    | cons v vs =>
      obtain ⟨w, hw, h⟩ := g.head
      cases hw
      simp only [RepMs]
      refine ⟨v, vs, T 0, _, rfl, fun b z => ⟨0, z⟩, fun b ⟨j, z⟩ => ⟨j + 1, z⟩, fun b z => h.dj b z, h.rep, g.tail.row⟩
end

/-! ### arguments -/
/-- bk: for an argument that is a name's datum, lent: the name's slot -/
abbrev Bk := List (Option Nat)
def SAok' (G : Gx) (W : WX') (bk : Bk) (t : TA) (f : SA) : Prop := ∀ (Z H : Hp) (σ : St) (env : Env) (S : Rs) (Q : List V → Hp → Prop), Good G Z H σ env S →
  match f env with
  | .ok (ms, env') => (∀ vs Z' H' S' T, Stp Z H (U S) Z' H' (fun a => U S' a ∨ U T a) → Good G Z' H' σ env' S' → Good G Z' H' (vs.map some) (ms.map some) T → (∀ a, U T a → ¬ U S' a) →
      (∀ (j i : Nat), bk[j]? = some (some i) → ∀ v, vs[j]? = some v → σ[i]? = some (some v)) → Q vs H') → t σ H Q
  | .exc e env' => (∀ cls d Z' H' S', ExcAt G H' e cls d → Stp Z H (U S) Z' H' (U S') → Good G Z' H' σ env' S' → W cls d σ H') → t σ H Q
  | .bad => True
structure PAs' (G : Gx) (X : Cx) (W : WX') (es : List Expr) (bk : Bk) (f : SA) : Prop where
  ex : ∃ t, PA X es t ∧ SAok' G W bk t f
def saNil : SA := fun env => .ok ([], env)
def saCons (f : SE) (fs : SA) : SA := fun env => match f env with
  | .ok (m, e1) => match fs e1 with
    | .ok (ms, e2) => .ok (m :: ms, e2)
    | .exc e v => .exc e v
    | .bad => .bad
  | .exc e v => .exc e v
  | .bad => .bad
section
variable {G : Gx} {X : Cx} {W : WX'} {e : Expr} {es : List Expr} {f : SE} {fs : SA} {bk : Bk} {te : TE} {t : TA}
theorem SAok.nil : SAok' G W [] tNil saNil := fun Z H σ env S Q gd => by
  intro q
  exact q [] Z H S (fun _ _ => False) ((Stp.refl gd.zh).weak fun _ z => z.elim id fun z => (U_none z).elim) gd (Good.nil gd.zh) (fun _ z => (U_none z).elim) (fun j i h => by simp at h)
theorem SAok.consG {b : Option Nat} (h : SEok G W te f) 
    (hp : ∀ i, b = some i → te = tVar i) (hs : SAok' G W bk t fs) : SAok' G W (b :: bk) (tCons te t) (saCons f fs) := fun Z H σ env S Q gd => by
  unfold saCons
  have h1 := h Z H σ env S
  cases e1 : f env with
  | bad => trivial
  | exc x v => have h1 := h1 (fun x H1 => t σ H1 fun xs H2 => Q (x :: xs) H2) gd; rw [e1] at h1; exact h1
  | ok p =>
    obtain ⟨m, env1⟩ := p
    simp only
    cases e2 : fs env1 with
    | bad => trivial
    | exc x v =>
      intro q
      have h1 := h1 (fun x H1 => t σ H1 fun xs H2 => Q (x :: xs) H2) gd
      rw [e1] at h1
      refine h1 fun v1 Z1 H1 S1 T1 s1 g1 l1 => ?_
      have h2 := hs Z1 H1 σ env1 S1 (fun xs H2 => Q (v1 :: xs) H2) g1
      rw [e2] at h2
      refine h2 fun cls d Z2 H2 S2 x2 s2 g2 => ?_
      exact q cls d Z2 H2 S2 x2 (s1.trans ((s2.frame T1).weak fun _ z => .inl z)) g2
    | ok p2 =>
      obtain ⟨ms, env2⟩ := p2
      intro q
      cases hb' : b with
      | none =>
        have h1 := h1 (fun x H1 => t σ H1 fun xs H2 => Q (x :: xs) H2) gd
        rw [e1] at h1
        refine h1 fun v1 Z1 H1 S1 T1 s1 g1 l1 => ?_
        have h2 := hs Z1 H1 σ env1 S1 (fun xs H2 => Q (v1 :: xs) H2) g1
        rw [e2] at h2
        refine h2 fun vs Z2 H2 S2 T2 s2 g2 r2 d2 k2 => ?_
        have l2 := l1.step s2
        refine q (v1 :: vs) Z2 H2 S2 (T2.cons T1) ((s1.trans (s2.frame T1)).weak ?_) g2 ?_ ?_ ?_
        · intro a z
          rcases z with z | z
          · exact .inl (.inl z)
          · rcases Rs.cons_U.mp z with z | z
            · exact .inr z
            · exact .inl (.inr z)
        · exact r2.cons ⟨l2.rep, l2.al, l2.zf, fun a z w => l2.dj a z (.inr w)⟩
        · intro a z
          rcases Rs.cons_U.mp z with z | z
          · exact fun w => l2.dj a z (.inl w)
          · exact d2 a z
        · intro j i hj v hv
          cases j with
          | zero => simp [hb'] at hj
          | succ j => exact k2 j i (by simpa using hj) v (by simpa using hv)
      | some i =>
        have ht := hp i hb'
        have h1 := h1 (fun x H1 => σ[i]? = some (some x) → t σ H1 fun xs H2 => Q (x :: xs) H2) gd
        rw [e1] at h1
        have h1 := h1 fun v1 Z1 H1 S1 T1 s1 g1 l1 => by
          intro hv1
          have h2 := hs Z1 H1 σ env1 S1 (fun xs H2 => Q (v1 :: xs) H2) g1
          rw [e2] at h2
          refine h2 fun vs Z2 H2 S2 T2 s2 g2 r2 d2 k2 => ?_
          have l2 := l1.step s2
          refine q (v1 :: vs) Z2 H2 S2 (T2.cons T1) ((s1.trans (s2.frame T1)).weak ?_) g2 ?_ ?_ ?_
          · intro a z
            rcases z with z | z
            · exact .inl (.inl z)
            · rcases Rs.cons_U.mp z with z | z
              · exact .inr z
              · exact .inl (.inr z)
          · exact r2.cons ⟨l2.rep, l2.al, l2.zf, fun a z w => l2.dj a z (.inr w)⟩
          · intro a z
            rcases Rs.cons_U.mp z with z | z
            · exact fun w => l2.dj a z (.inl w)
            · exact d2 a z
          · intro j i' hj v hv
            cases j with
            | zero => simp [hb'] at hj hv; subst hj; subst hv; exact hv1
            | succ j => exact k2 j i' (by simpa using hj) v (by simpa using hv)
        rw [ht] at h1 ⊢
        obtain ⟨w, hw, z⟩ := h1
        exact ⟨w, hw, z hw⟩
theorem xa_nil : PAs' G X W [] [] saNil := ⟨_, pa_nil, SAok.nil⟩
theorem xa_cons (h : PEs G X W e f) (hs : PAs' G X W es bk fs) (hst : starEach (e :: es) X.env = (false, eval e X.env) :: starEach es X.env := by rfl) : PAs' G X W (e :: es) (none :: bk) (saCons f fs) := by
  obtain ⟨te, p, h⟩ := h.ex
  obtain ⟨t, p2, h2⟩ := hs.ex
  exact ⟨_, pa_cons p p2 hst, SAok.consG (b := none) h (fun _ z => nomatch z) h2⟩
/-- a name's datum is lent -/
theorem xa_lend (i : Nat) {x : Str} {pos : Pos} (hs : PAs' G X W es bk fs) (hN : X.N[i]? = some x := by rfl) (hv : Vis X.env.scope x := by first | exact Or.inl rfl | exact Or.inr (Or.inl rfl) | exact Or.inr (Or.inr rfl)) (hd : (x == ("__debug__" : Str)) = false := by decide)
    (hcd : (x == ("__classdict__" : Str)) = false := by decide) (hst : starEach (.Name x pos :: es) X.env = (false, eval (.Name x pos) X.env) :: starEach es X.env := by rfl) : PAs' G X W (.Name x pos :: es) (some i :: bk) (saCons (sT i) fs) := by
  obtain ⟨t, p2, h2⟩ := hs.ex
  refine ⟨_, pa_cons (pe_var hN hv hd hcd) p2 hst, SAok.consG (b := some i) (te := tVar i) (fun Z H σ env S Q gd => ?_) (fun j z => by cases z; rfl) h2⟩
  unfold sT
  rcases getE_cases env i with ⟨m, e⟩ | e
  · rw [e]
    intro q
    obtain ⟨v, hv, g1, h1⟩ := gd.take (getE_ok e)
    exact ⟨v, hv, q v Z H _ (S i) ((Stp.refl gd.zh).weak fun a z => z.elim Rs.wipe_le fun z => ⟨i, z⟩) g1 h1⟩
  · rw [e]; trivial
end

/-! ### displays -/
theorem Stp.new {Z H : Hp} {p : Addr} {o : HO} (zh : Same Z H) (hp : H p = none) (R : Rg) : Stp Z H R Z (upd H p o) (fun a => R a ∨ a = p) :=
  ⟨Same.refl _, fun a u e => by rw [upd_ne (ne_of_none (zh a u e) hp)]; exact zh a u e, fun b u e _ => by rw [upd_ne (ne_of_none e hp)]; exact e,
    fun a q => q.elim .inl fun e => .inr (by rw [e]; exact hp), fun a q => .inl q⟩
/-- a new object that is frozen at once -/
theorem Stp.newZ {Z H : Hp} {p : Addr} {o : HO} (zh : Same Z H) (hp : H p = none) (R : Rg) : Stp Z H R (upd Z p o) (upd H p o) R := by
  have zp : Z p = none := by
    cases e : Z p with
    | none => rfl
    | some u => rw [zh p u e] at hp; cases hp
  refine ⟨fun a u e => by rw [upd_ne (ne_of_none e zp)]; exact e, fun a u e => ?_, fun b u e _ => by rw [upd_ne (ne_of_none e hp)]; exact e, fun a q => .inl q, fun a q => ?_⟩
  · by_cases h : a = p
    · subst h; rw [upd_same] at e ⊢; exact e
    · rw [upd_ne h] at e ⊢; exact zh a u e
  · by_cases h : a = p
    · subst h; exact .inr (.inr hp)
    · rw [upd_ne h] at q; exact .inl q
def isD : M → Bool
  | .d _ => true
  | _ => false
def unD : M → D
  | .d x => x
  | _ => .non
theorem allD_rep {G : Gx} {Z H : Hp} : ∀ {ms : List M} {T : Rg} {vs : List V}, RepMs G Z H ms T vs → ms.all isD = true → RepDs G Z (ms.map unD) vs
  | [], _, _, r, _ => by simp only [RepMs] at r; subst r; simp [RepDs]
  | m :: ms, _, _, r, f => by
    simp only [RepMs] at r
    obtain ⟨v, r', T1, T2, rfl, _, _, _, q, r⟩ := r
    rw [List.all_cons, Bool.and_eq_true] at f
    cases m with
    | d x =>
      simp only [RepM] at q
      simp only [List.map_cons, unD, RepDs]
      exact ⟨v, r', rfl, q, allD_rep r f.2⟩
    | _ => cases f.1
/-- a tuple of such items: frozen where they are -/
def mTup (ms : List M) : M := if ms.all isD = true then .d (.tup (ms.map unD)) else .tup ms
def sTup (fs : SA) : SE := fun env => match fs env with
  | .ok (ms, e) => if ms.length ≤ sizeLine then .ok (mTup ms, e) else .bad
  | .exc e v => .exc e v
  | .bad => .bad
def sLst (fs : SA) : SE := fun env => match fs env with
  | .ok (ms, e) => if ms.length ≤ sizeLine then .ok (.lst ms, e) else .bad
  | .exc e v => .exc e v
  | .bad => .bad
section
variable {G : Gx} {X : Cx} {W : WX'} {es : List Expr} {fs : SA} {bk : Bk} {pos : Pos}
/-- a list newly made of a row -/
theorem lst_new {Z H : Hp} {ms : List M} {vs : List V} {T R : Rg} {p : Addr} (zh : Same Z H) (r : RepMs G Z H ms T vs) (al : ∀ a, T a → H a ≠ none) (zf : ∀ a, T a → Z a = none) (dj : ∀ a, T a → ¬ R a) (hp : H p = none) (pR : ¬ R p) :
    Hld G Z (upd H p (.lst vs)) R (.lst ms) (fun a => T a ∨ a = p) (.ref p) := by
  have nT : ¬ T p := fun h => al p h hp
  have zp : Z p = none := by
    cases e : Z p with
    | none => rfl
    | some u => rw [zh p u e] at hp; cases hp
  refine ⟨?_, fun a h => ?_, fun a h => ?_, fun a h => ?_⟩
  · simp only [RepM]
    exact ⟨p, vs, T, rfl, .inr rfl, nT, fun b z => .inl z, upd_same, RepMs.mono (Same.refl _) _ _ _ _ (fun _ z => z) (fun a o sa e => by rw [upd_ne (ne_of_none e hp)]; exact e) r⟩
  · by_cases e : a = p
    · subst e; rw [upd_same]; exact fun z => nomatch z
    · rw [upd_ne e]; exact al a (h.elim id fun z => absurd z e)
  · exact h.elim (zf a) fun e => by rw [e]; exact zp
  · exact h.elim (dj a) fun e => by rw [e]; exact pR
theorem tup_new {Z H : Hp} {ms : List M} {vs : List V} {T R : Rg} {p : Addr} (zh : Same Z H) (r : RepMs G Z H ms T vs) (al : ∀ a, T a → H a ≠ none) (zf : ∀ a, T a → Z a = none) (dj : ∀ a, T a → ¬ R a) (hp : H p = none) (pR : ¬ R p) :
    Hld G Z (upd H p (.tup vs)) R (.tup ms) (fun a => T a ∨ a = p) (.ref p) := by
  have nT : ¬ T p := fun h => al p h hp
  have zp : Z p = none := by
    cases e : Z p with
    | none => rfl
    | some u => rw [zh p u e] at hp; cases hp
  refine ⟨?_, fun a h => ?_, fun a h => ?_, fun a h => ?_⟩
  · simp only [RepM]
    exact ⟨p, vs, T, rfl, .inr rfl, nT, fun b z => .inl z, upd_same, RepMs.mono (Same.refl _) _ _ _ _ (fun _ z => z) (fun a o sa e => by rw [upd_ne (ne_of_none e hp)]; exact e) r⟩
  · by_cases e : a = p
    · subst e; rw [upd_same]; exact fun z => nomatch z
    · rw [upd_ne e]; exact al a (h.elim id fun z => absurd z e)
  · exact h.elim (zf a) fun e => by rw [e]; exact zp
  · exact h.elim (dj a) fun e => by rw [e]; exact pR
/-- a row's regions -/
theorem Good.al' {Z H : Hp} {σ : St} {env : Env} {S : Rs} (g : Good G Z H σ env S) (a : Addr) (h : U S a) : H a ≠ none := by obtain ⟨i, h⟩ := h; exact g.al i a h
theorem Good.zf' {Z H : Hp} {σ : St} {env : Env} {S : Rs} (g : Good G Z H σ env S) (a : Addr) (h : U S a) : Z a = none := by obtain ⟨i, h⟩ := h; exact g.zf i a h
theorem SEok.lst {t : TA} (h : SAok' G W bk t fs) : SEok G W (tLst t) (sLst fs) := fun Z H σ env S Q gd => by
  unfold sLst
  have h1 := h Z H σ env S (fun xs H1 => xs.length ≤ sizeLine ∧ ∀ p, H1 p = none → Q (.ref p) (upd H1 p (.lst xs))) gd
  cases e1 : fs env with
  | bad => trivial
  | exc x v => rw [e1] at h1; exact h1
  | ok p =>
    obtain ⟨ms, env1⟩ := p
    rw [e1] at h1
    simp only
    by_cases hl : ms.length ≤ sizeLine
    · rw [if_pos hl]
      intro q
      refine h1 fun vs Z1 H1 S1 T s1 g1 r d k => ?_
      have rr := r.row
      refine ⟨by rw [← rr.len]; exact hl, fun p hp => ?_⟩
      have pS : ¬ U S1 p := fun z => g1.al' p z hp
      have st := Stp.new (o := .lst vs) g1.zh hp (fun a => U S1 a ∨ U T a)
      refine q (.ref p) Z1 _ S1 (fun a => U T a ∨ a = p) ((s1.trans st).weak fun a z => ?_) ?_ (lst_new g1.zh rr r.al' r.zf' d hp pS)
      · rcases z with z | z | z
        · exact .inl (.inl z)
        · exact .inl (.inr z)
        · exact .inr z
      · exact (g1.move (Stp.new (o := .lst vs) g1.zh hp (fun _ => False)) fun _ _ z => z).1
    · rw [if_neg hl]; trivial
theorem SEok.tup {t : TA} (h : SAok' G W bk t fs) : SEok G W (tTup t) (sTup fs) := fun Z H σ env S Q gd => by
  unfold sTup
  have h1 := h Z H σ env S (fun xs H1 => xs.length ≤ sizeLine ∧ ∀ p, H1 p = none → Q (.ref p) (upd H1 p (.tup xs))) gd
  cases e1 : fs env with
  | bad => trivial
  | exc x v => rw [e1] at h1; exact h1
  | ok p =>
    obtain ⟨ms, env1⟩ := p
    rw [e1] at h1
    simp only
    by_cases hl : ms.length ≤ sizeLine
    · rw [if_pos hl]
      intro q
      refine h1 fun vs Z1 H1 S1 T s1 g1 r d k => ?_
      have rr := r.row
      refine ⟨by rw [← rr.len]; exact hl, fun p hp => ?_⟩
      have pS : ¬ U S1 p := fun z => g1.al' p z hp
      unfold mTup at q
      by_cases hd : ms.all isD = true
      · rw [if_pos hd] at q
        have st := Stp.newZ (o := .tup vs) g1.zh hp (fun a => U S1 a ∨ U T a)
        refine q (.ref p) _ _ S1 (fun _ => False) ((s1.trans st).weak fun a z => z.elim .inl fun z => z.elim) (g1.move (Stp.newZ (o := .tup vs) g1.zh hp (fun _ => False)) fun _ _ z => z).1 (Hld.data ?_)
        simp only [RepD]
        exact ⟨p, vs, rfl, SqT.of upd_same, RepDs.mono st.z _ _ (allD_rep rr hd)⟩
      · rw [if_neg hd] at q
        have st := Stp.new (o := .tup vs) g1.zh hp (fun a => U S1 a ∨ U T a)
        refine q (.ref p) Z1 _ S1 (fun a => U T a ∨ a = p) ((s1.trans st).weak fun a z => ?_) ?_ (tup_new g1.zh rr r.al' r.zf' d hp pS)
        · rcases z with z | z | z
          · exact .inl (.inl z)
          · exact .inl (.inr z)
          · exact .inr z
        · exact (g1.move (Stp.new (o := .tup vs) g1.zh hp (fun _ => False)) fun _ _ z => z).1
    · rw [if_neg hl]; trivial
theorem xe_lst (h : PAs' G X W es bk fs) : PEs G X W (.List es pos) (sLst fs) := by
  obtain ⟨t, p, h⟩ := h.ex
  exact ⟨_, pe_lst p, SEok.lst h⟩
theorem xe_tup {x1} (h : PAs' G X W es bk fs) : PEs G X W (.Tuple es x1 pos) (sTup fs) := by
  obtain ⟨t, p, h⟩ := h.ex
  exact ⟨_, pe_tup p, SEok.tup h⟩
end

/-! ### calls of the program's own defs -/
abbrev FS := List M → Res (M × Env)
/-- what a def promises: what F tells -/
def spF (G : Gx) (n : Nat) (F : FS) : Sp := fun vs H Q E => vs.length = n ∧ ∃ (Z : Hp) (ms : List M) (T : Rs), Good G Z H (vs.map some) (ms.map some) T ∧ match F ms with
  | .ok (r, ms') => ∀ v Z' H' T' Tr, Stp Z H (U T) Z' H' (fun a => U T' a ∨ Tr a) → Good G Z' H' (vs.map some) ms' T' → Hld G Z' H' (U T') r Tr v → Q v H'
  | .exc e ms' => ∀ cls d Z' H' T', ExcAt G H' e cls d → Stp Z H (U T) Z' H' (U T') → Good G Z' H' (vs.map some) ms' T' → E cls d H'
  | .bad => False
def putBack : Bk → Env → Env → Env
  | some i :: bk, some m :: ms, env => putBack bk ms (env.set i (some m))
  | none :: bk, _ :: ms, env => putBack bk ms env
  | some i :: bk, none :: ms, env => putBack bk ms (env.set i none)
  | _, _, env => env
def sCall (F : FS) (bk : Bk) (fs : SA) : SE := fun env => match fs env with
  | .ok (ms, e1) => match F ms with
    | .ok (r, ms') => .ok (r, putBack bk ms' e1)
    | .exc e ms' => .exc e (putBack bk ms' e1)
    | .bad => .bad
  | .exc e v => .exc e v
  | .bad => .bad
theorem Good.weakS {G : Gx} {Z H : Hp} {σ : St} {env : Env} {S : Rs} (g : Good G Z H σ env S) {R : Rg} (_ : ∀ a, U S a → R a) : Good G Z H σ env S := g
theorem putBack_good {G : Gx} {Z H : Hp} {σ : St} : ∀ (bk : Bk) (vs : List V) (ms : Env) (T : Rs) (env : Env) (S : Rs), Good G Z H (vs.map some) ms T → Good G Z H σ env S → (∀ a, U T a → ¬ U S a) →
    (∀ (j i : Nat), bk[j]? = some (some i) → ∀ v, vs[j]? = some v → σ[i]? = some (some v)) → ∃ S', Good G Z H σ (putBack bk ms env) S' ∧ ∀ a, U S' a → U S a ∨ U T a
  | [], vs, ms, T, env, S, r, g, d, k => by
    unfold putBack
    exact ⟨S, g, fun a z => .inl z⟩
  | b :: bk, [], ms, T, env, S, r, g, d, k => by
    have : ms = [] := by have := r.len; simpa using this
    subst this
    have e : putBack (b :: bk) [] env = env := by unfold putBack; cases b <;> rfl
    rw [e]
    exact ⟨S, g, fun a z => .inl z⟩
  | b :: bk, v :: vs, [], T, env, S, r, g, d, k => by have := r.len; simp at this
  | none :: bk, v :: vs, m :: ms, T, env, S, r, g, d, k => by
    obtain ⟨S', g', h'⟩ := putBack_good bk vs ms (fun j => T (j + 1)) env S r.tail g (fun a ⟨j, z⟩ => d a ⟨j + 1, z⟩) (fun j i hj w hw => k (j + 1) i (by simpa using hj) w (by simpa using hw))
    refine ⟨S', by unfold putBack; exact g', fun a z => (h' a z).elim .inl fun ⟨j, z⟩ => .inr ⟨j + 1, z⟩⟩
  | some i :: bk, v :: vs, none :: ms, T, env, S, r, g, d, k => by
    obtain ⟨S', g', h'⟩ := putBack_good bk vs ms (fun j => T (j + 1)) (env.set i none) (S.set i fun _ => False) r.tail (g.kill i) (fun a ⟨j, z⟩ w => d a ⟨j + 1, z⟩ (Rs.wipe_le w)) (fun j i hj w hw => k (j + 1) i (by simpa using hj) w (by simpa using hw))
    refine ⟨S', by unfold putBack; exact g', fun a z => (h' a z).elim (fun z => .inl (Rs.wipe_le z)) fun ⟨j, z⟩ => .inr ⟨j + 1, z⟩⟩
  | some i :: bk, v :: vs, some m :: ms, T, env, S, r, g, d, k => by
    obtain ⟨w, hw, h⟩ := r.head
    cases hw
    have hs := k 0 i rfl v rfl
    have g1 := g.back (i := i) (m := m) (T := T 0) (v := v) ⟨h.rep, h.al, h.zf, fun a z => d a ⟨0, z⟩⟩ hs
    obtain ⟨S', g', h'⟩ := putBack_good bk vs ms (fun j => T (j + 1)) (env.set i (some m)) (S.set i (T 0)) r.tail g1 (fun a ⟨j, z⟩ w => (Rs.set_sub w).elim (d a ⟨j + 1, z⟩) fun w => h.dj a w ⟨j, z⟩) (fun j i hj w hw => k (j + 1) i (by simpa using hj) w (by simpa using hw))
    refine ⟨S', by unfold putBack; exact g', fun a z => (h' a z).elim (fun z => (Rs.set_sub z).elim .inl fun z => .inr ⟨0, z⟩) fun ⟨j, z⟩ => .inr ⟨j + 1, z⟩⟩
section
variable {G : Gx} {X : Cx} {W : WX'} {e : Expr} {es : List Expr} {fs : SA} {bk : Bk} {F : FS} {n k : Nat} {x : Str} {p pos : Pos} {f : Addr} {fd : FuncData} {ps : List Str}
theorem SEok.call {t : TA} (h : SAok' G W bk t fs) (hn : ∀ env ms e1, fs env = .ok (ms, e1) → ms.length = n) : SEok G W (tCallS (spF G n F) (WE W) t) (sCall F bk fs) := fun Z H σ env S Q gd => by
  unfold sCall
  have h1 := h Z H σ env S (fun vs H1 => spF G n F vs H1 Q (WE W σ)) gd
  cases e1 : fs env with
  | bad => trivial
  | exc x v => rw [e1] at h1; exact h1
  | ok p =>
    obtain ⟨ms, env1⟩ := p
    rw [e1] at h1
    simp only
    cases e2 : F ms with
    | bad => trivial
    | ok q2 =>
      obtain ⟨r, ms'⟩ := q2
      intro q
      refine h1 fun vs Z1 H1 S1 T s1 g1 row d kk => ?_
      have hl : vs.length = n := by rw [← hn env ms env1 e1]; have := row.len; simpa using this.symm
      refine ⟨hl, Z1, ms, T, row, ?_⟩
      rw [e2]
      intro v Z2 H2 T2 Tr s2 row2 hr
      obtain ⟨g2, d2⟩ := g1.move s2 fun a z w => d a w z
      obtain ⟨S3, g3, u3⟩ := putBack_good bk vs ms' T2 env1 S1 row2 g2 (fun a z w => d2 a w (.inl z)) kk
      have st : Stp Z H (U S) Z2 H2 (fun a => U S3 a ∨ Tr a) := (s1.trans ((s2.frame (U S1)).from fun a z => z.elim .inr .inl)).weak fun a z => by
        rcases z with z | z
        · exact (u3 a z).elim .inr fun z => .inl (.inl z)
        · exact .inl (.inr z)
      exact q v Z2 H2 S3 Tr st g3 ⟨hr.rep, hr.al, hr.zf, fun a z w => (u3 a w).elim (fun w => d2 a w (.inr z)) (hr.dj a z)⟩
    | exc x ms' =>
      intro q
      refine h1 fun vs Z1 H1 S1 T s1 g1 row d kk => ?_
      have hl : vs.length = n := by rw [← hn env ms env1 e1]; have := row.len; simpa using this.symm
      refine ⟨hl, Z1, ms, T, row, ?_⟩
      rw [e2]
      intro cls dd Z2 H2 T2 hx s2 row2
      obtain ⟨g2, d2⟩ := g1.move s2 fun a z w => d a w z
      obtain ⟨S3, g3, u3⟩ := putBack_good bk vs ms' T2 env1 S1 row2 g2 (fun a z w => d2 a w z) kk
      have st : Stp Z H (U S) Z2 H2 (U S3) := (s1.trans ((s2.frame (U S1)).from fun a z => z.elim .inr .inl)).weak fun a z => (u3 a z).elim .inr fun z => .inl z
      exact q cls dd Z2 H2 S3 hx st g3
end
end FL

set_option maxHeartbeats 2000000
/-! FLF: statements, loops, a def's promise by its body. -/
namespace FL
open PySem L2 Classical

inductive Fl where
  | nx | brk | ct | ret (m : M)
abbrev SS := Env → Res (Fl × Env)
abbrev Px := Nat → Prop
def Fix (P : Px) (σ σ' : St) : Prop := (∀ i, P i → σ'[i]? = σ[i]?) ∧ σ'.length = σ.length
theorem Fix.refl {P : Px} {σ : St} : Fix P σ σ := ⟨fun _ _ => rfl, rfl⟩
theorem Fix.trans {P : Px} {σ σ1 σ2 : St} (a : Fix P σ σ1) (b : Fix P σ1 σ2) : Fix P σ σ2 := ⟨fun i h => (b.1 i h).trans (a.1 i h), b.2.trans a.2⟩
/-- what is wanted of the ways out, from (Z, H, R, σ) on -/
def SPost (G : Gx) (W : WX') (P : Px) (D : Ends) (Z H : Hp) (R : Rg) (σ : St) : Res (Fl × Env) → Prop
  | .ok (.nx, e) => ∀ σ' Z' H' S', Fix P σ σ' → Stp Z H R Z' H' (U S') → Good G Z' H' σ' e S' → D.nx σ' H'
  | .ok (.brk, e) => ∀ σ' Z' H' S', Fix P σ σ' → Stp Z H R Z' H' (U S') → Good G Z' H' σ' e S' → D.bk σ' H'
  | .ok (.ct, e) => ∀ σ' Z' H' S', Fix P σ σ' → Stp Z H R Z' H' (U S') → Good G Z' H' σ' e S' → D.ct σ' H'
  | .ok (.ret m, e) => ∀ v σ' Z' H' S' T, Fix P σ σ' → Stp Z H R Z' H' (fun a => U S' a ∨ T a) → Good G Z' H' σ' e S' → Hld G Z' H' (U S') m T v → D.rt v H'
  | .exc x e => ∀ cls d σ' Z' H' S', ExcAt G H' x cls d → Fix P σ σ' → Stp Z H R Z' H' (U S') → Good G Z' H' σ' e S' → W cls d σ' H'
  | .bad => False
def SSok (G : Gx) (W : WX') (P : Px) (t : TS) (f : SS) : Prop := ∀ (D : Ends) (Z H : Hp) (σ : St) (env : Env) (S : Rs), Good G Z H σ env S → SPost G W P D Z H (U S) σ (f env) → t D σ H
structure PSs' (G : Gx) (X : Cx) (W : WX') (P : Px) (sts : List Stmt) (f : SS) : Prop where
  ex : ∃ t, PSs X sts t ∧ SSok G W P t f
structure PS' (G : Gx) (X : Cx) (W : WX') (P : Px) (st : Stmt) (f : SS) : Prop where
  ex : ∃ t, PS X st t ∧ SSok G W P t f
theorem SPost.shift {G : Gx} {W : WX'} {P : Px} {D : Ends} {Z H Z' H' : Hp} {R R' : Rg} {σ σ' : St} {r : Res (Fl × Env)} (p : SPost G W P D Z H R σ r) (st : Stp Z H R Z' H' R') (fx : Fix P σ σ') : SPost G W P D Z' H' R' σ' r := by
  cases r with
  | ok q =>
    obtain ⟨fl, e⟩ := q
    cases fl with
    | nx => exact fun σ2 Z2 H2 S2 f2 s2 g2 => p σ2 Z2 H2 S2 (fx.trans f2) (st.trans s2) g2
    | brk => exact fun σ2 Z2 H2 S2 f2 s2 g2 => p σ2 Z2 H2 S2 (fx.trans f2) (st.trans s2) g2
    | ct => exact fun σ2 Z2 H2 S2 f2 s2 g2 => p σ2 Z2 H2 S2 (fx.trans f2) (st.trans s2) g2
    | ret m => exact fun v σ2 Z2 H2 S2 T f2 s2 g2 h => p v σ2 Z2 H2 S2 T (fx.trans f2) (st.trans s2) g2 h
  | exc x e => exact fun cls d σ2 Z2 H2 S2 hx f2 s2 g2 => p cls d σ2 Z2 H2 S2 hx (fx.trans f2) (st.trans s2) g2
  | bad => exact p.elim
/-- other ends for the ways on -/
theorem SPost.ends {G : Gx} {W W' : WX'} {P : Px} {D D' : Ends} {Z H : Hp} {R : Rg} {σ : St} {r : Res (Fl × Env)} (p : SPost G W P D Z H R σ r)
    (hn : ∀ e, r = .ok (.nx, e) → ∀ σ' Z' H' S', Fix P σ σ' → Stp Z H R Z' H' (U S') → Good G Z' H' σ' e S' → D.nx σ' H' → D'.nx σ' H')
    (hb : ∀ σ' H', D.bk σ' H' → D'.bk σ' H') (hc : ∀ σ' H', D.ct σ' H' → D'.ct σ' H') (hr : ∀ v H', D.rt v H' → D'.rt v H') (hw : ∀ c d σ' H', W c d σ' H' → W' c d σ' H') : SPost G W' P D' Z H R σ r := by
  cases r with
  | ok q =>
    obtain ⟨fl, e⟩ := q
    cases fl with
    | nx => exact fun σ2 Z2 H2 S2 f2 s2 g2 => hn e rfl σ2 Z2 H2 S2 f2 s2 g2 (p σ2 Z2 H2 S2 f2 s2 g2)
    | brk => exact fun σ2 Z2 H2 S2 f2 s2 g2 => hb _ _ (p σ2 Z2 H2 S2 f2 s2 g2)
    | ct => exact fun σ2 Z2 H2 S2 f2 s2 g2 => hc _ _ (p σ2 Z2 H2 S2 f2 s2 g2)
    | ret m => exact fun v σ2 Z2 H2 S2 T f2 s2 g2 h => hr _ _ (p v σ2 Z2 H2 S2 T f2 s2 g2 h)
  | exc x e => exact fun cls d σ2 Z2 H2 S2 hx f2 s2 g2 => hw _ _ _ _ (p cls d σ2 Z2 H2 S2 hx f2 s2 g2)
  | bad => exact p.elim

def ssNil : SS := fun env => .ok (.nx, env)
def ssSeq (f g : SS) : SS := fun env => match f env with
  | .ok (.nx, e) => g e
  | r => r
def ssRet (f : SE) : SS := fun env => match f env with
  | .ok (m, e) => .ok (.ret m, e)
  | .exc x e => .exc x e
  | .bad => .bad
def ssDrop (f : SE) : SS := fun env => match f env with
  | .ok (_, e) => .ok (.nx, e)
  | .exc x e => .exc x e
  | .bad => .bad
def ssSet (i : Nat) (f : SE) : SS := fun env => match f env with
  | .ok (m, e) => if i < e.length then .ok (.nx, e.set i (some m)) else .bad
  | .exc x e => .exc x e
  | .bad => .bad
def ssIf (c : SB) (f g : SS) : SS := fun env => match c env with
  | .ok (true, e) => f e
  | .ok (false, e) => g e
  | .exc x e => .exc x e
  | .bad => .bad
def killAll (ds : List Nat) (env : Env) : Env := ds.foldl (fun e i => e.set i none) env
/-- slots that are read no more are forgotten, behind -/
def ssKill (ds : List Nat) (f : SS) : SS := fun env => match f env with
  | .ok (.nx, e) => .ok (.nx, killAll ds e)
  | r => r
theorem killAll_good {G : Gx} {Z H : Hp} {σ : St} : ∀ (ds : List Nat) {env : Env} {S : Rs}, Good G Z H σ env S → ∃ S', Good G Z H σ (killAll ds env) S' ∧ ∀ a, U S' a → U S a
  | [], _, S, g => ⟨S, g, fun _ z => z⟩
  | d :: ds, env, S, g => by
    obtain ⟨S', g', h⟩ := killAll_good ds (g.kill d)
    exact ⟨S', g', fun a z => Rs.wipe_le (h a z)⟩
section
variable {G : Gx} {X : Cx} {W : WX'} {P : Px} {st : Stmt} {sts : List Stmt} {f g : SS} {fe : SE} {e : Expr} {t u : TS} {te : TE} {pos : Pos}
theorem SSok.nil : SSok G W P tNext ssNil := fun D Z H σ env S gd p => p σ Z H S Fix.refl (Stp.refl gd.zh) gd
theorem SSok.seq (h1 : SSok G W P t f) (h2 : SSok G W P u g) : SSok G W P (tSeq t u) (ssSeq f g) := fun D Z H σ env S gd p => by
  unfold ssSeq at p
  refine h1 { D with nx := u D } Z H σ env S gd ?_
  cases e : f env with
  | ok q =>
    obtain ⟨fl, e1⟩ := q
    rw [e] at p
    cases fl with
    | nx => exact fun σ' Z' H' S' fx s' g' => h2 D Z' H' σ' e1 S' g' (p.shift s' fx)
    | brk => exact p
    | ct => exact p
    | ret m => exact p
  | exc x e1 => rw [e] at p; exact p
  | bad => rw [e] at p; exact p.elim
theorem SSok.kill (ds : List Nat) (h : SSok G W P t f) : SSok G W P t (ssKill ds f) := fun D Z H σ env S gd p => by
  unfold ssKill at p
  refine h D Z H σ env S gd ?_
  cases e : f env with
  | ok q =>
    obtain ⟨fl, e1⟩ := q
    rw [e] at p
    cases fl with
    | nx =>
      intro σ' Z' H' S' fx s' g'
      obtain ⟨S2, g2, h2⟩ := killAll_good ds g'
      exact p σ' Z' H' S2 fx (s'.weak h2) g2
    | brk => exact p
    | ct => exact p
    | ret m => exact p
  | exc x e1 => rw [e] at p; exact p
  | bad => rw [e] at p; exact p.elim
theorem SSok.ret (h : SEok G W te fe) : SSok G W P (tRet te) (ssRet fe) := fun D Z H σ env S gd p => by
  unfold ssRet at p
  have h1 := h Z H σ env S D.rt gd
  cases e : fe env with
  | ok q =>
    obtain ⟨m, e1⟩ := q
    rw [e] at p h1
    exact h1 fun v Z' H' S' T s' g' l => p v σ Z' H' S' T Fix.refl s' g' l
  | exc x e1 =>
    rw [e] at p h1
    exact h1 fun cls d Z' H' S' hx s' g' => p cls d σ Z' H' S' hx Fix.refl s' g'
  | bad => rw [e] at p; exact p.elim
theorem SSok.drop (h : SEok G W te fe) : SSok G W P (tDrop te) (ssDrop fe) := fun D Z H σ env S gd p => by
  unfold ssDrop at p
  have h1 := h Z H σ env S (fun _ H1 => D.nx σ H1) gd
  cases e : fe env with
  | ok q =>
    obtain ⟨m, e1⟩ := q
    rw [e] at p h1
    exact h1 fun v Z' H' S' T s' g' l => p σ Z' H' S' Fix.refl (s'.weak fun a z => .inl z) g'
  | exc x e1 =>
    rw [e] at p h1
    exact h1 fun cls d Z' H' S' hx s' g' => p cls d σ Z' H' S' hx Fix.refl s' g'
  | bad => rw [e] at p; exact p.elim
theorem SSok.set {i : Nat} (hP : ¬ P i) (h : SEok G W te fe) : SSok G W P (tAsg te (gName i)) (ssSet i fe) := fun D Z H σ env S gd p => by
  unfold ssSet at p
  have h1 := h Z H σ env S (fun x H1 => D.nx (σ.set i (some x)) H1) gd
  cases e : fe env with
  | ok q =>
    obtain ⟨m, e1⟩ := q
    rw [e] at p h1
    by_cases hi : i < e1.length
    · simp only [if_pos hi] at p
      refine h1 fun v Z' H' S' T s' g' l => ?_
      refine p (σ.set i (some v)) Z' H' (S'.set i T) ⟨fun j hj => ?_, by rw [List.length_set]⟩ (s'.weak fun a z => Rs.set_sub z) (g'.put l hi)
      exact List.getElem?_set_ne fun (z : i = j) => hP (by rw [z]; exact hj)
    · simp only [if_neg hi] at p; exact p.elim
  | exc x e1 =>
    rw [e] at p h1
    exact h1 fun cls d Z' H' S' hx s' g' => p cls d σ Z' H' S' hx Fix.refl s' g'
  | bad => rw [e] at p; exact p.elim
theorem SSok.ite {c : SB} {tc : TT} (hc : SBok G W tc c) (h1 : SSok G W P t f) (h2 : SSok G W P u g) : SSok G W P (tIfS tc t u) (ssIf c f g) := fun D Z H σ env S gd p => by
  unfold ssIf at p
  have hh := hc Z H σ env S (fun b H1 => if b = true then t D σ H1 else u D σ H1) gd
  cases e : c env with
  | ok q =>
    obtain ⟨b, e1⟩ := q
    rw [e] at p hh
    cases b with
    | true => exact hh fun Z' H' S' s' g' => by rw [if_pos rfl]; exact h1 D Z' H' σ e1 S' g' (p.shift s' Fix.refl)
    | false => exact hh fun Z' H' S' s' g' => by rw [if_neg Bool.false_ne_true]; exact h2 D Z' H' σ e1 S' g' (p.shift s' Fix.refl)
  | exc x e1 =>
    rw [e] at p hh
    exact hh fun cls d Z' H' S' hx s' g' => p cls d σ Z' H' S' hx Fix.refl s' g'
  | bad => rw [e] at p; exact p.elim

theorem xs_nil : PSs' G X W P [] ssNil := ⟨_, pss_nil, SSok.nil⟩
theorem xs_cons (h1 : PS' G X W P st f) (h2 : PSs' G X W P sts g) : PSs' G X W P (st :: sts) (ssSeq f g) := by
  obtain ⟨t, p, h1⟩ := h1.ex
  obtain ⟨u, q, h2⟩ := h2.ex
  exact ⟨_, pss_cons p q, SSok.seq h1 h2⟩
theorem xs_one (h1 : PS' G X W P st f) : PSs' G X W P [st] f := by
  obtain ⟨t, p, h1⟩ := h1.ex
  exact ⟨_, pss_one p, h1⟩
theorem xs_kill (ds : List Nat) (h1 : PS' G X W P st f) : PS' G X W P st (ssKill ds f) := by
  obtain ⟨t, p, h1⟩ := h1.ex
  exact ⟨_, p, SSok.kill ds h1⟩
theorem xs_ret (h : PEs G X W e fe) : PS' G X W P (.Return (some e) pos) (ssRet fe) := by
  obtain ⟨t, p, h⟩ := h.ex
  exact ⟨_, ps_ret p, SSok.ret h⟩
theorem xs_expr (h : PEs G X W e fe) (hs : swapsWith e none pos.line X.env = pure false := by rfl) : PS' G X W P (.Expr e pos) (ssDrop fe) := by
  obtain ⟨t, p, h⟩ := h.ex
  exact ⟨_, ps_expr p hs, SSok.drop h⟩
theorem xs_set (i : Nat) {x : Str} {pos' : Pos} (hN : X.N.Nodup) (h : PEs G X W e fe) (hP : ¬ P i := by decide) (hi : X.N[i]? = some x := by rfl) (hx : Loc X.env.scope x := by first | exact .inl rfl | exact .inr rfl)
    (hs : swapsWith e (some (.Name x pos')) pos.line X.env = pure false := by rfl) (hf : X.fn x = true ∨ X.env.scope.names.lookup x = some .local := by first | exact .inl rfl | exact .inr rfl) :
    PS' G X W P (.Assign [.Name x pos'] e pos) (ssSet i fe) := by
  obtain ⟨t, p, h⟩ := h.ex
  exact ⟨_, ps_set hN hi hx p hs hf, SSok.set hP h⟩
theorem xs_if {c : Expr} {a b : List Stmt} {fc : SB} (hc : PBs G X W c fc) (ha : PSs' G X W P a f) (hb : PSs' G X W P b g) : PS' G X W P (.If c a b pos) (ssIf fc f g) := by
  obtain ⟨t, p, hc⟩ := hc.ex
  obtain ⟨u, q, ha⟩ := ha.ex
  obtain ⟨v, r, hb⟩ := hb.ex
  exact ⟨_, ps_if p q r, SSok.ite hc ha hb⟩
theorem xs_pass : PS' G X W P (.Pass pos) ssNil := ⟨_, ps_pass, SSok.nil⟩
def ssBrk : SS := fun env => .ok (.brk, env)
def ssCt : SS := fun env => .ok (.ct, env)
theorem xs_break : PS' G X W P (.Break pos) ssBrk := ⟨_, ps_break, fun D Z H σ env S gd p => p σ Z H S Fix.refl (Stp.refl gd.zh) gd⟩
theorem xs_continue : PS' G X W P (.Continue pos) ssCt := ⟨_, ps_continue, fun D Z H σ env S gd p => p σ Z H S Fix.refl (Stp.refl gd.zh) gd⟩
theorem xs_doc {x j pos'} : PS' G X W P (.Expr (.Constant (.str x) j pos) pos') ssNil := ⟨_, ps_doc, SSok.nil⟩
end

/-! ### tests -/
def sbE (f : SE) : SB := fun env => match f env with
  | .ok (.d (.bl b), e) => .ok (b, e)
  | .exc x e => .exc x e
  | _ => .bad
def sbNot (c : SB) : SB := fun env => match c env with
  | .ok (b, e) => .ok (!b, e)
  | .exc x e => .exc x e
  | .bad => .bad
def sbAnd (c d : SB) : SB := fun env => match c env with
  | .ok (true, e) => d e
  | .ok (false, e) => .ok (false, e)
  | .exc x e => .exc x e
  | .bad => .bad
def sbOr (c d : SB) : SB := fun env => match c env with
  | .ok (true, e) => .ok (true, e)
  | .ok (false, e) => d e
  | .exc x e => .exc x e
  | .bad => .bad
section
variable {G : Gx} {X : Cx} {W : WX'} {e a b : Expr} {fe : SE} {c d : SB} {te : TE} {tc td : TT} {pos : Pos} {rest : List Expr}
theorem SBok.ofE (h : SEok G W te fe) : SBok G W (tB te) (sbE fe) := fun Z H σ env S Q gd => by
  unfold sbE
  have h1 := h Z H σ env S (fun x H1 => ∃ c, x = .bl c ∧ Q c H1) gd
  cases e : fe env with
  | ok q =>
    obtain ⟨m, e1⟩ := q
    rw [e] at h1
    cases m with
    | d x =>
      cases x with
      | bl b => exact fun q => h1 fun v Z' H' S' T s' g' l => ⟨b, rep_bl l.rep, q Z' H' S' (s'.weak fun _ z => .inl z) g'⟩
      | _ => trivial
    | _ => trivial
  | exc x e1 => rw [e] at h1; exact h1
  | bad => trivial
theorem SBok.not (h : SBok G W tc c) : SBok G W (tNot tc) (sbNot c) := fun Z H σ env S Q gd => by
  unfold sbNot
  have h1 := h Z H σ env S (fun b H1 => Q (!b) H1) gd
  cases e : c env with
  | ok q => obtain ⟨b, e1⟩ := q; rw [e] at h1; exact h1
  | exc x e1 => rw [e] at h1; exact h1
  | bad => trivial
theorem SBok.and (h : SBok G W tc c) (h' : SBok G W td d) : SBok G W (tAnd tc td) (sbAnd c d) := fun Z H σ env S Q gd => by
  unfold sbAnd
  have h1 := h Z H σ env S (fun b H1 => if b = true then td σ H1 Q else Q false H1) gd
  cases e : c env with
  | ok q =>
    obtain ⟨b, e1⟩ := q
    rw [e] at h1
    cases b with
    | true =>
      simp only
      cases e2 : d e1 with
      | ok q2 =>
        obtain ⟨b2, e3⟩ := q2
        intro q
        refine h1 fun Z' H' S' s' g' => ?_
        rw [if_pos rfl]
        have h2 := h' Z' H' σ e1 S' Q g'
        rw [e2] at h2
        exact h2 fun Z2 H2 S2 s2 g2 => q Z2 H2 S2 (s'.trans s2) g2
      | exc x e3 =>
        intro q
        refine h1 fun Z' H' S' s' g' => ?_
        rw [if_pos rfl]
        have h2 := h' Z' H' σ e1 S' Q g'
        rw [e2] at h2
        exact h2 fun cls d Z2 H2 S2 hx s2 g2 => q cls d Z2 H2 S2 hx (s'.trans s2) g2
      | bad => trivial
    | false =>
      intro q
      exact h1 fun Z' H' S' s' g' => by rw [if_neg Bool.false_ne_true]; exact q Z' H' S' s' g'
  | exc x e1 => rw [e] at h1; exact h1
  | bad => trivial
theorem SBok.or (h : SBok G W tc c) (h' : SBok G W td d) : SBok G W (tOr tc td) (sbOr c d) := fun Z H σ env S Q gd => by
  unfold sbOr
  have h1 := h Z H σ env S (fun b H1 => if b = true then Q true H1 else td σ H1 Q) gd
  cases e : c env with
  | ok q =>
    obtain ⟨b, e1⟩ := q
    rw [e] at h1
    cases b with
    | false =>
      simp only
      cases e2 : d e1 with
      | ok q2 =>
        obtain ⟨b2, e3⟩ := q2
        intro q
        refine h1 fun Z' H' S' s' g' => ?_
        rw [if_neg Bool.false_ne_true]
        have h2 := h' Z' H' σ e1 S' Q g'
        rw [e2] at h2
        exact h2 fun Z2 H2 S2 s2 g2 => q Z2 H2 S2 (s'.trans s2) g2
      | exc x e3 =>
        intro q
        refine h1 fun Z' H' S' s' g' => ?_
        rw [if_neg Bool.false_ne_true]
        have h2 := h' Z' H' σ e1 S' Q g'
        rw [e2] at h2
        exact h2 fun cls d Z2 H2 S2 hx s2 g2 => q cls d Z2 H2 S2 hx (s'.trans s2) g2
      | bad => trivial
    | true =>
      intro q
      exact h1 fun Z' H' S' s' g' => by rw [if_pos rfl]; exact q Z' H' S' s' g'
  | exc x e1 => rw [e] at h1; exact h1
  | bad => trivial
/-- tests whatever their whole is -/
structure PWs (G : Gx) (X : Cx) (W : WX') (e : Expr) (f : SB) : Prop where
  ex : ∃ t, PW X e t ∧ SBok G W t f
theorem PWs.pb (h : PWs G X W e c) : PBs G X W e c := by
  obtain ⟨t, p, h⟩ := h.ex
  exact ⟨_, p.pt, h⟩
theorem xb_e (h : PEs G X W e fe) (he : ∀ whole, isTrue e X.env whole = (do let v ← whole; standAt e.pos; holding [v] (truthy v)) := by intro _; rfl) : PBs G X W e (sbE fe) := by
  obtain ⟨t, p, h⟩ := h.ex
  exact ⟨_, pt_val p he, SBok.ofE h⟩
theorem xb_not (h : PBs G X W a c) : PBs G X W (.UnaryOp .Not a pos) (sbNot c) := by
  obtain ⟨t, p, h⟩ := h.ex
  exact ⟨_, pt_not p, SBok.not h⟩
theorem xw_and (h : PBs G X W a c) (h' : PWs G X W (.BoolOp .And (b :: rest) pos) d) : PWs G X W (.BoolOp .And (a :: b :: rest) pos) (sbAnd c d) := by
  obtain ⟨t, p, h⟩ := h.ex
  obtain ⟨u, q, h'⟩ := h'.ex
  exact ⟨_, pw_and p q, SBok.and h h'⟩
theorem xw_and1 (h : PBs G X W a c) : PWs G X W (.BoolOp .And [a] pos) c := by
  obtain ⟨t, p, h⟩ := h.ex
  exact ⟨_, pw_and1 p, h⟩
theorem xw_or (h : PBs G X W a c) (h' : PWs G X W (.BoolOp .Or (b :: rest) pos) d) : PWs G X W (.BoolOp .Or (a :: b :: rest) pos) (sbOr c d) := by
  obtain ⟨t, p, h⟩ := h.ex
  obtain ⟨u, q, h'⟩ := h'.ex
  exact ⟨_, pw_or p q, SBok.or h h'⟩
theorem xw_or1 (h : PBs G X W a c) : PWs G X W (.BoolOp .Or [a] pos) c := by
  obtain ⟨t, p, h⟩ := h.ex
  exact ⟨_, pw_or1 p, h⟩
/-- comparisons as tests -/
theorem xb_cmp {r : R2} {op : DOp} {fa fb : SE} {o : CmpOp} (ho : OpR X (compareOp o) r) (h : VOP G r op) (ha : PEs G X W a fa) (hb : PEs G X W b fb) (hm : behindInMarks o b = false) : PBs G X W (.Compare a [o] [b] pos) (sbE (s2 op fa fb)) := by
  obtain ⟨ta, pa, ha⟩ := ha.ex
  obtain ⟨tb, pb, hb⟩ := hb.ex
  exact ⟨_, pt_cmpR ho pa pb hm, SBok.ofE (SEok.bin h ha hb)⟩
theorem xb_cmpv {r : R2} {op : DOp} {ga gb : VE} {o : CmpOp} (ho : OpR X (compareOp o) r) (h : VOP G r op) (ha : PVs G X a ga) (hb : PVs G X b gb) (hm : behindInMarks o b = false) : PBs G X W (.Compare a [o] [b] pos) (sbE (sV (v2 op ga gb))) := by
  obtain ⟨ta, pa, ha⟩ := ha.ex
  obtain ⟨tb, pb, hb⟩ := hb.ex
  exact ⟨_, pt_cmpR ho pa pb hm, SBok.ofE (SEok.of_v (VEok.bin h ha hb))⟩
theorem xb_cmpN {r : R2} {op : DOp} {fb : SE} {o : CmpOp} (i : Nat) {x : Str} {p1 : Pos} (ho : OpR X (compareOp o) r) (h : VOP G r op) (hb : PEs G X W b fb) (hm : behindInMarks o b = false) (hN : X.N[i]? = some x := by rfl) (hv : Vis X.env.scope x := by first | exact Or.inl rfl | exact Or.inr (Or.inl rfl) | exact Or.inr (Or.inr rfl))
    (hd : (x == ("__debug__" : Str)) = false := by decide) (hcd : (x == ("__classdict__" : Str)) = false := by decide) : PBs G X W (.Compare (.Name x p1) [o] [b] pos) (sbE (s2n op i fb)) := by
  obtain ⟨tb, pb, hb⟩ := hb.ex
  exact ⟨_, pt_cmpR ho (pe_var hN hv hd hcd) pb hm, SBok.ofE (SEok.binN h hb)⟩
theorem xb_cmpV {r : R2} {op : DOp} {fa : SE} {gb : VE} {o : CmpOp} (ho : OpR X (compareOp o) r) (h : VOP G r op) (ha : PEs G X W a fa) (hb : PVs G X b gb) (hm : behindInMarks o b = false) : PBs G X W (.Compare a [o] [b] pos) (sbE (s2v op fa gb)) := by
  obtain ⟨ta, pa, ha⟩ := ha.ex
  obtain ⟨tb, pb, hb⟩ := hb.ex
  exact ⟨_, pt_cmpR ho pa pb hm, SBok.ofE (SEok.binV h ha hb)⟩
end
end FL

set_option maxHeartbeats 2000000
/-! FLG: targets, while, for. -/
namespace FL
open PySem L2 Classical

/-! ### a reading that is just the semantics -/
def ESem (G : Gx) (W : WX') (f : SE) : TE := fun σ H Q => ∃ Z env S, Good G Z H σ env S ∧ match f env with
  | .ok (m, env') => ∀ v Z' H' S' T, Stp Z H (U S) Z' H' (fun a => U S' a ∨ T a) → Good G Z' H' σ env' S' → Hld G Z' H' (U S') m T v → Q v H'
  | .exc e env' => ∀ cls d Z' H' S', ExcAt G H' e cls d → Stp Z H (U S) Z' H' (U S') → Good G Z' H' σ env' S' → W cls d σ H'
  | .bad => False
def BSem (G : Gx) (W : WX') (f : SB) : TT := fun σ H Q => ∃ Z env S, Good G Z H σ env S ∧ match f env with
  | .ok (b, env') => ∀ Z' H' S', Stp Z H (U S) Z' H' (U S') → Good G Z' H' σ env' S' → Q b H'
  | .exc e env' => ∀ cls d Z' H' S', ExcAt G H' e cls d → Stp Z H (U S) Z' H' (U S') → Good G Z' H' σ env' S' → W cls d σ H'
  | .bad => False
section
variable {G : Gx} {X : Cx} {W : WX'} {e : Expr} {f : SE} {c : SB}
theorem PEs.sem (h : PEs G X W e f) : PE X e (ESem G W f) := by
  obtain ⟨t, p, h⟩ := h.ex
  refine ⟨fun pins s σ H Q I q => p.run pins s σ H Q I ?_⟩
  obtain ⟨Z, env, S, g, q⟩ := q
  have h1 := h Z H σ env S Q g
  cases ef : f env with
  | ok r => obtain ⟨m, env'⟩ := r; rw [ef] at h1 q; exact h1 q
  | exc x env' => rw [ef] at h1 q; exact h1 q
  | bad => rw [ef] at q; exact q.elim
theorem ESem.ok : SEok G W (ESem G W f) f := fun Z H σ env S Q g => by
  cases ef : f env with
  | ok r => obtain ⟨m, env'⟩ := r; intro q; exact ⟨Z, env, S, g, by rw [ef]; exact q⟩
  | exc x env' => intro q; exact ⟨Z, env, S, g, by rw [ef]; exact q⟩
  | bad => trivial
theorem PBs.sem (h : PBs G X W e c) : PT X e (BSem G W c) := by
  obtain ⟨t, p, h⟩ := h.ex
  refine ⟨fun pins s σ H Q I q => p.run pins s σ H Q I ?_⟩
  obtain ⟨Z, env, S, g, q⟩ := q
  have h1 := h Z H σ env S Q g
  cases ef : c env with
  | ok r => obtain ⟨m, env'⟩ := r; rw [ef] at h1 q; exact h1 q
  | exc x env' => rw [ef] at h1 q; exact h1 q
  | bad => rw [ef] at q; exact q.elim
theorem BSem.ok : SBok G W (BSem G W c) c := fun Z H σ env S Q g => by
  cases ef : c env with
  | ok r => obtain ⟨m, env'⟩ := r; intro q; exact ⟨Z, env, S, g, by rw [ef]; exact q⟩
  | exc x env' => intro q; exact ⟨Z, env, S, g, by rw [ef]; exact q⟩
  | bad => trivial
end

/-! ### targets -/
abbrev SG := M → Env → Res Env
def SGok (G : Gx) (P : Px) (g : TG) (f : SG) : Prop := ∀ (Z H : Hp) (σ : St) (env : Env) (S : Rs) (m : M) (T : Rg) (v : V) (Q : St → Hp → Prop), Good G Z H σ env S → Hld G Z H (U S) m T v →
  match f m env with
  | .ok env' => (∀ σ' S', Fix P σ σ' → Good G Z H σ' env' S' → (∀ a, U S' a → U S a ∨ T a) → Q σ' H) → g v σ H Q
  | _ => True
structure PGs' (G : Gx) (X : Cx) (P : Px) (tg : Expr) (f : SG) : Prop where
  ex : ∃ g, PG X tg g ∧ SGok G P g f
abbrev SGs := List M → Env → Res Env
def SGsok (G : Gx) (P : Px) (g : TGs) (f : SGs) : Prop := ∀ (Z H : Hp) (σ : St) (env : Env) (S : Rs) (ms : List M) (T : Rg) (vs : List V) (Q : St → Hp → Prop), Good G Z H σ env S → RepMs G Z H ms T vs → (∀ a, T a → H a ≠ none) → (∀ a, T a → Z a = none) → (∀ a, T a → ¬ U S a) →
  match f ms env with
  | .ok env' => (∀ σ' S', Fix P σ σ' → Good G Z H σ' env' S' → (∀ a, U S' a → U S a ∨ T a) → Q σ' H) → g vs σ H Q
  | _ => True
structure PGss (G : Gx) (X : Cx) (P : Px) (tgs : List Expr) (f : SGs) : Prop where
  ex : ∃ g, PGs X tgs g ∧ SGsok G P g f
def sgN (i : Nat) : SG := fun m env => if i < env.length then .ok (env.set i (some m)) else .bad
def sgNil : SGs := fun ms env => match ms with
  | [] => .ok env
  | _ => .bad
def sgCons (f : SG) (fs : SGs) : SGs := fun ms env => match ms with
  | m :: r => match f m env with
    | .ok e => fs r e
    | _ => .bad
  | [] => .bad
def sgTup (n : Nat) (fs : SGs) : SG := fun m env => match m.seq with
  | some (true, ms) => if ms.length = n then fs ms env else .bad
  | _ => .bad
section
variable {G : Gx} {X : Cx} {P : Px} {tg e : Expr} {es : List Expr} {f : SG} {fs : SGs} {pos : Pos}
theorem xg_name (i : Nat) {x : Str} (hN : X.N.Nodup) (hP : ¬ P i := by decide) (hi : X.N[i]? = some x := by rfl) (hx : Loc X.env.scope x := by first | exact .inl rfl | exact .inr rfl)
    (hf : X.fn x = true ∨ X.env.scope.names.lookup x = some .local := by first | exact .inl rfl | exact .inr rfl) : PGs' G X P (.Name x pos) (sgN i) := by
  refine ⟨_, pg_name hN hi hx hf, fun Z H σ env S m T v Q gd h => ?_⟩
  unfold sgN
  by_cases hl : i < env.length
  · rw [if_pos hl]
    intro q
    exact q _ (S.set i T) ⟨fun j hj => List.getElem?_set_ne fun (z : i = j) => hP (by rw [z]; exact hj), by rw [List.length_set]⟩ (gd.put h hl) fun a z => Rs.set_sub z
  · rw [if_neg hl]; trivial
theorem xgs_nil : PGss G X P [] sgNil := by
  refine ⟨_, pgs_nil, fun Z H σ env S ms T vs Q gd r al zf dj => ?_⟩
  unfold sgNil
  cases ms with
  | nil => intro q; simp only [RepMs] at r; exact ⟨r, q σ S Fix.refl gd fun a z => .inl z⟩
  | cons _ _ => trivial
theorem xgs_cons (h : PGs' G X P e f) (hs : PGss G X P es fs) (hst : (assignEach (e :: es) X.env).map (·.2) = assign e X.env :: (assignEach es X.env).map (·.2) := by rfl) : PGss G X P (e :: es) (sgCons f fs) := by
  obtain ⟨g, p, h⟩ := h.ex
  obtain ⟨gs, q, hs⟩ := hs.ex
  refine ⟨_, pgs_cons p q hst, fun Z H σ env S ms T vs Q gd r al zf dj => ?_⟩
  unfold sgCons
  cases ms with
  | nil => trivial
  | cons m ms =>
    simp only
    simp only [RepMs] at r
    obtain ⟨v, vr, T1, T2, rfl, t1, t2, d12, rv, rr⟩ := r
    have h1 := h Z H σ env S m T1 v (fun σ' H' => gs vr σ' H' Q) gd ⟨rv, fun a z => al a (t1 a z), fun a z => zf a (t1 a z), fun a z => dj a (t1 a z)⟩
    cases e1 : f m env with
    | ok env1 =>
      rw [e1] at h1
      simp only
      cases e2 : fs ms env1 with
      | ok env2 =>
        intro q
        refine ⟨v, vr, rfl, h1 fun σ1 S1 fx1 g1 u1 => ?_⟩
        have h2 := hs Z H σ1 env1 S1 ms T2 vr Q g1 rr (fun a z => al a (t2 a z)) (fun a z => zf a (t2 a z)) (fun a z w => (u1 a w).elim (dj a (t2 a z)) fun w => d12 a w z)
        rw [e2] at h2
        exact h2 fun σ2 S2 fx2 g2 u2 => q σ2 S2 (fx1.trans fx2) g2 fun a z => (u2 a z).elim (fun z => (u1 a z).elim .inl fun z => .inr (t1 a z)) fun z => .inr (t2 a z)
      | _ => trivial
    | _ => trivial
theorem xg_tup {k n : Nat} (hK : G.K = X.K) (hc : X.calm = true) (h : PGss G X P es fs) (hn : (assignEach es X.env).length = n := by rfl) (hst : (assignEach es X.env).findIdx? (·.1) = none := by rfl) : PGs' G X P (.Tuple es k pos) (sgTup n fs) := by
  obtain ⟨gs, q, hs⟩ := h.ex
  refine ⟨_, pg_tup hc q hn hst, fun Z H σ env S m T v Q gd h => ?_⟩
  unfold sgTup
  cases es : m.seq with
  | none => trivial
  | some p =>
    obtain ⟨b, ms⟩ := p
    cases b with
    | false => trivial
    | true =>
      simp only
      by_cases hl : ms.length = n
      · rw [if_pos hl]
        obtain ⟨a, vs, rfl, q1, _, r⟩ := h.rep.seq gd.zh es
        have h1 := hs Z H σ env S ms T vs Q gd r h.al h.zf h.dj
        cases e1 : fs ms env with
        | ok env' =>
          rw [e1] at h1
          intro q
          exact ⟨a, vs, rfl, by rw [← hK]; exact q1 rfl, by rw [← r.len]; exact hl, h1 q⟩
        | _ => trivial
      · rw [if_neg hl]; trivial
end
def ssAsg (f : SE) (g : SG) : SS := fun env => match f env with
  | .ok (m, e) => match g m e with
    | .ok e2 => .ok (.nx, e2)
    | _ => .bad
  | .exc x e => .exc x e
  | .bad => .bad
section
variable {G : Gx} {X : Cx} {W : WX'} {P : Px} {tg e : Expr} {f : SE} {g : SG} {pos : Pos}
theorem SSok.asg {te : TE} {tg : TG} (h : SEok G W te f) (hg : SGok G P tg g) : SSok G W P (tAsg te tg) (ssAsg f g) := fun D Z H σ env S gd p => by
  unfold ssAsg at p
  have h1 := h Z H σ env S (fun x H1 => tg x σ H1 D.nx) gd
  cases e : f env with
  | ok q =>
    obtain ⟨m, e1⟩ := q
    rw [e] at p h1
    simp only at p
    cases e2 : g m e1 with
    | ok e3 =>
      rw [e2] at p
      refine h1 fun v Z' H' S' T s' g' l => ?_
      have h2 := hg Z' H' σ e1 S' m T v D.nx g' l
      rw [e2] at h2
      exact h2 fun σ2 S2 fx g2 u2 => p σ2 Z' H' S2 fx (s'.weak u2) g2
    | exc x e3 => rw [e2] at p; exact p.elim
    | bad => rw [e2] at p; exact p.elim
  | exc x e1 =>
    rw [e] at p h1
    exact h1 fun cls d Z' H' S' hx s' g' => p cls d σ Z' H' S' hx Fix.refl s' g'
  | bad => rw [e] at p; exact p.elim
theorem xs_asg (h : PEs G X W e f) (hg : PGs' G X P tg g) (hs : swapsWithSole [tg] e pos.line X.env = pure false := by rfl) (hw : swappedStores [tg] e X.env = pure none := by rfl)
    (h1 : (assignEach [tg] X.env).map (·.2) = [assign tg X.env] := by rfl) : PS' G X W P (.Assign [tg] e pos) (ssAsg f g) := by
  obtain ⟨t, p, h⟩ := h.ex
  obtain ⟨u, q, hg⟩ := hg.ex
  exact ⟨_, ps_asg p q hs hw h1, SSok.asg h hg⟩
end

/-! ### while -/
def wl (c : SB) (b : SS) : Nat → SS
  | 0, _ => .bad
  | n + 1, env => match c env with
    | .ok (true, e) => match b e with
      | .ok (.nx, e2) => wl c b n e2
      | .ok (.ct, e2) => wl c b n e2
      | .ok (.brk, e2) => .ok (.nx, e2)
      | .ok (.ret m, e2) => .ok (.ret m, e2)
      | .exc x e2 => .exc x e2
      | .bad => .bad
    | .ok (false, e) => .ok (.nx, e)
    | .exc x e => .exc x e
    | .bad => .bad
theorem wl_mono (c : SB) (b : SS) : ∀ (n : Nat) (env : Env), wl c b n env ≠ .bad → ∀ m, n ≤ m → wl c b m env = wl c b n env
  | 0, env, h, _, _ => absurd rfl h
  | n + 1, env, h, m, hm => by
    obtain ⟨m, rfl⟩ : ∃ k, m = k + 1 := ⟨m - 1, by omega⟩
    unfold wl at h ⊢
    cases e : c env with
    | ok q =>
      obtain ⟨k, e1⟩ := q
      cases k with
      | true =>
        rw [e] at h
        simp only at h ⊢
        cases e2 : b e1 with
        | ok q2 =>
          obtain ⟨fl, e3⟩ := q2
          rw [e2] at h
          cases fl with
          | nx => exact wl_mono c b n e3 h m (by omega)
          | ct => exact wl_mono c b n e3 h m (by omega)
          | brk => rfl
          | ret _ => rfl
        | exc x e3 => rfl
        | bad => rfl
      | false => rfl
    | exc x e1 => rfl
    | bad => rfl
noncomputable def ssWhile (c : SB) (b : SS) : SS := fun env => if h : ∃ n, wl c b n env ≠ .bad then wl c b (Classical.choose h) env else .bad
theorem ssWhile_of {c : SB} {b : SS} {env : Env} {r : Res (Fl × Env)} (n : Nat) (h : wl c b n env = r) (hr : r ≠ .bad) : ssWhile c b env = r := by
  have hn : wl c b n env ≠ .bad := by rw [h]; exact hr
  have ex : ∃ n, wl c b n env ≠ .bad := ⟨n, hn⟩
  unfold ssWhile
  rw [dif_pos ex]
  have h1 := Classical.choose_spec ex
  rcases Nat.le_total n (Classical.choose ex) with q | q
  · rw [wl_mono c b n env hn _ q, h]
  · rw [← wl_mono c b _ env h1 n q, h]
section
variable {G : Gx} {X : Cx} {W : WX'} {P : Px} {c : SB} {b : SS} {tc : TT} {tb : TS} {pos : Pos}
theorem SSok.while (hc : SBok G W tc c) (hb : SSok G W P tb b) : SSok G W P (tWhile tc tb) (ssWhile c b) := fun D Z H σ env S gd p => by
  by_cases ex : ∃ n, wl c b n env ≠ .bad
  case neg => unfold ssWhile at p; rw [dif_neg ex] at p; exact p.elim
  unfold ssWhile at p
  rw [dif_pos ex] at p
  refine ⟨fun n σ' H' => ∃ env' Z' S', Good G Z' H' σ' env' S' ∧ SPost G W P D Z' H' (U S') σ' (wl c b n env'), ⟨_, env, Z, S, gd, p⟩, ?_⟩
  rintro n σ1 H1 ⟨env1, Z1, S1, g1, p1⟩
  cases n with
  | zero => exact p1.elim
  | succ n =>
    unfold wl at p1
    have hh := hc Z1 H1 σ1 env1 S1 (fun k H1 => if k = true then ∃ N : St → Hp → Prop, (∀ σ' H', N σ' H' → ∃ m', m' < n + 1 ∧ ∃ env' Z' S', Good G Z' H' σ' env' S' ∧ SPost G W P D Z' H' (U S') σ' (wl c b m' env')) ∧ tb { D with nx := N, ct := N, bk := D.nx } σ1 H1 else D.nx σ1 H1) g1
    cases e : c env1 with
    | ok q =>
      obtain ⟨k, e1⟩ := q
      rw [e] at p1 hh
      cases k with
      | true =>
        simp only at p1
        refine hh fun Z2 H2 S2 s2 g2 => ?_
        rw [if_pos rfl]
        have p2 := p1.shift s2 Fix.refl
        refine ⟨fun σ' H' => ∃ env' Z' S', Good G Z' H' σ' env' S' ∧ SPost G W P D Z' H' (U S') σ' (wl c b n env'), fun σ' H' h => ⟨n, Nat.lt_succ_self _, h⟩, ?_⟩
        refine hb _ Z2 H2 σ1 e1 S2 g2 ?_
        cases e2 : b e1 with
        | ok q2 =>
          obtain ⟨fl, e3⟩ := q2
          rw [e2] at p2
          cases fl with
          | nx => exact fun σ3 Z3 H3 S3 f3 s3 g3 => ⟨e3, Z3, S3, g3, p2.shift s3 f3⟩
          | ct => exact fun σ3 Z3 H3 S3 f3 s3 g3 => ⟨e3, Z3, S3, g3, p2.shift s3 f3⟩
          | brk => exact fun σ3 Z3 H3 S3 f3 s3 g3 => p2 σ3 Z3 H3 S3 f3 s3 g3
          | ret m => exact fun v σ3 Z3 H3 S3 T f3 s3 g3 h => p2 v σ3 Z3 H3 S3 T f3 s3 g3 h
        | exc x e3 => rw [e2] at p2; exact p2
        | bad => rw [e2] at p2; exact p2.elim
      | false =>
        refine hh fun Z2 H2 S2 s2 g2 => ?_
        rw [if_neg Bool.false_ne_true]
        exact p1 σ1 Z2 H2 S2 Fix.refl s2 g2
    | exc x e1 =>
      rw [e] at p1 hh
      exact hh fun cls d Z2 H2 S2 hx s2 g2 => p1 cls d σ1 Z2 H2 S2 hx Fix.refl s2 g2
    | bad => rw [e] at p1; exact p1.elim
theorem xs_while {ce : Expr} {body : List Stmt} (hp : PassesOwn (model X.prog X.w) X.A X.env X.xe) (hc : PBs G X W ce c) (hb : PSs' G X W P body b) : PS' G X W P (.While ce body [] pos) (ssWhile c b) := by
  obtain ⟨t, p, hc⟩ := hc.ex
  obtain ⟨u, q, hb⟩ := hb.ex
  exact ⟨_, ps_while hp p q, SSok.while hc hb⟩
end

/-! ### for -/
/-- what an iterator gives: the items xs, frozen; Fr: what must stand meanwhile -/
structure Yields (G : Gx) (Fr : Hp → Hp → Rg → Prop) (J : It) (xs : List D) : Prop where
  stay : ∀ Z H R Z' H' R', Fr Z H R → Stp Z H R Z' H' R' → Fr Z' H' R'
  stop : ∀ Z H R i, Fr Z H R → Same Z H → xs.length ≤ i → J.stop i H
  item : ∀ Z H R i d, Fr Z H R → Same Z H → xs[i]? = some d → J.go i H ∧ ∀ x H', J.yld i H x H' → ∃ Z', Stp Z H (fun _ => False) Z' H' (fun _ => False) ∧ RepD G Z' d x
abbrev SI := Env → Res (List D × Env)
def TIok (G : Gx) (W : WX') (t : TI) (f : SI) : Prop := ∀ (Z H : Hp) (σ : St) (env : Env) (S : Rs) (R : It → Hp → Prop), Good G Z H σ env S →
  match f env with
  | .ok (xs, env') => (∀ J Z' H' S', Stp Z H (U S) Z' H' (U S') → Good G Z' H' σ env' S' → Yields G (fun Z1 _ _ => Same Z' Z1) J xs → R J H') → t σ H R
  | .exc e env' => (∀ cls d Z' H' S', ExcAt G H' e cls d → Stp Z H (U S) Z' H' (U S') → Good G Z' H' σ env' S' → W cls d σ H') → t σ H R
  | .bad => True
structure PIs (G : Gx) (X : Cx) (W : WX') (tg e : Expr) (f : SI) : Prop where
  ex : ∃ t, PI X tg e t ∧ TIok G W t f
def fl (g : SG) (b : SS) : List D → SS
  | [], env => .ok (.nx, env)
  | x :: xs, env => match g (.d x) env with
    | .ok e => match b e with
      | .ok (.nx, e2) => fl g b xs e2
      | .ok (.ct, e2) => fl g b xs e2
      | .ok (.brk, e2) => .ok (.nx, e2)
      | .ok (.ret m, e2) => .ok (.ret m, e2)
      | .exc x e2 => .exc x e2
      | .bad => .bad
    | _ => .bad
def ssFor (fi : SI) (g : SG) (b : SS) : SS := fun env => match fi env with
  | .ok (xs, e) => fl g b xs e
  | .exc x e => .exc x e
  | .bad => .bad
section
variable {G : Gx} {X : Cx} {W : WX'} {P : Px} {fi : SI} {g : SG} {b : SS} {ti : TI} {tg : TG} {tb : TS} {pos : Pos}
/-- the turns, by what is to come of the items that are left -/
theorem for_turns {Fr : Hp → Hp → Rg → Prop} {J : It} {xs : List D} {D : Ends} {σ : St} {H : Hp} (hY : Yields G Fr J xs) (hg : SGok G P tg g) (hb : SSok G W P tb b)
    (Z : Hp) (S : Rs) (env : Env) (gd : Good G Z H σ env S) (hF : Fr Z H (U S)) (p : SPost G W P D Z H (U S) σ (fl g b xs env)) :
    ∃ W' : Nat → Nat → St → Hp → Prop, (∃ m, W' 0 m σ H) ∧ ∀ i m σ H, W' i m σ H →
      (J.stop i H ∧ D.nx σ H) ∨ (J.go i H ∧ ∃ N : St → Hp → Prop, (∀ σ' H', N σ' H' → ∃ m', m' < m ∧ W' (i + 1) m' σ' H') ∧ ∀ x H', J.yld i H x H' → tg x σ H' fun σ2 H2 => tb { D with nx := N, ct := N, bk := D.nx } σ2 H2) := by
  refine ⟨fun i m σ' H' => m = xs.length - i ∧ i ≤ xs.length ∧ ∃ env' Z' S', Good G Z' H' σ' env' S' ∧ Fr Z' H' (U S') ∧ SPost G W P D Z' H' (U S') σ' (fl g b (xs.drop i) env'), ⟨xs.length, by simp, Nat.zero_le _, env, Z, S, gd, hF, by simpa using p⟩, ?_⟩
  rintro i m σ1 H1 ⟨rfl, hi, env1, Z1, S1, g1, F1, p1⟩
  by_cases hlt : i < xs.length
  · refine .inr ?_
    obtain ⟨go, yl⟩ := hY.item Z1 H1 (U S1) i xs[i] F1 g1.zh (List.getElem?_eq_getElem hlt)
    rw [List.drop_eq_getElem_cons hlt] at p1
    unfold fl at p1
    refine ⟨go, fun σ' H' => ∃ env' Z' S', Good G Z' H' σ' env' S' ∧ Fr Z' H' (U S') ∧ SPost G W P D Z' H' (U S') σ' (fl g b (xs.drop (i + 1)) env'), fun σ' H' ⟨env', Z', S', h1, h2, h3⟩ => ⟨xs.length - (i + 1), by omega, rfl, hlt, env', Z', S', h1, h2, h3⟩, fun x H2 hy => ?_⟩
    obtain ⟨Z2, s2, rx⟩ := yl x H2 hy
    obtain ⟨g2, _⟩ := g1.move s2 fun _ _ z => z
    have s2' : Stp Z1 H1 (U S1) Z2 H2 (U S1) := ((s2.frame (U S1)).from fun a z => z.elim (fun z => z.elim) id).weak fun a z => .inr z
    have F2 := hY.stay _ _ _ _ _ _ F1 s2'
    have hh := fun Q => hg Z2 H2 σ1 env1 S1 (.d xs[i]) (fun _ => False) x Q g2 (Hld.data rx)
    cases e : g (.d xs[i]) env1 with
    | ok e1 =>
      rw [e] at p1
      simp only [e] at p1 hh
      refine hh _ fun σ3 S3 fx3 g3 u3 => ?_
      have s3 : Stp Z1 H1 (U S1) Z2 H2 (U S3) := s2'.weak fun a z => (u3 a z).elim id fun z => z.elim
      have F3 := hY.stay _ _ _ _ _ _ F1 s3
      have p3 := p1.shift s3 fx3
      refine hb _ Z2 H2 σ3 e1 S3 g3 ?_
      cases e2 : b e1 with
      | ok q2 =>
        obtain ⟨f', e3⟩ := q2
        rw [e2] at p3
        cases f' with
        | nx => exact fun σ4 Z4 H4 S4 f4 s4 g4 => ⟨e3, Z4, S4, g4, hY.stay _ _ _ _ _ _ F3 s4, p3.shift s4 f4⟩
        | ct => exact fun σ4 Z4 H4 S4 f4 s4 g4 => ⟨e3, Z4, S4, g4, hY.stay _ _ _ _ _ _ F3 s4, p3.shift s4 f4⟩
        | brk => exact fun σ4 Z4 H4 S4 f4 s4 g4 => p3 σ4 Z4 H4 S4 f4 s4 g4
        | ret m => exact fun v σ4 Z4 H4 S4 T f4 s4 g4 h => p3 v σ4 Z4 H4 S4 T f4 s4 g4 h
      | exc x e3 => rw [e2] at p3; exact p3
      | bad => rw [e2] at p3; exact p3.elim
    | exc x e1 => rw [e] at p1; exact p1.elim
    | bad => rw [e] at p1; exact p1.elim
  · have e : i = xs.length := by omega
    refine .inl ⟨hY.stop Z1 H1 (U S1) i F1 g1.zh (by omega), ?_⟩
    rw [e, List.drop_length] at p1
    exact p1 σ1 Z1 H1 S1 Fix.refl (Stp.refl g1.zh) g1
theorem SSok.for (hi : TIok G W ti fi) (hg : SGok G P tg g) (hb : SSok G W P tb b) : SSok G W P (tFor ti tg tb) (ssFor fi g b) := fun D Z H σ env S gd p => by
  unfold ssFor at p
  have h1 := hi Z H σ env S (fun J H1 => ∃ W' : Nat → Nat → St → Hp → Prop, (∃ m, W' 0 m σ H1) ∧ ∀ i m σ H, W' i m σ H →
      (J.stop i H ∧ D.nx σ H) ∨ (J.go i H ∧ ∃ N : St → Hp → Prop, (∀ σ' H', N σ' H' → ∃ m', m' < m ∧ W' (i + 1) m' σ' H') ∧ ∀ x H', J.yld i H x H' → tg x σ H' fun σ2 H2 => tb { D with nx := N, ct := N, bk := D.nx } σ2 H2)) gd
  cases e : fi env with
  | ok q =>
    obtain ⟨xs, e1⟩ := q
    rw [e] at p h1
    refine h1 fun J Z' H' S' s' g' hY => ?_
    exact for_turns hY hg hb Z' S' e1 g' (Same.refl _) (p.shift s' Fix.refl)
  | exc x e1 =>
    rw [e] at p h1
    exact h1 fun cls d Z' H' S' hx s' g' => p cls d σ Z' H' S' hx Fix.refl s' g'
  | bad => rw [e] at p; exact p.elim
theorem xs_for {te ie : Expr} {body : List Stmt} (hp : PassesOwn (model X.prog X.w) X.A X.env X.xe) (hc : X.calm = true) (hi : PIs G X W te ie fi) (hg : PGs' G X P te g) (hb : PSs' G X W P body b)
    (hs : ∀ x, foldedSetIterable ie X.env x = pure x := by intro _; rfl) : PS' G X W P (.For te ie body [] pos) (ssFor fi g b) := by
  obtain ⟨t, p, hi⟩ := hi.ex
  obtain ⟨u, q, hg⟩ := hg.ex
  obtain ⟨v, r, hb⟩ := hb.ex
  exact ⟨_, ps_for hp hc p q r hs, SSok.for hi hg hb⟩
end
end FL

set_option maxHeartbeats 2000000
/-! FLH: a def's promise by its body; calls; built-ins. -/
namespace FL
open PySem L2 Classical

/-! ### a def -/
def runF (N n : Nat) (pr : List Nat) (b : SS) : FS := fun ms => match b (ms.map some ++ List.replicate (N - n) none) with
  | .ok (.ret m, e) => .ok (m, (killAll pr e).take n)
  | .ok (.nx, e) => .ok (.d .non, (killAll pr e).take n)
  | .exc x e => .exc x ((killAll pr e).take n)
  | _ => .bad
abbrev Pn (n : Nat) (pr : List Nat) : Px := fun i => i < n ∧ i ∉ pr
theorem killAll_len : ∀ (ds : List Nat) (env : Env), (killAll ds env).length = env.length
  | [], _ => rfl
  | d :: ds, env => by
    show (killAll ds (env.set d none)).length = env.length
    rw [killAll_len ds, List.length_set]
theorem killAll_get : ∀ (ds : List Nat) (env : Env) (i : Nat) (m : M), (killAll ds env)[i]? = some (some m) → i ∉ ds
  | [], _, _, _, _ => by simp
  | d :: ds, env, i, m, h => by
    have h' : (killAll ds (env.set d none))[i]? = some (some m) := h
    have h1 := killAll_get ds _ i m h'
    have keep : ∀ (ds : List Nat) (env : Env), (killAll ds env)[i]? = some (some m) → env[i]? = some (some m) := by
      intro ds
      induction ds with
      | nil => intro env h; exact h
      | cons d ds ih =>
        intro env h
        have h2 := ih (env.set d none) h
        by_cases e : d = i
        · subst e
          by_cases hl : d < env.length
          · rw [List.getElem?_set_self hl] at h2; cases h2
          · rw [List.getElem?_eq_none (by rw [List.length_set]; omega)] at h2; cases h2
        · rwa [List.getElem?_set_ne e] at h2
    have h2 := keep ds _ h'
    have : i ≠ d := by
      intro e
      subst e
      by_cases hl : i < env.length
      · rw [List.getElem?_set_self hl] at h2; cases h2
      · rw [List.getElem?_eq_none (by rw [List.length_set]; omega)] at h2; cases h2
    simp [this, h1]
theorem Good.params {G : Gx} {Z H : Hp} {σ σ0 : St} {env : Env} {S : Rs} {n : Nat} {pr : List Nat} (g : Good G Z H σ env S) (fx : Fix (Pn n pr) σ0 σ) :
    ∃ S', Good G Z H (σ0.take n) ((killAll pr env).take n) S' ∧ ∀ a, U S' a → U S a := by
  obtain ⟨S', g', h'⟩ := killAll_good pr g
  refine ⟨S', ⟨g'.zh, fun i m e => ?_, g'.dj, g'.al, g'.zf, ?_⟩, h'⟩
  · have hi : i < n := by
      have := (List.getElem?_eq_some_iff.mp e).1
      rw [List.length_take] at this
      omega
    rw [List.getElem?_take_of_lt hi] at e ⊢
    have hp := killAll_get pr env i m e
    obtain ⟨v, hv, r⟩ := g'.rep i m e
    exact ⟨v, by rw [← fx.1 i ⟨hi, hp⟩]; exact hv, r⟩
  · rw [List.length_take, List.length_take, g'.len, fx.2]
section
variable {P : Program} {w : World} {mg : Str → Option Value} {base : Heap} {G : Gx}
theorem fn_ok {x qual : Str} {st : Stmt} {f : Addr} {fd : FuncData} {N ps : List Str} {k n : Nat} (pr : List Nat) {b : SS} (F : Fun G.K x qual st f fd) (S : FnScope N ps (defScope st)) (hn : ps.length = n)
    (hbody : ∀ (cdv : Value) (A : Around) (outer : List PySem.Env) (s : Shared) (H : Hp) (E : XK), Room k (cxOf (L2.CX P w) P w G.K mg base N qual (defScope st) f cdv A outer s H E).A →
      Takes (cxOf (L2.CX P w) P w G.K mg base N qual (defScope st) f cdv A outer s H E) (fun cls d _ H => E cls d H) →
      PassesOwn (model P w) (cxOf (L2.CX P w) P w G.K mg base N qual (defScope st) f cdv A outer s H E).A (cxOf (L2.CX P w) P w G.K mg base N qual (defScope st) f cdv A outer s H E).env (cxOf (L2.CX P w) P w G.K mg base N qual (defScope st) f cdv A outer s H E).xe →
      PSs' G (cxOf (L2.CX P w) P w G.K mg base N qual (defScope st) f cdv A outer s H E) (fun cls d _ H => E cls d H) (Pn n pr) (defBody st) b) :
    FnOk P w G.K mg base (L2.CX P w) (k + 1) f fd ps (spF G n (runF N.length n pr b)) := by
  refine F.okX S (fun vs H Q E h => by rw [h.1, hn]) (fun cdv A outer s H vs Q E hr h => ?_)
  obtain ⟨t, p, hb⟩ := (hbody cdv A outer s H E hr (takes_of rfl rfl rfl rfl) (passes_of rfl)).ex
  refine ⟨t, p, ?_⟩
  obtain ⟨hl, Z, ms, T, g, q⟩ := h
  have hms : ms.length = n := by have := g.len; simpa [hl] using this
  have hNn : n ≤ N.length := by have := congrArg List.length S.pre; rw [List.length_take, hn] at this; omega
  have g0 : Good G Z H (L2.start N vs) (ms.map some ++ List.replicate (N.length - n) none) T := by
    refine ⟨g.zh, fun i m e => ?_, g.dj, g.al, g.zf, ?_⟩
    · have hi : i < n := by
        by_cases hi : i < n
        · exact hi
        · rw [List.getElem?_append_right (by simpa [hms] using hi)] at e
          rw [List.getElem?_replicate] at e
          split at e <;> cases e
      rw [List.getElem?_append_left (by simpa [hms] using hi)] at e
      obtain ⟨v, hv, r⟩ := g.rep i m e
      refine ⟨v, ?_, r⟩
      unfold L2.start
      rw [List.getElem?_append_left (by simpa [hl] using hi)]
      exact hv
    · unfold L2.start
      simp [hl, hms]
  have t0 : (L2.start N vs).take n = vs.map some := by
    unfold L2.start
    rw [List.take_append_of_le_length (by simp [hl]), List.take_of_length_le (by simp [hl])]
  have l0 : (L2.start N vs).length = N.length := by
    unfold L2.start
    simp [hl]
    omega
  have sigLen : ∀ {σ' : St} {e : Env} {Z' H' S'}, Good G Z' H' σ' e S' → e.length = σ'.length := fun g => g.len
  refine hb _ Z H _ _ T g0 ?_
  unfold runF at q
  have le0 : (ms.map some ++ List.replicate (N.length - n) (none : Option M)).length = N.length := by simp [hms]; omega
  cases e : b (ms.map some ++ List.replicate (N.length - n) none) with
  | bad => rw [e] at q; exact q.elim
  | exc x e' =>
    rw [e] at q
    intro cls d σ' Z' H' S' hx fx s' g'
    obtain ⟨S2, g2, u2⟩ := g'.params fx
    rw [t0] at g2
    exact q cls d Z' H' S2 hx (s'.weak u2) g2
  | ok r =>
    obtain ⟨fl, e'⟩ := r
    rw [e] at q
    cases fl with
    | nx =>
      intro σ' Z' H' S' fx s' g'
      obtain ⟨S2, g2, u2⟩ := g'.params fx
      rw [t0] at g2
      exact q .non Z' H' S2 (fun _ => False) (s'.weak fun a z => z.elim (u2 a) fun z => z.elim) g2 (Hld.data (by simp [RepD]))
    | ret m =>
      intro v σ' Z' H' S' T' fx s' g' h
      obtain ⟨S2, g2, u2⟩ := g'.params fx
      rw [t0] at g2
      exact q v Z' H' S2 T' (s'.weak fun a z => z.elim (fun z => .inl (u2 a z)) .inr) g2 ⟨h.rep, h.al, h.zf, fun a z w => h.dj a z (u2 a w)⟩
    | brk => exact q.elim
    | ct => exact q.elim
end
end FL

set_option maxHeartbeats 2000000
/-! FLI: what is walked; comprehensions. -/
namespace FL
open PySem L2 Classical

theorem PI.or {X : Cx} {tg e : Expr} {t u : TI} (h : PI X tg e t) (h' : PI X tg e u) : PI X tg e (fun σ H R => t σ H R ∨ u σ H R) := ⟨fun pins s σ H R I q => q.elim (h.run pins s σ H R I) (h'.run pins s σ H R I)⟩
/-- the items of a list, a tuple, a text -/
def itemsD : D → Option (List D)
  | .lst xs => some xs
  | .scr xs => some xs
  | .tup xs => some xs
  | .str z => some (z.cps.toList.map fun c => .str ⟨#[c]⟩)
  | _ => none
def siQ (f : SE) : SI := fun env => match f env with
  | .ok (m, e) => match itemsD (fz m) with
    | some xs => .ok (xs, e)
    | none => .bad
  | .exc x e => .exc x e
  | .bad => .bad
section
variable {G : Gx} {X : Cx} {W : WX'} {f : SE} {e tg : Expr} {te : TE}
theorem yields_list {Z : Hp} {a : Addr} {vs : List V} {xs : List D} (q : ∀ Z1 H1, Same Z Z1 → Same Z1 H1 → SqL G.K H1 a vs) (r : RepDs G Z xs vs) : Yields G (fun Z1 _ _ => Same Z Z1) (Itl G.K a) xs where
  stay := fun Z1 H1 R Z2 H2 R2 h s => h.trans s.z
  stop := fun Z1 H1 R i h zh hl => ⟨vs, q Z1 H1 h zh, by rw [← r.len]; exact hl⟩
  item := fun Z1 H1 R i d h zh e => by
    obtain ⟨v, hv, rv⟩ := r.get e
    refine ⟨⟨vs, v, q Z1 H1 h zh, hv⟩, fun x H' hy => ?_⟩
    obtain ⟨rfl, hx⟩ := hy
    have := hx vs (q Z1 _ h zh)
    rw [hv] at this; cases this
    exact ⟨Z1, Stp.refl zh, RepD.mono h _ _ rv⟩
theorem yields_tup {Z : Hp} {a : Addr} {vs : List V} {xs : List D} (q : ∀ Z1 H1, Same Z Z1 → Same Z1 H1 → SqT G.K H1 a vs) (r : RepDs G Z xs vs) : Yields G (fun Z1 _ _ => Same Z Z1) (Itt G.K a) xs where
  stay := fun Z1 H1 R Z2 H2 R2 h s => h.trans s.z
  stop := fun Z1 H1 R i h zh hl => ⟨vs, q Z1 H1 h zh, by rw [← r.len]; exact hl⟩
  item := fun Z1 H1 R i d h zh e => by
    obtain ⟨v, hv, rv⟩ := r.get e
    refine ⟨⟨vs, v, q Z1 H1 h zh, hv⟩, fun x H' hy => ?_⟩
    obtain ⟨rfl, hx⟩ := hy
    have := hx vs (q Z1 _ h zh)
    rw [hv] at this; cases this
    exact ⟨Z1, Stp.refl zh, RepD.mono h _ _ rv⟩
theorem yields_str {Z : Hp} (z : Str) : Yields G (fun Z1 _ _ => Same Z Z1) (Its z) (z.cps.toList.map fun c => .str ⟨#[c]⟩) where
  stay := fun Z1 H1 R Z2 H2 R2 h s => h.trans s.z
  stop := fun Z1 H1 R i h zh hl => by
    show z.cps.size ≤ i
    simpa using hl
  item := fun Z1 H1 R i d h zh e => by
    rw [List.getElem?_map] at e
    cases ec : z.cps.toList[i]? with
    | none => rw [ec] at e; cases e
    | some c =>
      rw [ec] at e; cases e
      have hi : i < z.cps.size := by have := (List.getElem?_eq_some_iff.mp ec).1; simpa using this
      refine ⟨hi, fun x H' hy => ?_⟩
      obtain ⟨rfl, c', hc, rfl⟩ := hy
      have : c' = c := by
        have e1 : z.cps.toList[i]? = z.cps[i]? := by simp
        rw [e1, hc] at ec; cases ec; rfl
      subst this
      exact ⟨Z1, Stp.refl zh, by simp [RepD]⟩
theorem yields_range {Z : Hp} (lo : Int) (n : Nat) : Yields G (fun Z1 _ _ => Same Z Z1) (Itr lo n) ((List.range n).map fun (i : Nat) => .int (lo + (i : Int))) where
  stay := fun Z1 H1 R Z2 H2 R2 h s => h.trans s.z
  stop := fun Z1 H1 R i h zh hl => by
    show n ≤ i
    simpa using hl
  item := fun Z1 H1 R i d h zh e => by
    rw [List.getElem?_map] at e
    by_cases hi : i < n
    · rw [List.getElem?_range hi] at e
      cases e
      refine ⟨hi, fun x H' hy => ?_⟩
      obtain ⟨rfl, rfl⟩ := hy
      exact ⟨Z1, Stp.refl zh, by simp [RepD]⟩
    · rw [List.getElem?_eq_none (by simpa using hi)] at e; cases e
theorem TIok.q (h : SEok G W te f) : TIok G W (fun σ H R => iList G.K te σ H R ∨ (iTup G.K te σ H R ∨ iStr te σ H R)) (siQ f) := fun Z H σ env S R gd => by
  unfold siQ
  have h1 := fun Q => h Z H σ env S Q gd
  cases e1 : f env with
  | bad => trivial
  | exc x e2 =>
    simp only [e1] at h1
    exact fun q => .inl (h1 _ q)
  | ok r =>
    obtain ⟨m, env1⟩ := r
    simp only [e1] at h1
    simp only
    cases em : fz m with
    | lst xs =>
      simp only [itemsD]
      intro q
      refine .inl (h1 _ fun v Z' H' S' T s' g' l => ?_)
      obtain ⟨rz, sz⟩ := l.frozen g'.zh
      rw [em] at rz
      simp only [RepD] at rz
      obtain ⟨a, vs, rfl, hz, rr⟩ := rz
      have sT : Stp Z' H' T (Fzp Z' H' T) H' T := ⟨sz.z, sz.zh, fun _ _ e _ => e, fun _ z => .inl z, fun a z => by
        by_cases ta : T a
        · exact .inr (.inl ta)
        · rw [frz_out ta] at z; exact .inl z⟩
      have g2 := (g'.move sT fun a z w => l.dj a w z).1
      refine ⟨a, rfl, ⟨vs, SqL.of (sz.zh _ _ hz)⟩, q _ _ _ S' (s'.trans (sz.weak fun _ z => z)) g2 (yields_list (fun Z1 H1 h1 h2 => SqL.of (h2 _ _ (h1 _ _ hz))) rr)⟩
    | scr xs =>
      simp only [itemsD]
      intro q
      refine .inl (h1 _ fun v Z' H' S' T s' g' l => ?_)
      obtain ⟨rz, sz⟩ := l.frozen g'.zh
      rw [em] at rz
      simp only [RepD] at rz
      obtain ⟨a, vs, rfl, hz, rr⟩ := rz
      have sT : Stp Z' H' T (Fzp Z' H' T) H' T := ⟨sz.z, sz.zh, fun _ _ e _ => e, fun _ z => .inl z, fun a z => by
        by_cases ta : T a
        · exact .inr (.inl ta)
        · rw [frz_out ta] at z; exact .inl z⟩
      have g2 := (g'.move sT fun a z w => l.dj a w z).1
      refine ⟨a, rfl, ⟨vs, sz.zh.seq hz⟩, q _ _ _ S' (s'.trans (sz.weak fun _ z => z)) g2 (yields_list (fun Z1 H1 h1 h2 => h2.seq (h1.seq hz)) rr)⟩
    | tup xs =>
      simp only [itemsD]
      intro q
      refine .inr (.inl (h1 _ fun v Z' H' S' T s' g' l => ?_))
      obtain ⟨rz, sz⟩ := l.frozen g'.zh
      rw [em] at rz
      simp only [RepD] at rz
      obtain ⟨a, vs, rfl, hz, rr⟩ := rz
      have sT : Stp Z' H' T (Fzp Z' H' T) H' T := ⟨sz.z, sz.zh, fun _ _ e _ => e, fun _ z => .inl z, fun a z => by
        by_cases ta : T a
        · exact .inr (.inl ta)
        · rw [frz_out ta] at z; exact .inl z⟩
      have g2 := (g'.move sT fun a z w => l.dj a w z).1
      refine ⟨a, rfl, ⟨vs, Same.seqT sz.zh hz⟩, q _ _ _ S' (s'.trans (sz.weak fun _ z => z)) g2 (yields_tup (fun Z1 H1 h1 h2 => Same.seqT h2 (Same.seqT h1 hz)) rr)⟩
    | str z =>
      simp only [itemsD]
      intro q
      refine .inr (.inr (h1 _ fun v Z' H' S' T s' g' l => ?_))
      have rz := (l.frozen g'.zh).1
      rw [em] at rz
      simp only [RepD] at rz
      subst rz
      exact ⟨z, rfl, q _ _ _ S' (s'.weak fun _ z => .inl z) g' (yields_str z)⟩
    | _ => trivial
theorem xi_q (hK : G.K = X.K) (h : PEs G X W e f) : PIs G X W tg e (siQ f) := by
  obtain ⟨t, p, h⟩ := h.ex
  have h1 : PI X tg e (iList G.K t) := by rw [hK]; exact pi_list p
  have h2 : PI X tg e (iTup G.K t) := by rw [hK]; exact pi_tup p
  exact ⟨_, PI.or h1 (PI.or h2 (pi_str p)), TIok.q h⟩
/-- range -/
abbrev C62 (i : Int) : Prop := -(2 ^ 62) ≤ i ∧ i < 2 ^ 62
def siR1 (fs : SA) : SI := fun env => match fs env with
  | .ok ([.d (.int j)], e) => if C62 j then .ok ((List.range j.toNat).map fun (i : Nat) => .int (0 + (i : Int)), e) else .bad
  | .exc x e => .exc x e
  | _ => .bad
def siR2 (fs : SA) : SI := fun env => match fs env with
  | .ok ([.d (.int i), .d (.int j)], e) => if C62 i ∧ C62 j then .ok ((List.range (j - i).toNat).map fun (k : Nat) => .int (i + (k : Int)), e) else .bad
  | .exc x e => .exc x e
  | _ => .bad
theorem row1 {Z H : Hp} {m : M} {vs : List V} {T : Rs} (g : Good G Z H (vs.map some) ([m].map some) T) : ∃ v, vs = [v] ∧ RepM G Z H m (T 0) v := by
  have hl := g.len
  match vs, hl with
  | [v], _ =>
    obtain ⟨w, hw, h⟩ := g.head
    cases hw
    exact ⟨v, rfl, h.rep⟩
theorem row2 {Z H : Hp} {m m' : M} {vs : List V} {T : Rs} (g : Good G Z H (vs.map some) ([m, m'].map some) T) : ∃ v w, vs = [v, w] ∧ RepM G Z H m (T 0) v ∧ RepM G Z H m' (T 1) w := by
  have hl := g.len
  match vs, hl with
  | [v, w], _ =>
    obtain ⟨v', hv, h⟩ := g.head
    cases hv
    obtain ⟨w', hw, h'⟩ := g.tail.head
    cases hw
    exact ⟨v, w, rfl, h.rep, h'.rep⟩
theorem xi_range1 {a : Expr} {fs : SA} {bk : Bk} {p pos : Pos} (hm : X.mg "range" = none) (ha : PAs' G X W [a] bk fs) (hg : Gl X "range" := by rfl) (hs : starEach [a] X.env = [(false, eval a X.env)] := by rfl) : PIs G X W tg (.Call (.Name "range" p) [a] [] pos) (siR1 fs) := by
  obtain ⟨t, q, h⟩ := ha.ex
  refine ⟨_, pi_range1 hg hm q hs, fun Z H σ env S R gd => ?_⟩
  unfold siR1
  have h1 := h Z H σ env S (fun vs H1 => ∃ j : Int, vs = [.int j] ∧ -(2 ^ 62) ≤ j ∧ j < 2 ^ 62 ∧ R (Itr 0 j.toNat) H1) gd
  split
  · rename_i e2
    intro k
    split at e2
    · rename_i j e3 e1
      split at e2
      · rename_i c
        cases e2
        rw [e1] at h1
        refine h1 fun vs Z' H' S' T s' g' row d kk => ?_
        obtain ⟨v, rfl, r⟩ := row1 row
        rw [rep_int r]
        exact ⟨j, rfl, c.1, c.2, k _ Z' H' S' (s'.weak fun _ z => .inl z) g' (yields_range 0 j.toNat)⟩
      · cases e2
    · cases e2
    · cases e2
  · rename_i x e2 e
    split at e
    · split at e <;> cases e
    · rename_i e1
      cases e
      rw [e1] at h1
      exact h1
    · cases e
  · trivial
theorem xi_range2 {a b : Expr} {fs : SA} {bk : Bk} {p pos : Pos} (hm : X.mg "range" = none) (ha : PAs' G X W [a, b] bk fs) (hg : Gl X "range" := by rfl) (hs : starEach [a, b] X.env = [(false, eval a X.env), (false, eval b X.env)] := by rfl) (hs2 : starEach [b] X.env = [(false, eval b X.env)] := by rfl) : PIs G X W tg (.Call (.Name "range" p) [a, b] [] pos) (siR2 fs) := by
  obtain ⟨t, q, h⟩ := ha.ex
  refine ⟨_, pi_range2 hg hm q hs hs2, fun Z H σ env S R gd => ?_⟩
  unfold siR2
  have h1 := h Z H σ env S (fun vs H1 => ∃ i j : Int, vs = [.int i, .int j] ∧ (-(2 ^ 62) ≤ i ∧ i < 2 ^ 62 ∧ -(2 ^ 62) ≤ j ∧ j < 2 ^ 62) ∧ R (Itr i (j - i).toNat) H1) gd
  split
  · rename_i e2
    intro k
    split at e2
    · rename_i i j e3 e1
      split at e2
      · rename_i c
        cases e2
        rw [e1] at h1
        refine h1 fun vs Z' H' S' T s' g' row d kk => ?_
        obtain ⟨v, w, rfl, r, r'⟩ := row2 row
        rw [rep_int r, rep_int r']
        exact ⟨i, j, rfl, ⟨c.1.1, c.1.2, c.2.1, c.2.2⟩, k _ Z' H' S' (s'.weak fun _ z => .inl z) g' (yields_range i (j - i).toNat)⟩
      · cases e2
    · cases e2
    · cases e2
  · rename_i x e2 e
    split at e
    · split at e <;> cases e
    · rename_i e1
      cases e
      rw [e1] at h1
      exact h1
    · cases e
  · trivial
end

/-! ### comprehensions -/
theorem wipe_get {σ : St} {i : Nat} : ∀ {vs : List Nat}, i ∉ vs → (wipe σ vs)[i]? = σ[i]?
  | [], _ => rfl
  | v :: vs, h => by
    unfold wipe
    rw [List.getElem?_set_ne (fun e => h (by simp [e])), wipe_get (fun z => h (List.mem_cons_of_mem _ z))]
theorem wipe_in {σ : St} {i : Nat} : ∀ {vs : List Nat}, i ∈ vs → i < σ.length → (wipe σ vs)[i]? = some none
  | v :: vs, h, hl => by
    unfold wipe
    by_cases e : v = i
    · subst e; rw [List.getElem?_set_self (by rw [wipe_length]; exact hl)]
    · rw [List.getElem?_set_ne e]
      exact wipe_in ((List.mem_cons.mp h).resolve_left (Ne.symm e)) hl
theorem wipe_fix {σ σ2 : St} {vs : List Nat} (fx : Fix (fun i => i ∉ vs) (wipe σ vs) σ2) : wipe σ2 vs = wipe σ vs := by
  have hl : σ2.length = σ.length := by rw [fx.2, wipe_length]
  apply List.ext_getElem?
  intro i
  by_cases h : i ∈ vs
  · by_cases hi : i < σ.length
    · rw [wipe_in h hi, wipe_in h (by rw [hl]; exact hi)]
    · rw [List.getElem?_eq_none (by rw [wipe_length, hl]; omega), List.getElem?_eq_none (by rw [wipe_length]; omega)]
  · rw [wipe_get h, fx.1 i h]
section
variable {G : Gx} {Z H : Hp} {σ σ2 : St} {env : Env} {S : Rs} {vs : List Nat}
theorem Good.unwipe (g : Good G Z H (wipe σ vs) env S) : Good G Z H σ env S :=
  ⟨g.zh, fun i m e => by obtain ⟨v, hv, r⟩ := g.rep i m e; exact ⟨v, (wipe_some hv).1, r⟩, g.dj, g.al, g.zf, by rw [g.len, wipe_length]⟩
theorem Good.wipe (g : Good G Z H σ env S) (vs : List Nat) : ∃ S', Good G Z H (L2.wipe σ vs) (killAll vs env) S' ∧ ∀ a, U S' a → U S a := by
  obtain ⟨S', g', h'⟩ := killAll_good vs g
  exact ⟨S', ⟨g'.zh, fun i m e => by
    obtain ⟨v, hv, r⟩ := g'.rep i m e
    exact ⟨v, by rw [wipe_get (killAll_get vs env i m e)]; exact hv, r⟩, g'.dj, g'.al, g'.zf, by rw [g'.len, wipe_length]⟩, h'⟩
end
def GSem (G : Gx) (P : Px) (f : SG) : TG := fun v σ H Q => ∃ Z env S m T, Good G Z H σ env S ∧ Hld G Z H (U S) m T v ∧ match f m env with
  | .ok env' => ∀ σ' S', Fix P σ σ' → Good G Z H σ' env' S' → (∀ a, U S' a → U S a ∨ T a) → Q σ' H
  | _ => False
theorem PGs'.sem {G : Gx} {X : Cx} {P : Px} {tg : Expr} {f : SG} (h : PGs' G X P tg f) : PG X tg (GSem G P f) := by
  obtain ⟨g, p, h⟩ := h.ex
  refine ⟨fun pins s σ H v u Q I r q => p.run pins s σ H v u Q I r ?_⟩
  obtain ⟨Z, env, S, m, T, gd, l, q⟩ := q
  have h1 := h Z H σ env S m T v Q gd l
  cases e : f m env with
  | ok e' => rw [e] at h1 q; exact h1 q
  | exc _ _ => rw [e] at q; exact q.elim
  | bad => rw [e] at q; exact q.elim
theorem GSem.ok {G : Gx} {P : Px} {f : SG} : SGok G P (GSem G P f) f := fun Z H σ env S m T v Q gd l => by
  cases e : f m env with
  | ok e' => intro q; exact ⟨Z, env, S, m, T, gd, l, by rw [e]; exact q⟩
  | _ => trivial
/-- the turns of a comprehension: the slots own are the comprehension's -/
def lcl (own : List Nat) (g : SG) (c : SB) (f : SE) : List D → List M → Env → Res (List M × Env)
  | [], acc, env => .ok (acc, env)
  | x :: xs, acc, env => match g (.d x) env with
    | .ok e1 => match c e1 with
      | .ok (true, e2) => match f e2 with
        | .ok (m, e3) => lcl own g c f xs (acc ++ [m]) (killAll own e3)
        | _ => .bad
      | .ok (false, e2) => lcl own g c f xs acc (killAll own e2)
      | _ => .bad
    | _ => .bad
def sLc (own : List Nat) (fi : SI) (g : SG) (c : SB) (f : SE) : SE := fun env => match fi env with
  | .ok (xs, e) => if xs.length ≤ sizeLine then (match lcl own g c f xs [] (killAll own e) with
    | .ok (ms, e2) => .ok (.lst ms, e2)
    | _ => .bad) else .bad
  | .exc x e => .exc x e
  | .bad => .bad
def sbYes : SB := fun env => .ok (true, env)
abbrev W0 : WX' := fun _ _ _ _ => False
section
variable {G : Gx} {X : Cx} {W : WX'} {fi : SI} {g : SG} {c : SB} {f : SE} {ti : TI} {own : List Nat}
theorem SEok.lc {tg : TG} {tt : TT} {te : TE} (hi : TIok G W ti fi) (hg : SGok G (fun i => i ∉ own) tg g) (hc : SBok G W0 tt c) (he : SEok G W0 te f) : SEok G W (tLc ti tg tt te own) (sLc own fi g c f) := fun Z H σ env S Q gd => by
  unfold sLc
  have h1 := fun R => hi Z H σ env S R gd
  cases e1 : fi env with
  | bad => trivial
  | exc x e2 => simp only [e1] at h1; exact fun q => h1 _ q
  | ok r =>
    obtain ⟨xs, env1⟩ := r
    simp only [e1] at h1
    simp only
    by_cases hl : xs.length ≤ sizeLine
    case neg => rw [if_neg hl]; trivial
    rw [if_pos hl]
    cases e2 : lcl own g c f xs [] (killAll own env1) with
    | exc _ _ => trivial
    | bad => trivial
    | ok r2 =>
      obtain ⟨ms, env2⟩ := r2
      intro q
      refine h1 _ fun J Z1 H1 S1 s1 g1 hY D0 hD => ?_
      obtain ⟨S2, g2, u2⟩ := g1.wipe own
      have st0 := Stp.new (o := HO.lst []) g1.zh hD (U S2)
      have gS := (g2.move (Stp.new (o := HO.lst []) g1.zh hD (fun _ => False)) fun _ _ z => z)
      have hl0 : Hld G Z1 (upd H1 D0 (.lst [])) (U S2) (.lst []) (fun a => False ∨ a = D0) (.ref D0) :=
        lst_new (ms := []) (vs := []) (T := fun _ => False) g1.zh (by simp [RepMs]) (fun _ z => z.elim) (fun _ z => z.elim) (fun _ z => z.elim) hD (fun z => g2.al' _ z hD)
      -- the word: behind i turns what is made so far is in the hand, the rest of the turns ends in ms
      refine ⟨fun i m H' => m = xs.length - i ∧ i ≤ xs.length ∧ ∃ acc e' Z' S' T, Same Z1 Z' ∧ Good G Z' H' (wipe σ own) e' S' ∧ Hld G Z' H' (U S') (.lst acc) T (.ref D0) ∧ acc.length ≤ i ∧
          Stp Z H (U S) Z' H' (fun a => U S' a ∨ T a) ∧ lcl own g c f (xs.drop i) acc e' = .ok (ms, env2),
        ⟨xs.length, by simp, Nat.zero_le _, [], _, Z1, S2, _, Same.refl _, gS.1, hl0, by simp, ?_, by simpa using e2⟩, ?_⟩
      · refine (s1.trans (Stp.new (o := HO.lst []) g1.zh hD (U S1))).weak fun a z => ?_
        rcases z with z | z | z
        · exact .inl (u2 a z)
        · exact z.elim
        · exact .inr z
      · rintro i m H2 ⟨rfl, hi', acc, e', Z2, S3, T, hZ, g3, l3, hacc, s3, e3⟩
        by_cases hlt : i < xs.length
        case neg =>
          have e : i = xs.length := by omega
          refine .inl ⟨hY.stop Z2 H2 (U S3) i hZ g3.zh (by omega), ?_⟩
          rw [e, List.drop_length] at e3
          unfold lcl at e3
          cases e3
          exact q _ Z2 H2 S3 T s3 g3.unwipe l3
        refine .inr ?_
        obtain ⟨go, yl⟩ := hY.item Z2 H2 (U S3) i xs[i] hZ g3.zh (List.getElem?_eq_getElem hlt)
        rw [List.drop_eq_getElem_cons hlt] at e3
        unfold lcl at e3
        refine ⟨go, fun H' => ∃ acc e' Z' S' T, Same Z1 Z' ∧ Good G Z' H' (wipe σ own) e' S' ∧ Hld G Z' H' (U S') (.lst acc) T (.ref D0) ∧ acc.length ≤ i + 1 ∧
          Stp Z H (U S) Z' H' (fun a => U S' a ∨ T a) ∧ lcl own g c f (xs.drop (i + 1)) acc e' = .ok (ms, env2), fun H' h => ⟨xs.length - (i + 1), by omega, rfl, hlt, h⟩, fun x H3 hy => ?_⟩
        obtain ⟨Z3, s4, rx⟩ := yl x H3 hy
        have g4 := (g3.move s4 fun _ _ z => z).1
        have l4 := l3.step ((s4.frame (U S3)).from fun a z => z.elim (fun z => z.elim) id)
        have s4' : Stp Z H (U S) Z3 H3 (fun a => U S3 a ∨ T a) := (s3.trans ((s4.frame (fun a => U S3 a ∨ T a)).from fun a z => z.elim (fun z => z.elim) id)).weak fun a z => .inr z
        have l4' : Hld G Z3 H3 (U S3) (.lst acc) T (.ref D0) := ⟨l4.rep, l4.al, l4.zf, l3.dj⟩
        cases eg : g (.d xs[i]) e' with
        | exc _ _ => rw [eg] at e3; cases e3
        | bad => rw [eg] at e3; cases e3
        | ok e4 =>
          rw [eg] at e3
          simp only at e3
          have hh := fun Q => hg Z3 H3 (wipe σ own) e' S3 (.d xs[i]) (fun _ => False) x Q g4 (Hld.data rx)
          simp only [eg] at hh
          refine hh _ fun σ5 S5 fx5 g5 u5 => ⟨wipe_fix fx5, ?_⟩
          have u5' : ∀ a, U S5 a → U S3 a := fun a z => (u5 a z).elim id fun z => z.elim
          have l5 : Hld G Z3 H3 (U S5) (.lst acc) T (.ref D0) := ⟨l4'.rep, l4'.al, l4'.zf, fun a z w => l4'.dj a z (u5' a w)⟩
          have s5 : Stp Z H (U S) Z3 H3 (fun a => U S5 a ∨ T a) := s4'.weak fun a z => z.elim (fun z => .inl (u5' a z)) .inr
          have hc1 := fun Q => hc Z3 H3 σ5 e4 S5 Q g5
          cases ec : c e4 with
          | exc _ _ => rw [ec] at e3; cases e3
          | bad => rw [ec] at e3; cases e3
          | ok rc =>
            obtain ⟨k, e5⟩ := rc
            rw [ec] at e3
            simp only [ec] at hc1
            refine hc1 _ fun Z6 H6 S6 s6 g6 => ?_
            have l6 := l5.step s6
            have s6' : Stp Z H (U S) Z6 H6 (fun a => U S6 a ∨ T a) := s5.trans (s6.frame T)
            have z6 : Same Z1 Z6 := (hZ.trans s4.z).trans s6.z
            cases k with
            | false =>
              simp only at e3
              rw [if_neg Bool.false_ne_true]
              obtain ⟨S7, g7, u7⟩ := g6.wipe own
              rw [wipe_fix fx5] at g7
              exact ⟨acc, _, Z6, S7, T, z6, g7, ⟨l6.rep, l6.al, l6.zf, fun a z w => l6.dj a z (u7 a w)⟩, by omega, s6'.weak fun a z => z.elim (fun z => .inl (u7 a z)) .inr, e3⟩
            | true =>
              simp only at e3
              rw [if_pos rfl]
              have he1 := fun Q => he Z6 H6 σ5 e5 S6 Q g6
              cases ee : f e5 with
              | exc _ _ => rw [ee] at e3; cases e3
              | bad => rw [ee] at e3; cases e3
              | ok re =>
                obtain ⟨m, e6⟩ := re
                rw [ee] at e3
                simp only [ee] at he1
                simp only at e3
                refine he1 _ fun y Z7 H7 S7 Ty s7 g7 ly => ?_
                have l7 := l6.step s7
                have rep7 := l7.rep
                simp only [RepM] at rep7
                obtain ⟨a0, vs0, T0, ea, sa, ta, ts, ho, rr⟩ := rep7
                cases ea
                have hlen : vs0.length = acc.length := rr.len.symm
                refine ⟨vs0, ho, by rw [hlen]; omega, ?_⟩
                have tyD : ¬ Ty D0 := fun z => l7.dj D0 sa (.inr z)
                have dT : ∀ a, T a → ¬ Ty a := fun a z w => l7.dj a z (.inr w)
                have upz : Same Z7 (upd H7 D0 (.lst (vs0 ++ [y]))) := fun a u e => by
                  have ne : a ≠ D0 := fun z => by rw [z, l7.zf D0 sa] at e; cases e
                  rw [upd_ne ne]; exact g7.zh a u e
                have stU : Stp Z7 H7 (fun a => a = D0) Z7 (upd H7 D0 (.lst (vs0 ++ [y]))) (fun a => a = D0) := ⟨Same.refl _, upz, fun b u e h => by rw [upd_ne h]; exact e, fun a z => .inl z, fun a z => .inl z⟩
                obtain ⟨g8, _⟩ := g7.move stU fun a z w => l7.dj D0 sa (.inl (by rw [← w]; exact z))
                have ryy : RepMs G Z7 (upd H7 D0 (.lst (vs0 ++ [y]))) [m] Ty [y] := by
                  simp only [RepMs]
                  exact ⟨y, [], Ty, fun _ => False, rfl, fun _ z => z, fun _ z => z.elim, fun _ _ z => z, RepM.mono (Same.refl _) _ _ _ _ (fun _ z => z) (fun a o z e => by rw [upd_ne (fun w => tyD (by rw [← w]; exact z))]; exact e) ly.rep, rfl⟩
                have rr' : RepMs G Z7 (upd H7 D0 (.lst (vs0 ++ [y]))) acc T0 vs0 := RepMs.mono (Same.refl _) _ _ _ _ (fun _ z => z) (fun a o z e => by rw [upd_ne (fun w => ta (by rw [← w]; exact z))]; exact e) rr
                obtain ⟨S8, g9, u9⟩ := g8.wipe own
                rw [wipe_fix fx5] at g9
                refine ⟨acc ++ [m], _, Z7, S8, fun a => T a ∨ Ty a, z6.trans s7.z, g9, ⟨?_, fun a z => ?_, fun a z => z.elim (l7.zf a) (ly.zf a), fun a z w => ?_⟩, by rw [List.length_append]; simp; omega, ?_, e3⟩
                · simp only [RepM]
                  exact ⟨D0, vs0 ++ [y], fun a => T0 a ∨ Ty a, rfl, .inl sa, fun z => z.elim ta tyD, fun b z => z.elim (fun z => .inl (ts b z)) .inr, upd_same, RepMs.app rr' ryy (fun _ z => .inl z) (fun _ z => .inr z) (fun b z => dT b (ts b z))⟩
                · by_cases w : a = D0
                  · rw [w, upd_same]; exact fun z => nomatch z
                  · rw [upd_ne w]; exact z.elim (l7.al a) (ly.al a)
                · exact z.elim (fun z => l7.dj a z (.inl (u9 a w))) fun z => ly.dj a z (u9 a w)
                · have s7' : Stp Z H (U S) Z7 H7 (fun a => (U S7 a ∨ Ty a) ∨ T a) := s6'.trans (s7.frame T)
                  have st8 : Stp Z H (U S) Z7 (upd H7 D0 (.lst (vs0 ++ [y]))) (fun a => a = D0 ∨ ((U S7 a ∨ Ty a) ∨ T a)) := s7'.trans ((stU.frame (fun a => (U S7 a ∨ Ty a) ∨ T a)).from fun a z => z.elim (fun w => .inr (by rw [w]; exact sa)) id)
                  refine st8.weak fun a z => ?_
                  rcases z with z | z | z
                  · exact .inr (.inl (.inl (u9 a z)))
                  · exact .inr (.inr z)
                  · exact .inr (.inl (.inr z))
theorem sby_ok : SBok G W0 tYes sbYes := fun Z H σ env S Q gd => fun q => q Z H S (Stp.refl gd.zh) gd
theorem xe_lc {elt tg iter : Expr} {scope : Scope} {own : List (Str × Nat)} {pos : Pos} (hc : X.calm = true) (hN : X.N.Nodup) (ok : BlkOk X.N X.env.scope scope own) (hi : PIs G X W tg iter fi)
    (hg : ∀ (s : Shared) (H : Hp) (C : Addr) (cl : List (Str × Addr)) (fp : List Addr), PGs' G (X.blk s H scope (compEnvC scope cl C X.env) fp) (fun i => i ∉ own.map (·.2)) tg g)
    (he : ∀ (s : Shared) (H : Hp) (C : Addr) (cl : List (Str × Addr)) (fp : List Addr), PEs G (X.blk s H scope (compEnvC scope cl C X.env) fp) W0 elt f) (hs : ∀ x, foldedSetIterable iter X.env x = pure x := by intro _; rfl) :
    PEs G X W (.ListComp elt [⟨tg, iter, [], 0⟩] scope pos) (sLc (own.map (·.2)) fi g sbYes f) := by
  obtain ⟨ti, p, hi⟩ := hi.ex
  exact ⟨_, pe_lc hc hN p ok (fun s H C cl fp => (hg s H C cl fp).sem) (fun _ _ _ _ _ => pts_nil) (fun s H C cl fp => (he s H C cl fp).sem) hs, SEok.lc hi GSem.ok sby_ok ESem.ok⟩
theorem xe_lcIf {elt tg iter ce : Expr} {scope : Scope} {own : List (Str × Nat)} {pos : Pos} (hc : X.calm = true) (hN : X.N.Nodup) (ok : BlkOk X.N X.env.scope scope own) (hi : PIs G X W tg iter fi)
    (hg : ∀ (s : Shared) (H : Hp) (C : Addr) (cl : List (Str × Addr)) (fp : List Addr), PGs' G (X.blk s H scope (compEnvC scope cl C X.env) fp) (fun i => i ∉ own.map (·.2)) tg g)
    (ht : ∀ (s : Shared) (H : Hp) (C : Addr) (cl : List (Str × Addr)) (fp : List Addr), PBs G (X.blk s H scope (compEnvC scope cl C X.env) fp) W0 ce c)
    (he : ∀ (s : Shared) (H : Hp) (C : Addr) (cl : List (Str × Addr)) (fp : List Addr), PEs G (X.blk s H scope (compEnvC scope cl C X.env) fp) W0 elt f) (hs : ∀ x, foldedSetIterable iter X.env x = pure x := by intro _; rfl) :
    PEs G X W (.ListComp elt [⟨tg, iter, [ce], 0⟩] scope pos) (sLc (own.map (·.2)) fi g c f) := by
  obtain ⟨ti, p, hi⟩ := hi.ex
  exact ⟨_, pe_lc hc hN p ok (fun s H C cl fp => (hg s H C cl fp).sem) (fun s H C cl fp => pts_one (ht s H C cl fp).sem) (fun s H C cl fp => (he s H C cl fp).sem) hs, SEok.lc hi GSem.ok BSem.ok ESem.ok⟩
/-- y = [..] -/
theorem xs_setLc {P : Px} (i : Nat) {y : Str} {py : Pos} {elt tg iter : Expr} {scope : Scope} {own : List (Str × Nat)} {pos spos : Pos} (hc : X.calm = true) (hN : X.N.Nodup) (ok : BlkOk X.N X.env.scope scope own) (hi : PIs G X W tg iter fi)
    (hg : ∀ (s : Shared) (H : Hp) (C : Addr) (cl : List (Str × Addr)) (fp : List Addr), PGs' G (X.blk s H scope (compEnvC scope cl C X.env) fp) (fun i => i ∉ own.map (·.2)) tg g)
    (he : ∀ (s : Shared) (H : Hp) (C : Addr) (cl : List (Str × Addr)) (fp : List Addr), PEs G (X.blk s H scope (compEnvC scope cl C X.env) fp) W0 elt f)
    (hsw : swapsWith (.ListComp elt [⟨tg, iter, [], 0⟩] scope pos) (some (.Name y py)) spos.line X.env = pure true) (hP : ¬ P i := by decide) (hy : X.N[i]? = some y := by rfl) (hyl : X.env.scope.names.lookup y = some .local := by rfl) (hs : ∀ x, foldedSetIterable iter X.env x = pure x := by intro _; rfl) :
    PS' G X W P (.Assign [.Name y py] (.ListComp elt [⟨tg, iter, [], 0⟩] scope pos) spos) (ssSet i (sLc (own.map (·.2)) fi g sbYes f)) := by
  obtain ⟨ti, p, hi⟩ := hi.ex
  exact ⟨_, ps_setLc hc hN hy hyl hsw p ok (fun s H C cl fp => (hg s H C cl fp).sem) (fun _ _ _ _ _ => pts_nil) (fun s H C cl fp => (he s H C cl fp).sem) hs, SSok.set hP (SEok.lc hi GSem.ok sby_ok ESem.ok)⟩
theorem xs_setLcIf {P : Px} (i : Nat) {y : Str} {py : Pos} {elt tg iter ce : Expr} {scope : Scope} {own : List (Str × Nat)} {pos spos : Pos} (hc : X.calm = true) (hN : X.N.Nodup) (ok : BlkOk X.N X.env.scope scope own) (hi : PIs G X W tg iter fi)
    (hg : ∀ (s : Shared) (H : Hp) (C : Addr) (cl : List (Str × Addr)) (fp : List Addr), PGs' G (X.blk s H scope (compEnvC scope cl C X.env) fp) (fun i => i ∉ own.map (·.2)) tg g)
    (ht : ∀ (s : Shared) (H : Hp) (C : Addr) (cl : List (Str × Addr)) (fp : List Addr), PBs G (X.blk s H scope (compEnvC scope cl C X.env) fp) W0 ce c)
    (he : ∀ (s : Shared) (H : Hp) (C : Addr) (cl : List (Str × Addr)) (fp : List Addr), PEs G (X.blk s H scope (compEnvC scope cl C X.env) fp) W0 elt f)
    (hsw : swapsWith (.ListComp elt [⟨tg, iter, [ce], 0⟩] scope pos) (some (.Name y py)) spos.line X.env = pure true) (hP : ¬ P i := by decide) (hy : X.N[i]? = some y := by rfl) (hyl : X.env.scope.names.lookup y = some .local := by rfl) (hs : ∀ x, foldedSetIterable iter X.env x = pure x := by intro _; rfl) :
    PS' G X W P (.Assign [.Name y py] (.ListComp elt [⟨tg, iter, [ce], 0⟩] scope pos) spos) (ssSet i (sLc (own.map (·.2)) fi g c f)) := by
  obtain ⟨ti, p, hi⟩ := hi.ex
  exact ⟨_, ps_setLc hc hN hy hyl hsw p ok (fun s H C cl fp => (hg s H C cl fp).sem) (fun s H C cl fp => pts_one (ht s H C cl fp).sem) (fun s H C cl fp => (he s H C cl fp).sem) hs, SSok.set hP (SEok.lc hi GSem.ok BSem.ok ESem.ok)⟩
end
end FL

set_option maxHeartbeats 2000000
/-! FLJ: built-ins, slices, globals, calls of the program's defs, raise. -/
namespace FL
open PySem L2 Classical

/-! ### a built-in's answer that is plain -/
abbrev RepVs (G : Gx) (Z H : Hp) : List M → List V → Prop := Paired fun m v => ∃ T, RepM G Z H m T v
abbrev LOp := List M → Res D
def BOP (G : Gx) (r : List V → Hp → VK → Prop) (op : LOp) : Prop := ∀ (Z H : Hp) (ms : List M) (vs : List V) (Q : VK), Same Z H → RepVs G Z H ms vs →
  match op ms with
  | .ok x => (∀ u, RepD G Z x u → Q u H) → r vs H Q
  | _ => True
theorem RepMs.vs {G : Gx} {Z H : Hp} : ∀ {ms : List M} {T : Rg} {vs : List V}, RepMs G Z H ms T vs → RepVs G Z H ms vs
  | [], _, _, r => by simp only [RepMs] at r; subst r; exact .nil
  | m :: ms, _, _, r => by
    simp only [RepMs] at r
    obtain ⟨v, r', T1, T2, rfl, _, _, _, q, r⟩ := r
    exact .cons ⟨T1, q⟩ (RepMs.vs r)
abbrev VA := Env → Res (List M)
def VAok (G : Gx) (t : TA) (f : VA) : Prop := ∀ (Z H : Hp) (σ : St) (env : Env) (S : Rs) (Q : List V → Hp → Prop), Good G Z H σ env S →
  match f env with
  | .ok ms => (∀ vs, RepVs G Z H ms vs → Q vs H) → t σ H Q
  | _ => True
structure PVAs (G : Gx) (X : Cx) (es : List Expr) (f : VA) : Prop where
  ex : ∃ t, PA X es t ∧ VAok G t f
def vaNil : VA := fun _ => .ok []
def vaCons (g : VE) (f : VA) : VA := fun env => match g env, f env with
  | .ok m, .ok ms => .ok (m :: ms)
  | _, _ => .bad
def vB (op : LOp) (f : VA) : VE := fun env => match f env with
  | .ok ms => match op ms with
    | .ok x => .ok (.d x)
    | _ => .bad
  | _ => .bad
def sB (op : LOp) (f : SA) : SE := fun env => match f env with
  | .ok (ms, e) => match op ms with
    | .ok x => .ok (.d x, e)
    | _ => .bad
  | .exc x e => .exc x e
  | .bad => .bad
section
variable {G : Gx} {X : Cx} {W : WX'} {e : Expr} {es : List Expr} {g : VE} {f : VA} {fs : SA} {bk : Bk} {op : LOp} {r : List V → Hp → VK → Prop} {x : Str} {p pos : Pos} {id T : String}
theorem xva_nil : PVAs G X [] vaNil := ⟨_, pa_nil, fun Z H σ env S Q gd => fun q => q [] .nil⟩
theorem xva_cons (h : PVs G X e g) (hs : PVAs G X es f) (hst : starEach (e :: es) X.env = (false, eval e X.env) :: starEach es X.env := by rfl) : PVAs G X (e :: es) (vaCons g f) := by
  obtain ⟨te, q, h⟩ := h.ex
  obtain ⟨t, q2, h2⟩ := hs.ex
  refine ⟨_, pa_cons q q2 hst, fun Z H σ env S Q gd => ?_⟩
  unfold vaCons
  have h1 := h Z H σ env S (fun x H1 => t σ H1 fun xs H2 => Q (x :: xs) H2) gd
  cases e1 : g env with
  | ok m =>
    cases e2 : f env with
    | ok ms =>
      intro k
      rw [e1] at h1
      refine h1 fun v T1 _ r1 => ?_
      have h2 := h2 Z H σ env S (fun xs H2 => Q (v :: xs) H2) gd
      rw [e2] at h2
      exact h2 fun vs rs => k (v :: vs) (.cons ⟨T1, r1⟩ rs)
    | _ => trivial
  | _ => trivial
theorem VEok.cb {t : TA} (hb : BOP G r op) (h : VAok G t f) : VEok G (tCB r t) (vB op f) := fun Z H σ env S Q gd => by
  unfold vB
  have h1 := h Z H σ env S (fun vs H1 => r vs H1 Q) gd
  cases e1 : f env with
  | ok ms =>
    simp only
    rw [e1] at h1
    cases e2 : op ms with
    | ok x =>
      intro q
      refine h1 fun vs rs => ?_
      have h2 := hb Z H ms vs Q gd.zh rs
      rw [e2] at h2
      exact h2 fun u ru => q u (fun _ => False) (fun _ z => z.elim) ru.toM
    | _ => trivial
  | _ => trivial
theorem SEok.cb {t : TA} (hb : BOP G r op) (h : SAok' G W bk t fs) : SEok G W (tCB r t) (sB op fs) := fun Z H σ env S Q gd => by
  unfold sB
  have h1 := h Z H σ env S (fun vs H1 => r vs H1 Q) gd
  cases e1 : fs env with
  | ok q =>
    obtain ⟨ms, env1⟩ := q
    rw [e1] at h1
    simp only
    cases e2 : op ms with
    | ok x =>
      intro q
      refine h1 fun vs Z' H' S' T s' g' row d kk => ?_
      have h2 := hb Z' H' ms vs Q g'.zh row.row.vs
      rw [e2] at h2
      exact h2 fun u ru => q u Z' H' S' (fun _ => False) (s'.weak fun _ z => .inl (z.elim id fun z => z.elim)) g' (Hld.data ru)
    | _ => trivial
  | exc x e2 => rw [e1] at h1; exact h1
  | bad => trivial
theorem xv_bi (hb : BOP G r op) (hc : CallR X (.builtin id) r) (hm : X.mg x = none) (hv : bootBuiltins x = some (.builtin id)) (h : PVAs G X (e :: es) f) (hg : Gl X x := by rfl) (hn : x ≠ "__name__" := by decide) (hdb : (x == ("__debug__" : Str)) = false := by decide)
    (he : starEach (e :: es) X.env = (false, eval e X.env) :: starEach es X.env := by rfl) (hpl : (backTo pos (starEach es X.env)).any (·.1) = false := by rfl) : PVs G X (.Call (.Name x p) (e :: es) [] pos) (vB op f) := by
  obtain ⟨t, q, h⟩ := h.ex
  exact ⟨_, pe_callB hc hg hm hv q hn hdb he hpl, VEok.cb hb h⟩
theorem xe_bi (hb : BOP G r op) (hc : CallR X (.builtin id) r) (hm : X.mg x = none) (hv : bootBuiltins x = some (.builtin id)) (h : PAs' G X W (e :: es) bk fs) (hg : Gl X x := by rfl) (hn : x ≠ "__name__" := by decide) (hdb : (x == ("__debug__" : Str)) = false := by decide)
    (he : starEach (e :: es) X.env = (false, eval e X.env) :: starEach es X.env := by rfl) (hpl : (backTo pos (starEach es X.env)).any (·.1) = false := by rfl) : PEs G X W (.Call (.Name x p) (e :: es) [] pos) (sB op fs) := by
  obtain ⟨t, q, h⟩ := h.ex
  exact ⟨_, pe_callB hc hg hm hv q hn hdb he hpl, SEok.cb hb h⟩
theorem xv_ty (hb : BOP G r op) (hc : CallR X (.type T) r) (hm : X.mg x = none) (hv : bootBuiltins x = some (.type T)) (h : PVAs G X (e :: es) f) (hg : Gl X x := by rfl) (hn : x ≠ "__name__" := by decide) (hdb : (x == ("__debug__" : Str)) = false := by decide)
    (he : starEach (e :: es) X.env = (false, eval e X.env) :: starEach es X.env := by rfl) (hpl : (backTo pos (starEach es X.env)).any (·.1) = false := by rfl) : PVs G X (.Call (.Name x p) (e :: es) [] pos) (vB op f) := by
  obtain ⟨t, q, h⟩ := h.ex
  exact ⟨_, pe_callTy hc hg hm hv q hn hdb he hpl, VEok.cb hb h⟩
theorem xe_ty (hb : BOP G r op) (hc : CallR X (.type T) r) (hm : X.mg x = none) (hv : bootBuiltins x = some (.type T)) (h : PAs' G X W (e :: es) bk fs) (hg : Gl X x := by rfl) (hn : x ≠ "__name__" := by decide) (hdb : (x == ("__debug__" : Str)) = false := by decide)
    (he : starEach (e :: es) X.env = (false, eval e X.env) :: starEach es X.env := by rfl) (hpl : (backTo pos (starEach es X.env)).any (·.1) = false := by rfl) : PEs G X W (.Call (.Name x p) (e :: es) [] pos) (sB op fs) := by
  obtain ⟨t, q, h⟩ := h.ex
  exact ⟨_, pe_callTy hc hg hm hv q hn hdb he hpl, SEok.cb hb h⟩
end

/-! len, abs, max, min, sum, int, bool, str -/
def bLen : LOp
  | [m] => match m.seq with
    | some (_, ms) => .ok (.int ms.length)
    | none => match m with
      | .d (.str z) => if z.length ≤ sizeLine then .ok (.int z.length) else .bad
      | _ => .bad
  | _ => .bad
theorem bop_len {G : Gx} : BOP G (fun xs H Q => ∃ x n, xs = [x] ∧ LenV G.K x H n ∧ Q (.int n) H) bLen := fun Z H ms vs Q zh r => by
  unfold bLen
  cases r with
  | nil => trivial
  | cons h t =>
    rename_i m v ms' vs'
    cases t with
    | cons _ _ => trivial
    | nil =>
      obtain ⟨T, h⟩ := h
      simp only
      cases e : m.seq with
      | some p =>
        obtain ⟨b, xs⟩ := p
        intro q
        obtain ⟨a, us, rfl, h1, h2, h3⟩ := h.seq zh e
        refine ⟨_, xs.length, rfl, ?_, q _ intD⟩
        cases b with
        | true => exact .inr ⟨us, h1 rfl, h3.len⟩
        | false => exact .inl ⟨us, h2 rfl, h3.len⟩
      | none =>
        simp only
        split
        · rename_i e2
          intro q
          split at e2
          · rename_i z
            split at e2
            · rename_i hz
              cases e2
              have := rep_str h
              subst this
              exact ⟨_, z.length, rfl, ⟨hz, rfl⟩, q _ intD⟩
            · cases e2
          · cases e2
        · trivial
def b1I (g : Int → D) : LOp
  | [.d (.int i)] => .ok (g i)
  | _ => .bad
def b2I (g : Int → Int → D) : LOp
  | [.d (.int i), .d (.int j)] => .ok (g i j)
  | _ => .bad
theorem bop_1I {G : Gx} {g : Int → D} {g' : Int → V} (h : ∀ i Z, RepD G Z (g i) (g' i)) : BOP G (fun xs H Q => ∃ i, xs = [.int i] ∧ Q (g' i) H) (b1I g) := fun Z H ms vs Q zh r => by
  unfold b1I
  split
  · rename_i e
    intro q
    split at e
    · rename_i i
      cases e
      cases r with
      | cons h t =>
        cases t
        obtain ⟨T, h⟩ := h
        rw [rep_int h]
        exact ⟨i, rfl, q _ (by first | exact h i Z | (rename_i hh _ _ _ _ _; exact hh i Z) | apply_assumption)⟩
    · cases e
  · trivial
def bInt : LOp
  | [.d (.int i)] => .ok (.int i)
  | [.d (.bl b)] => .ok (.int (if b then 1 else 0))
  | [.d (.str a)] => if a.length ≤ 640 then (match PySem.intText? a with
    | some n => .ok (.int n)
    | none => .bad) else .bad
  | _ => .bad
def bStr : LOp
  | [.d (.int i)] => if i.natAbs.log2 < 1920 then .ok (.str (toString i)) else .bad
  | _ => .bad
/-- the ints of a list -/
def intsOf : List M → Option (List Int)
  | [] => some []
  | .d (.int i) :: r => (intsOf r).map (i :: ·)
  | _ => none
theorem intsOf_rep {G : Gx} {Z H : Hp} : ∀ {ms : List M} {T : Rg} {vs : List V} {ns : List Int}, RepMs G Z H ms T vs → intsOf ms = some ns → vs = ns.map V.int
  | [], _, _, ns, r, e => by simp only [RepMs] at r; subst r; simp [intsOf] at e; subst e; rfl
  | m :: ms, _, _, ns, r, e => by
    simp only [RepMs] at r
    obtain ⟨v, r', T1, T2, rfl, _, _, _, q, r⟩ := r
    unfold intsOf at e
    split at e
    · cases ‹_ :: _ = _›
    · rename_i i r0 e0
      cases e0
      cases ei : intsOf ms with
      | none => rw [ei] at e; cases e
      | some k =>
        rw [ei] at e
        cases e
        rw [List.map_cons, ← intsOf_rep r ei, rep_int q]
    · cases e
def bSum : LOp
  | [m] => match m.seq with
    | some (false, ms) => match intsOf ms with
      | some ns => .ok (.int ns.sum)
      | none => .bad
    | _ => .bad
  | _ => .bad
theorem bop_sum {G : Gx} : BOP G (rSum G.K) bSum := fun Z H ms vs Q zh r => by
  unfold bSum
  cases r with
  | nil => trivial
  | cons h t =>
    rename_i m v ms' vs'
    cases t with
    | cons _ _ => trivial
    | nil =>
      obtain ⟨T, h⟩ := h
      simp only
      cases e : m.seq with
      | none => trivial
      | some p =>
        obtain ⟨b, xs⟩ := p
        cases b with
        | true => trivial
        | false =>
          simp only
          cases ei : intsOf xs with
          | none => trivial
          | some ns =>
            intro q
            obtain ⟨a, us, rfl, h1, h2, h3⟩ := h.seq zh e
            have := intsOf_rep h3 ei
            subst this
            exact ⟨a, ns, rfl, h2 rfl, q _ intD⟩

section
variable {G : Gx} {X : Cx}
theorem cr_int : CallR X (.type "int") (fun xs H Q => ((∃ i, xs = [.int i] ∧ Q (.int i) H) ∨ ∃ k, xs = [.bl k] ∧ Q (.int (if k then 1 else 0)) H) ∨ ∃ a n, xs = [.str a] ∧ PySem.intText? a = some n ∧ a.length ≤ 640 ∧ Q (.int n) H) :=
  fun pins s σ H xs us Q I r h => h.elim (call_int1 pins s σ H xs us Q I r) (call_int_str pins s σ H xs us Q I r)
theorem bop_int : BOP G (fun xs H Q => ((∃ i, xs = [.int i] ∧ Q (.int i) H) ∨ ∃ k, xs = [.bl k] ∧ Q (.int (if k then 1 else 0)) H) ∨ ∃ a n, xs = [.str a] ∧ PySem.intText? a = some n ∧ a.length ≤ 640 ∧ Q (.int n) H) bInt := fun Z H ms vs Q zh r => by
  unfold bInt
  split
  · rename_i e
    intro q
    split at e
    · cases e
      cases r with
      | cons h t =>
        cases t
        obtain ⟨T, h⟩ := h
        rw [rep_int h]
        exact .inl (.inl ⟨_, rfl, q _ intD⟩)
    · cases e
      cases r with
      | cons h t =>
        cases t
        obtain ⟨T, h⟩ := h
        rw [rep_bl h]
        exact .inl (.inr ⟨_, rfl, q _ intD⟩)
    · split at e
      · rename_i hz
        split at e
        · rename_i n hn
          cases e
          cases r with
          | cons h t =>
            cases t
            obtain ⟨T, h⟩ := h
            rw [rep_str h]
            exact .inr ⟨_, n, rfl, hn, hz, q _ intD⟩
        · cases e
      · cases e
    · cases e
  · trivial
theorem bop_str : BOP G (fun xs H Q => ∃ i, xs = [.int i] ∧ i.natAbs.log2 < 1920 ∧ Q (.str (toString i)) H) bStr := fun Z H ms vs Q zh r => by
  unfold bStr
  split
  · rename_i e
    intro q
    split at e
    · split at e
      · rename_i hz
        cases e
        cases r with
        | cons h t =>
          cases t
          obtain ⟨T, h⟩ := h
          rw [rep_int h]
          exact ⟨_, rfl, hz, q _ strD⟩
      · cases e
    · cases e
  · trivial
theorem bop_2I {g : Int → Int → D} {g' : Int → Int → V} (hg : ∀ i j Z, RepD G Z (g i j) (g' i j)) : BOP G (fun xs H Q => ∃ i j, xs = [.int i, .int j] ∧ Q (g' i j) H) (b2I g) := fun Z H ms vs Q zh r => by
  unfold b2I
  split
  · rename_i e
    intro q
    split at e
    · rename_i i j
      cases e
      cases r with
      | cons h t =>
        cases t with
        | cons h2 t =>
          cases t
          obtain ⟨T, h⟩ := h
          obtain ⟨T2, h2⟩ := h2
          rw [rep_int h, rep_int h2]
          exact ⟨i, j, rfl, q _ (hg i j Z)⟩
    · cases e
  · trivial
def bAbs : LOp := b1I fun i => .int (if i < 0 then -i else i)
def bMax2 : LOp := b2I fun i j => .int (if j > i then j else i)
def bMin2 : LOp := b2I fun i j => .int (if j < i then j else i)
theorem bop_abs : BOP G (fun xs H Q => ∃ i, xs = [.int i] ∧ Q (.int (if i < 0 then -i else i)) H) bAbs := bop_1I fun _ _ => intD
theorem bop_max2 : BOP G (fun xs H Q => ∃ i j, xs = [.int i, .int j] ∧ Q (.int (if j > i then j else i)) H) bMax2 := bop_2I fun _ _ _ => intD
theorem bop_min2 : BOP G (fun xs H Q => ∃ i j, xs = [.int i, .int j] ∧ Q (.int (if j < i then j else i)) H) bMin2 := bop_2I fun _ _ _ => intD
end

/-! ### isinstance -/
/-- the built-in type's name -/
def tyD : D → Option String
  | .non => some "NoneType" | .bl _ => some "bool" | .int _ => some "int" | .str _ => some "str"
  | .tup _ => some "tuple" | .lst _ => some "list"
  | _ => none
def tyM : M → Option String
  | .d x => tyD x
  | .lst _ => some "list" | .tup _ => some "tuple"
  | _ => none
def tyNames : List String := ["NoneType", "bool", "int", "str", "tuple", "list", "dict"]
def isiB (a b : String) : Bool := a == b || (a == "bool" && b == "int")
theorem kit_tab : (tyNames.all fun a => ["int", "bool", "str", "tuple", "list", "dict"].all fun b => kitB a b == some (isiB a b)) = true := by decide +kernel
theorem kit_is {K : PySem.W.Frag} {a b : String} (ha : a ∈ tyNames) (hb : b ∈ ["int", "bool", "str", "tuple", "list", "dict"]) : PySem.W.kitOne K (.type a) (.type b) = some (isiB a b) := by
  have h := List.all_eq_true.mp (List.all_eq_true.mp kit_tab a ha) b hb
  exact kit_ty (beq_iff_eq.mp h)
section
variable {G : Gx} {Z H : Hp}
theorem sqT_ty {K : PySem.W.Frag} {a : Addr} {vs : List V} (h : SqT K H a vs) : TyX K H (.ref a) (.type "tuple") := by
  rcases h with (h | ⟨o, h⟩) | ⟨o, its, n, hk, hc, _⟩
  · exact .base (.tup h)
  · exact .fTuple h
  · exact .kTuple hk hc
theorem sqL_ty {K : PySem.W.Frag} {a : Addr} {vs : List V} (h : SqL K H a vs) : TyX K H (.ref a) (.type "list") := by
  rcases h with (h | ⟨o, h⟩) | ⟨o, its, n, hk, hc, _⟩
  · exact .base (.lst h)
  · exact .base (.frz h)
  · exact .kList hk hc
theorem tyM_rep (zh : Same Z H) {m : M} {T : Rg} {v : V} {t : String} (r : RepM G Z H m T v) (e : tyM m = some t) : TyX G.K H v (.type t) ∧ t ∈ tyNames := by
  cases m with
  | d x =>
    simp only [RepM] at r
    cases x with
    | non => simp [tyM, tyD] at e; subst e; simp only [RepD] at r; subst r; exact ⟨.base .non, by decide⟩
    | bl b => simp [tyM, tyD] at e; subst e; simp only [RepD] at r; subst r; exact ⟨.base (.bl _), by decide⟩
    | int b => simp [tyM, tyD] at e; subst e; simp only [RepD] at r; subst r; exact ⟨.base (.int _), by decide⟩
    | str b => simp [tyM, tyD] at e; subst e; simp only [RepD] at r; subst r; exact ⟨.base (.str _), by decide⟩
    | tup xs => simp [tyM, tyD] at e; subst e; simp only [RepD] at r; obtain ⟨a, vs, rfl, q, _⟩ := r; exact ⟨sqT_ty (Same.seqT zh q), by decide⟩
    | lst xs => simp [tyM, tyD] at e; subst e; simp only [RepD] at r; obtain ⟨a, vs, rfl, q, _⟩ := r; exact ⟨.base (.lst (zh _ _ q)), by decide⟩
    | _ => simp [tyM, tyD] at e
  | lst xs => simp [tyM] at e; subst e; simp only [RepM] at r; obtain ⟨a, vs, T', rfl, _, _, _, q, _⟩ := r; exact ⟨.base (.lst q), by decide⟩
  | tup xs => simp [tyM] at e; subst e; simp only [RepM] at r; obtain ⟨a, vs, T', rfl, _, _, _, q, _⟩ := r; exact ⟨.base (.tup q), by decide⟩
  | _ => simp [tyM] at e
end
def vIsi (t : String) (g : VE) : VE := fun env => match g env with
  | .ok m => match tyM m with
    | some a => .ok (.d (.bl (isiB a t)))
    | none => .bad
  | _ => .bad
theorem xv_isi {G : Gx} {X : Cx} {e : Expr} {g : VE} {T : Str} {p p2 pos : Pos} (t : String) (hK : G.K = X.K) (hm : X.mg "isinstance" = none) (hmt : X.mg T = none) (h : PVs G X e g) (hv : bootBuiltins T = some (.type t)) (ht : t ∈ ["int", "bool", "str", "tuple", "list", "dict"] := by decide)
    (hg : Gl X "isinstance" := by rfl) (hgt : Gl X T := by rfl) (hn : T ≠ "__name__" := by decide) (hdt : (T == ("__debug__" : Str)) = false := by decide)
    (he : starEach (e :: [.Name T p2]) X.env = (false, eval e X.env) :: starEach [.Name T p2] X.env := by rfl) (he2 : starEach (.Name T p2 :: []) X.env = (false, eval (.Name T p2) X.env) :: starEach [] X.env := by rfl) (hpl : (backTo pos (starEach [.Name T p2] X.env)).any (·.1) = false := by rfl) :
    PVs G X (.Call (.Name "isinstance" p) [e, .Name T p2] [] pos) (vIsi t g) := by
  obtain ⟨te, q, h⟩ := h.ex
  refine ⟨_, pe_callB call_isi hg hm PyProof.Rows.boot_isinstance (pa_cons q (pa_cons (pe_bltn (v := .ty t) hgt hmt hv rfl hn hdt) pa_nil he2) he) (by decide) (by decide) he hpl, fun Z H σ env S Q gd => ?_⟩
  unfold vIsi
  have h1 := h Z H σ env S (fun x H1 => tCons (tC (.ty t)) tNil σ H1 fun xs H2 => rIsi X.K (x :: xs) H2 Q) gd
  cases e1 : g env with
  | ok m =>
    simp only
    rw [e1] at h1
    cases e2 : tyM m with
    | some a =>
      intro k
      refine h1 fun v T1 _ r1 => ?_
      obtain ⟨ty, ha⟩ := tyM_rep gd.zh r1 e2
      rw [hK] at ty
      exact ⟨v, .ty t, .type a, .type t, isiB a t, rfl, .ty t, ty, kit_is ha ht, k _ (fun _ => False) (fun _ z => z.elim) (by simp [RepM, RepD])⟩
    | none => trivial
  | _ => trivial

/-! ### the module's names -/
/-- a module's name holds the datum -/
def GlobD (G : Gx) (X : Cx) (x : Str) (d : D) : Prop := ∃ u v, X.mg x = some u ∧ RelV v u ∧ ∀ Z, RepD G Z d v
theorem xv_glob {G : Gx} {X : Cx} {x : Str} {d : D} {pos : Pos} (h : GlobD G X x d) (hg : Gl X x := by rfl) (hd : (x == ("__debug__" : Str)) = false := by decide) : PVs G X (.Name x pos) (vC d) := by
  obtain ⟨u, v, hm, r, hz⟩ := h
  exact ⟨_, pe_glob hg hm r hd, VEok.const fun Z H σ Q zh q => q v (hz Z)⟩

/-! ### calls of the program's own defs -/
/-- the def n stands and computes F, by at most k calls -/
structure FnA (P : Program) (w : World) (G : Gx) (mg : Str → Option Value) (base : Heap) (k : Nat) (nm : Str) (n : Nat) (F : FS) : Prop where
  ex : ∃ (f : Addr) (fd : FuncData) (ps : List Str), FnOk P w G.K mg base (L2.CX P w) k f fd ps (spF G n F) ∧ mg nm = some (.ref f) ∧ PySem.W.keepIn G.K (.ref f) = true ∧ Binds G.K fd ps []
section
variable {G : Gx} {X : Cx} {W : WX'} {e : Expr} {es : List Expr} {fs : SA} {bk : Bk} {F : FS} {n k : Nat} {x : Str} {p pos : Pos}
theorem pe_callS0 {CX : CXT} {f : Addr} {fd : FuncData} {ps : List Str} {sp : Sp} {E : L2.St → XK} (F : FnOk X.prog X.w X.K X.mg X.base CX k f fd ps sp) (hr : Room k X.A) (hg : Gl X x) (hm : X.mg x = some (.ref f)) (hk : PySem.W.keepIn X.K (.ref f) = true) (hb : Binds X.K fd ps []) (hx : ∀ σ, PassesAt CX X σ (E σ))
    (hdb : (x == ("__debug__" : Str)) = false := by decide) : PE X (.Call (.Name x p) [] [] pos) (tCallS sp E tNil) := by
  refine ⟨fun pins s σ H Q I h => ?_⟩
  refine wpAny_Call_Name_kw (ld_glob I hg hm ?_ hdb)
  exact PySem.W.callWith_K0 I.kIn hk (run_fnS (us := []) F hr hb (hx σ) I .nil h)
theorem saCons_len {f : SE} {fs : SA} {n : Nat} (h : ∀ env ms e1, fs env = .ok (ms, e1) → ms.length = n) : ∀ env ms e1, saCons f fs env = .ok (ms, e1) → ms.length = n + 1 := fun env ms e1 q => by
  unfold saCons at q
  split at q
  · split at q
    · rename_i hq
      cases q
      simp [h _ _ _ hq]
    · cases q
    · cases q
  · cases q
  · cases q
theorem saNil_len : ∀ env ms e1, saNil env = .ok (ms, e1) → ms.length = 0 := fun env ms e1 q => by
  cases q; rfl
theorem xe_call (h : FnA X.prog X.w G X.mg X.base k x n F) (hK : G.K = X.K) (hr : Room k X.A) (tk : Takes X W) (ha : PAs' G X W (e :: es) bk fs) (hn : ∀ env ms e1, fs env = .ok (ms, e1) → ms.length = n) (hg : Gl X x := by rfl) (hdb : (x == ("__debug__" : Str)) = false := by decide)
    (he : starEach (e :: es) X.env = (false, eval e X.env) :: starEach es X.env := by rfl) (hpl : (backTo pos (starEach es X.env)).any (·.1) = false := by rfl) : PEs G X W (.Call (.Name x p) (e :: es) [] pos) (sCall F bk fs) := by
  obtain ⟨f, fd, ps, ok, hm, hk, hb⟩ := h.ex
  obtain ⟨t, q, ha⟩ := ha.ex
  rw [hK] at ok hk hb
  exact ⟨_, pe_callS ok hr hg hm hk hb (fun σ => passAt tk σ) q hdb he hpl, SEok.call ha hn⟩
theorem xe_call0 (h : FnA X.prog X.w G X.mg X.base k x 0 F) (hK : G.K = X.K) (hr : Room k X.A) (tk : Takes X W) (hg : Gl X x := by rfl) (hdb : (x == ("__debug__" : Str)) = false := by decide) : PEs G X W (.Call (.Name x p) [] [] pos) (sCall F [] saNil) := by
  obtain ⟨f, fd, ps, ok, hm, hk, hb⟩ := h.ex
  rw [hK] at ok hk hb
  exact ⟨_, pe_callS0 ok hr hg hm hk hb (fun σ => passAt tk σ) hdb, SEok.call SAok.nil saNil_len⟩
end

/-! ### raise -/
structure ExcA (G : Gx) (X : Cx) (nm : String) (x : Str) : Prop where
  gC : X.mg x = some (.ref (G.ad nm))
  xP : PySem.W.excIn X.K (G.ad nm) [.type "ValueError", .type "Exception", .type "BaseException", .type "object"] "ValueError.__new__" = true
  kP : PySem.W.keepIn X.K (.ref (G.ad nm)) = true
  bP : PySem.W.subIn X.K (.ref (G.ad nm)) (.type "BaseException") = some true
  tP : PySem.W.typeIn X.K (.ref (G.ad nm)) = some (.type "type")
def ssRaise (nm : String) : SS := fun env => .exc ⟨nm, none⟩ env
theorem xs_raise {G : Gx} {X : Cx} {W : WX'} {P : Px} {x m : Str} {j : Nat} {p p2 pos pos2 : Pos} (nm : String) (h : ExcA G X nm x) (hc : X.calm = true) (tk : Takes X W) (hg : Gl X x := by rfl) (hdb : (x == ("__debug__" : Str)) = false := by decide) :
    PS' G X W P (.Raise (some (.Call (.Name x p) [.Constant (.str m) j p2] [] pos)) none pos2) (ssRaise nm) :=
  ⟨_, ps_raise hc tk (pmk_own PySem.F.excBase_ValueError h.xP h.gC h.kP (raises_own h.bP h.tP) hg hdb), fun D Z H σ env S gd q => q _ none σ Z H S ⟨rfl, rfl⟩ Fix.refl (Stp.refl gd.zh) gd⟩
end FL

set_option maxHeartbeats 2000000
/-! FLK: slices, concatenation, list(..), tuple(..), zip, enumerate, reversed. -/
namespace FL
open PySem L2 Classical

theorem RepDs.drop {G : Gx} {Z : Hp} : ∀ {xs : List D} {vs : List V} (n : Nat), RepDs G Z xs vs → RepDs G Z (xs.drop n) (vs.drop n)
  | _, _, 0, r => r
  | [], _, n + 1, r => by simp only [RepDs] at r; subst r; simp [RepDs]
  | x :: xs, _, n + 1, r => by
    simp only [RepDs] at r
    obtain ⟨v, r', rfl, q, r⟩ := r
    exact RepDs.drop n r
theorem RepDs.take {G : Gx} {Z : Hp} : ∀ {xs : List D} {vs : List V} (n : Nat), RepDs G Z xs vs → RepDs G Z (xs.take n) (vs.take n)
  | _, _, 0, r => by simp [RepDs]
  | [], _, n + 1, r => by simp only [RepDs] at r; subst r; simp [RepDs]
  | x :: xs, _, n + 1, r => by
    simp only [RepDs] at r
    obtain ⟨v, r', rfl, q, r⟩ := r
    simp only [List.take_succ_cons, RepDs]
    exact ⟨v, _, rfl, q, RepDs.take n r⟩
def cutL {α : Type} (xs : List α) (lo hi : Option Int) : List α := (xs.drop (HT.sIx xs.length 0 lo)).take (HT.sIx xs.length xs.length hi - HT.sIx xs.length 0 lo)
theorem RepDs.cut {G : Gx} {Z : Hp} {xs : List D} {vs : List V} (r : RepDs G Z xs vs) (lo hi : Option Int) : RepDs G Z (cutL xs lo hi) (cutV vs lo hi) := by
  unfold cutL cutV
  rw [r.len]
  exact (r.drop _).take _
theorem dsM {G : Gx} {Z H : Hp} : ∀ {xs : List D} {S : Rg} {vs : List V}, RepDs G Z xs vs → RepMs G Z H (xs.map .d) S vs := fun r => r.toM
/-- new lists and tuples of frozen items -/
theorem lst_newD {G : Gx} {Z H : Hp} {xs : List D} {vs : List V} {R : Rg} {p : Addr} (zh : Same Z H) (r : RepDs G Z xs vs) (hp : H p = none) (pR : ¬ R p) : Hld G Z (upd H p (.lst vs)) R (.lst (xs.map .d)) (fun a => a = p) (.ref p) := by
  have h := lst_new (T := fun _ => False) (R := R) zh (RepDs.toM (H := H) r) (fun _ z => z.elim) (fun _ z => z.elim) (fun _ z => z.elim) hp pR
  have e : (fun a => False ∨ a = p) = (fun a => a = p) := by funext a; simp
  rw [e] at h; exact h

/-! ### slices -/
structure POs (G : Gx) (X : Cx) (e : Option Expr) (g : Env → Res (Option Int)) : Prop where
  ex : ∃ t, PO X e t ∧ ∀ (Z H : Hp) (σ : St) (env : Env) (S : Rs) (Q : Option Int → Hp → Prop), Good G Z H σ env S → match g env with
    | .ok o => Q o H → t σ H Q
    | _ => True
def voNo : Env → Res (Option Int) := fun _ => .ok none
def voI (g : VE) : Env → Res (Option Int) := fun env => match g env with
  | .ok (.d (.int i)) => .ok (some i)
  | _ => .bad
/-- what a slice gives -/
def slM (m : M) (lo hi : Option Int) : Res M := match m with
  | .d (.tup xs) => .ok (.d (.tup (cutL xs lo hi)))
  | .d (.str z) => if z.length ≤ sizeLine then .ok (.d (.str (cutS z lo hi))) else .bad
  | m => match m.seq with
    | some (false, ms) => if ms.all isD = true then .ok (.lst ((cutL (ms.map unD) lo hi).map .d)) else .bad
    | _ => .bad
def sSl (g : VE) (lo hi : Env → Res (Option Int)) : SE := fun env => match g env, lo env, hi env with
  | .ok m, .ok l, .ok h => match slM m l h with
    | .ok x => .ok (x, env)
    | _ => .bad
  | _, _, _ => .bad
def rSlO (K : PySem.W.Frag) : V → Option Int → Option Int → Hp → VK → Prop := fun x lo hi H Q => rSlL K x lo hi H Q ∨ (rSlA K x lo hi H Q ∨ rSlS x lo hi H Q)
section
variable {G : Gx} {X : Cx} {W : WX'} {e : Expr} {g : VE} {lo hi : Option Expr} {gl gh : Env → Res (Option Int)} {pos p2 : Pos}
theorem xo_none : POs G X none voNo := ⟨_, po_none, fun Z H σ env S Q gd q => q⟩
theorem xo_some (h : PVs G X e g) : POs G X (some e) (voI g) := by
  obtain ⟨t, p, h⟩ := h.ex
  refine ⟨_, po_some p, fun Z H σ env S Q gd => ?_⟩
  unfold voI
  have h1 := h Z H σ env S (fun x H1 => ∃ i, x = .int i ∧ Q (some i) H1) gd
  split
  · rename_i e2
    split at e2
    · rename_i i ei
      cases e2
      rw [ei] at h1
      exact fun q => h1 fun v T _ r => ⟨i, rep_int r, q⟩
    · cases e2
  · trivial
theorem sl_any : SlR X (rSlO X.K) := SlR.or sl_list (SlR.or sl_tupA sl_str)
theorem slM_run {Z H : Hp} {m x : M} {T : Rg} {v : V} {l h : Option Int} {Q : VK} {S : Rs} {σ : St} {env : Env} (gd : Good G Z H σ env S) (r : RepM G Z H m T v) (e : slM m l h = .ok x)
    (q : ∀ v Z' H' S' T, Stp Z H (U S) Z' H' (fun a => U S' a ∨ T a) → Good G Z' H' σ env S' → Hld G Z' H' (U S') x T v → Q v H') : rSlO G.K v l h H Q := by
  unfold slM at e
  split at e
  · rename_i xs
    cases e
    simp only [RepM, RepD] at r
    obtain ⟨a, vs, rfl, hz, rr⟩ := r
    refine .inr (.inl ⟨a, vs, rfl, Same.seqT gd.zh hz, fun hw => ?_, fun hw p hp => ?_⟩)
    · have e1 : cutL xs l h = xs := by
        unfold cutL
        rw [rr.len, hw.1, hw.2, List.drop_zero, Nat.sub_zero, List.take_of_length_le (by rw [rr.len]; omega)]
      refine q (.ref a) Z H S (fun _ => False) ((Stp.refl gd.zh).weak fun _ z => z.elim id fun z => z.elim) gd (Hld.data ?_)
      rw [e1]
      simp only [RepD]
      exact ⟨a, vs, rfl, hz, rr⟩
    · have st := Stp.newZ (o := .tup (cutV vs l h)) gd.zh hp (U S)
      refine q (.ref p) _ _ S (fun _ => False) (st.weak fun _ z => z.elim id fun z => z.elim) (gd.move (Stp.newZ (o := .tup (cutV vs l h)) gd.zh hp (fun _ => False)) fun _ _ z => z).1 (Hld.data ?_)
      simp only [RepD]
      exact ⟨p, _, rfl, SqT.of upd_same, RepDs.mono st.z _ _ (rr.cut l h)⟩
  · rename_i z
    split at e
    · rename_i hz
      cases e
      have := rep_str r
      subst this
      exact .inr (.inr ⟨z, rfl, hz, q _ Z H S (fun _ => False) ((Stp.refl gd.zh).weak fun _ z => z.elim id fun z => z.elim) gd (Hld.data strD)⟩)
    · cases e
  · split at e
    · rename_i ms es
      obtain ⟨a, vs, rfl, h1, h2, h3⟩ := r.seq gd.zh es
      split at e
      · rename_i hd
        cases e
        have rd := (allD_rep h3 hd).cut l h
        refine .inl ⟨a, vs, rfl, h2 rfl, fun p hp => ?_⟩
        have pS : ¬ U S p := fun z => gd.al' p z hp
        have st := Stp.new (o := .lst (cutV vs l h)) gd.zh hp (fun _ => False)
        exact q (.ref p) Z _ S (fun a => a = p) (Stp.new gd.zh hp (U S)) (gd.move st fun _ _ z => z).1 (lst_newD gd.zh rd hp pS)
      · cases e
    · cases e
theorem xe_sl (hK : G.K = X.K) (h : PVs G X e g) (hl : POs G X lo gl) (hh : POs G X hi gh) : PEs G X W (.Subscript e (.Slice lo hi none p2) pos) (sSl g gl gh) := by
  obtain ⟨t, p, h⟩ := h.ex
  obtain ⟨tl, pl, hl⟩ := hl.ex
  obtain ⟨th, ph, hh⟩ := hh.ex
  refine ⟨_, pe_slice sl_any p pl ph, fun Z H σ env S Q gd => ?_⟩
  unfold sSl
  have h1 := h Z H σ env S (fun x H1 => tl σ H1 fun l H2 => th σ H2 fun u H3 => rSlO X.K x l u H3 Q) gd
  cases e1 : g env with
  | ok m =>
    cases e2 : gl env with
    | ok l =>
      cases e3 : gh env with
      | ok u =>
        simp only
        cases e4 : slM m l u with
        | ok x =>
          intro q
          rw [e1] at h1
          refine h1 fun v T1 _ r1 => ?_
          have h2 := hl Z H σ env S (fun l H2 => th σ H2 fun u H3 => rSlO X.K v l u H3 Q) gd
          rw [e2] at h2
          refine h2 ?_
          have h3 := hh Z H σ env S (fun u H3 => rSlO X.K v l u H3 Q) gd
          rw [e3] at h3
          refine h3 ?_
          rw [← hK]
          exact slM_run gd r1 e4 q
        | _ => trivial
      | _ => trivial
    | _ => trivial
  | _ => trivial
end

/-! ### operations that make a list or a tuple -/
abbrev MOp := M → M → Res M
/-- two values in the hand, apart; a new one -/
def OPok (G : Gx) (r : R2) (op : MOp) : Prop := ∀ (Z H : Hp) (m1 : M) (T1 : Rg) (v1 : V) (m2 : M) (T2 : Rg) (v2 : V) (Q : VK), Same Z H → Hld G Z H (fun _ => False) m1 T1 v1 → Hld G Z H T1 m2 T2 v2 →
  match op m1 m2 with
  | .ok m => (∀ v Z' H' T, Stp Z H (fun a => T1 a ∨ T2 a) Z' H' T → Hld G Z' H' (fun _ => False) m T v → Q v H') → r v1 v2 H Q
  | _ => True
def s2m (op : MOp) (fa fb : SE) : SE := fun env => match fa env with
  | .ok (m1, e1) => match fb e1 with
    | .ok (m2, e2) => match op m1 m2 with
      | .ok x => .ok (x, e2)
      | _ => .bad
    | .exc e v => .exc e v
    | .bad => .bad
  | .exc e v => .exc e v
  | .bad => .bad
section
variable {G : Gx} {X : Cx} {W : WX'} {r : R2} {op : MOp} {ta tb : TE} {fa fb : SE} {a b : Expr} {pos : Pos}
theorem SEok.binM (h : OPok G r op) (ha : SEok G W ta fa) (hb : SEok G W tb fb) : SEok G W (tOp r ta tb) (s2m op fa fb) := fun Z H σ env S Q gd => by
  have h1 := ha Z H σ env S (fun x H1 => tb σ H1 fun y H2 => r x y H2 Q) gd
  unfold s2m
  cases e1 : fa env with
  | bad => trivial
  | exc e v => rw [e1] at h1; exact h1
  | ok p =>
    obtain ⟨m1, env1⟩ := p
    rw [e1] at h1
    simp only
    cases e2 : fb env1 with
    | bad => trivial
    | exc e v =>
      intro q
      refine h1 fun v1 Z1 H1 S1 T1 s1 g1 l1 => ?_
      have h2 := hb Z1 H1 σ env1 S1 (fun y H2 => r v1 y H2 Q) g1
      rw [e2] at h2
      refine h2 fun cls d Z2 H2 S2 x2 s2 g2 => ?_
      exact q cls d Z2 H2 S2 x2 (s1.trans ((s2.frame T1).weak (R2 := U S2) fun _ z => .inl z)) g2
    | ok p2 =>
      obtain ⟨m2, env2⟩ := p2
      simp only
      cases e3 : op m1 m2 with
      | ok x =>
        intro q
        refine h1 fun v1 Z1 H1 S1 T1 s1 g1 l1 => ?_
        have h2 := hb Z1 H1 σ env1 S1 (fun y H2 => r v1 y H2 Q) g1
        rw [e2] at h2
        refine h2 fun w2 Z2 H2 S2 T2 s2 g2 l2 => ?_
        have l1' := l1.step s2
        have h3 := h Z2 H2 m1 T1 v1 m2 T2 w2 Q g2.zh ⟨l1'.rep, l1'.al, l1'.zf, fun _ _ z => z⟩ ⟨l2.rep, l2.al, l2.zf, fun c z w => l1'.dj c w (.inr z)⟩
        rw [e3] at h3
        refine h3 fun u Z3 H3 T3 s3 l3 => ?_
        obtain ⟨g3, d3⟩ := g2.move s3 fun c z w => w.elim (fun w => l1'.dj c w (.inl z)) fun w => l2.dj c w z
        have st : Stp Z H (U S) Z3 H3 (fun a => U S2 a ∨ T3 a) := ((s1.trans (s2.frame T1)).trans ((s3.frame (U S2)).from fun c z => by
          rcases z with (z | z) | z
          · exact .inr z
          · exact .inl (.inr z)
          · exact .inl (.inl z))).weak fun c z => z.elim .inr .inl
        exact q u Z3 H3 S2 T3 st g3 ⟨l3.rep, l3.al, l3.zf, fun c z w => d3 c w z⟩
      | _ => trivial
theorem OPok.ofD {dop : DOp} (h : VOP G r dop) : OPok G r (fun a b => match dop a b with | .ok x => .ok (.d x) | _ => .bad) := fun Z H m1 T1 v1 m2 T2 v2 Q zh l1 l2 => by
  have h1 := h Z H m1 T1 v1 m2 T2 v2 Q zh l1.rep l2.rep
  dsimp only
  cases e : dop m1 m2 with
  | ok x =>
    rw [e] at h1
    exact fun q => h1 fun u ru => q u Z H (fun _ => False) ((Stp.refl zh).weak fun _ z => z.elim) (Hld.data ru)
  | exc _ _ => trivial
  | bad => trivial
def mOr (f g : MOp) : MOp := fun a b => match f a b with
  | .ok x => .ok x
  | _ => g a b
theorem OPok.or {r' : R2} {op' : MOp} (h : OPok G r op) (h' : OPok G r' op') : OPok G (rOr r r') (mOr op op') := fun Z H m1 T1 v1 m2 T2 v2 Q zh l1 l2 => by
  have a := h Z H m1 T1 v1 m2 T2 v2 Q zh l1 l2
  have b := h' Z H m1 T1 v1 m2 T2 v2 Q zh l1 l2
  unfold mOr
  cases e : op m1 m2 with
  | ok x => rw [e] at a; exact fun q => .inl (a q)
  | _ =>
    simp only
    cases e' : op' m1 m2 with
    | ok x => rw [e'] at b; exact fun q => .inr (b q)
    | _ => trivial
end
/-- a list's items, owned or frozen; a locked list's are not taken -/
def lstItems : M → Option (List M)
  | .d (.lst xs) => some (xs.map .d)
  | .lst ms => some ms
  | _ => none
def mCatL : MOp := fun m1 m2 => match lstItems m1, lstItems m2 with
  | some a, some b => if a.length + b.length ≤ sizeLine then .ok (.lst (a ++ b)) else .bad
  | _, _ => .bad
def mCatT : MOp := fun m1 m2 => match m1, m2 with
  | .d (.tup a), .d (.tup b) => if a.length + b.length ≤ sizeLine then .ok (.d (.tup (a ++ b))) else .bad
  | _, _ => .bad
def mAdd : MOp := mOr (fun a b => match oAdd a b with | .ok x => .ok (.d x) | _ => .bad) (mOr mCatL mCatT)
section
variable {G : Gx} {X : Cx} {W : WX'} {fa fb : SE} {a b : Expr} {pos : Pos}
theorem lstItems_rep {Z H : Hp} {m : M} {T : Rg} {v : V} {ms : List M} (zh : Same Z H) (r : RepM G Z H m T v) (e : lstItems m = some ms) : ∃ a vs, v = .ref a ∧ H a = some (.lst vs) ∧ RepMs G Z H ms T vs := by
  unfold lstItems at e
  split at e
  · cases e
    simp only [RepM, RepD] at r
    obtain ⟨a, vs, rfl, hz, rr⟩ := r
    exact ⟨a, vs, rfl, zh _ _ hz, rr.toM⟩
  · cases e
    simp only [RepM] at r
    obtain ⟨a, vs, T', rfl, sa, ta, ts, ho, rr⟩ := r
    exact ⟨a, vs, rfl, ho, RepMs.mono (Same.refl _) _ _ _ _ ts (fun _ _ _ z => z) rr⟩
  · cases e
theorem op_catL : OPok G rCat mCatL := fun Z H m1 T1 v1 m2 T2 v2 Q zh l1 l2 => by
  unfold mCatL
  split
  · rename_i e
    intro q
    split at e
    · rename_i xs ys e1 e2
      split at e
      · rename_i hl
        cases e
        obtain ⟨a, vs, rfl, ha, r1⟩ := lstItems_rep zh l1.rep e1
        obtain ⟨b, ws, rfl, hb, r2⟩ := lstItems_rep zh l2.rep e2
        refine ⟨a, b, vs, ws, rfl, rfl, ha, hb, by rw [← r1.len, ← r2.len]; exact hl, fun p hp => ?_⟩
        have rr : RepMs G Z H (xs ++ ys) (fun c => T1 c ∨ T2 c) (vs ++ ws) := RepMs.app r1 r2 (fun _ z => .inl z) (fun _ z => .inr z) (fun c z w => l2.dj c w z)
        exact q (.ref p) Z _ _ (Stp.new zh hp _) (lst_new zh rr (fun c z => z.elim (l1.al c) (l2.al c)) (fun c z => z.elim (l1.zf c) (l2.zf c)) (fun _ _ z => z) hp (fun z => z))
      · cases e
    · cases e
  · trivial
theorem op_catTm : OPok G (rCatA G.K) mCatT := fun Z H m1 T1 v1 m2 T2 v2 Q zh l1 l2 => by
  unfold mCatT
  split
  · rename_i e
    intro q
    split at e
    · rename_i xs ys
      split at e
      · rename_i hl
        cases e
        have r1 := l1.rep
        have r2 := l2.rep
        simp only [RepM, RepD] at r1 r2
        obtain ⟨a, vs, rfl, ha, r1⟩ := r1
        obtain ⟨b, ws, rfl, hb, r2⟩ := r2
        refine ⟨a, b, vs, ws, rfl, rfl, Same.seqT zh ha, Same.seqT zh hb, by rw [← r1.len, ← r2.len]; exact hl, fun h0 => ?_, fun _ h0 => ?_, fun _ _ p hp => ?_⟩
        · have e0 : xs = [] := List.length_eq_zero_iff.mp (by rw [r1.len, h0]; rfl)
          subst e0
          exact q (.ref b) Z H (fun _ => False) ((Stp.refl zh).weak fun _ z => z.elim) (Hld.data (by simp only [RepD]; exact ⟨b, ws, rfl, hb, r2⟩))
        · have e0 : ys = [] := List.length_eq_zero_iff.mp (by rw [r2.len, h0]; rfl)
          subst e0
          rw [List.append_nil] at q
          exact q (.ref a) Z H (fun _ => False) ((Stp.refl zh).weak fun _ z => z.elim) (Hld.data (by simp only [RepD]; exact ⟨a, vs, rfl, ha, r1⟩))
        · have st := Stp.newZ (o := .tup (vs ++ ws)) zh hp (fun c => T1 c ∨ T2 c)
          refine q (.ref p) _ _ (fun _ => False) (st.weak fun _ z => z.elim) (Hld.data ?_)
          simp only [RepD]
          exact ⟨p, _, rfl, SqT.of upd_same, RepDs.mono st.z _ _ (RepDs.app r1 r2)⟩
      · cases e
    · cases e
  · trivial
def rAddM (K : PySem.W.Frag) : R2 := rOr (rOr (rI0 fun i j => .int (i + j)) (fun x y H Q => ∃ i j, x = .str i ∧ y = .str j ∧ i.length + j.length ≤ sizeLine ∧ Q (.str (i ++ j)) H)) (rOr rCat (rCatA K))
theorem opr_addM : OpR X (binaryOp .Add) (rAddM X.K) := OpR.orR opr_add (OpR.orR op_cat op_catA)
theorem opok_add : OPok G (rAddM G.K) mAdd := (OPok.ofD vop_add).or (op_catL.or op_catTm)
/-- a + b, whatever they are -/
theorem xe_addM (hK : G.K = X.K) (ha : PEs G X W a fa) (hb : PEs G X W b fb) : PEs G X W (.BinOp a .Add b pos) (s2m mAdd fa fb) := by
  obtain ⟨ta, pa, ha⟩ := ha.ex
  obtain ⟨tb, pb, hb⟩ := hb.ex
  have h : OPok G (rAddM X.K) mAdd := by rw [← hK]; exact opok_add
  exact ⟨_, pe_op opr_addM pa pb, SEok.binM h ha hb⟩
end
end FL

set_option maxHeartbeats 2000000
/-! FLL: bools as values, if-expressions, minus, chains, zip, list(..). -/
namespace FL
open PySem L2 Classical

theorem SEok.after {G : Gx} {W : WX'} {t : TE} {f : SE} (h : SEok G W t f) {Z0 H0 Z H : Hp} {R : Rg} {σ : St} {env : Env} {S : Rs} {Q : VK} (s0 : Stp Z0 H0 R Z H (U S)) (gd : Good G Z H σ env S)
    (q : match f env with
      | .ok (m, env') => ∀ v Z' H' S' T, Stp Z0 H0 R Z' H' (fun a => U S' a ∨ T a) → Good G Z' H' σ env' S' → Hld G Z' H' (U S') m T v → Q v H'
      | .exc e env' => ∀ cls d Z' H' S', ExcAt G H' e cls d → Stp Z0 H0 R Z' H' (U S') → Good G Z' H' σ env' S' → W cls d σ H'
      | .bad => False) : t σ H Q := by
  have h1 := h Z H σ env S Q gd
  cases e : f env with
  | ok r =>
    obtain ⟨m, env'⟩ := r
    rw [e] at h1 q
    exact h1 fun v Z' H' S' T s' g' l => q v Z' H' S' T (s0.trans s') g' l
  | exc x env' =>
    rw [e] at h1 q
    exact h1 fun cls d Z' H' S' hx s' g' => q cls d Z' H' S' hx (s0.trans s') g'
  | bad => rw [e] at q; exact q.elim
/-- what an SE promises, told of a result -/
def EPost (G : Gx) (W : WX') (Z H : Hp) (R : Rg) (σ : St) (Q : VK) : Res (M × Env) → Prop
  | .ok (m, env') => ∀ v Z' H' S' T, Stp Z H R Z' H' (fun a => U S' a ∨ T a) → Good G Z' H' σ env' S' → Hld G Z' H' (U S') m T v → Q v H'
  | .exc e env' => ∀ cls d Z' H' S', ExcAt G H' e cls d → Stp Z H R Z' H' (U S') → Good G Z' H' σ env' S' → W cls d σ H'
  | .bad => False
theorem SEok.mk' {G : Gx} {W : WX'} {t : TE} {f : SE} (h : ∀ (Z H : Hp) (σ : St) (env : Env) (S : Rs) (Q : VK), Good G Z H σ env S → EPost G W Z H (U S) σ Q (f env) → t σ H Q) : SEok G W t f := fun Z H σ env S Q gd => by
  have := h Z H σ env S Q gd
  cases e : f env with
  | ok r => obtain ⟨m, env'⟩ := r; rw [e] at this; exact this
  | exc x env' => rw [e] at this; exact this
  | bad => trivial
theorem SEok.use {G : Gx} {W : WX'} {t : TE} {f : SE} (h : SEok G W t f) {Z H : Hp} {σ : St} {env : Env} {S : Rs} {Q : VK} (gd : Good G Z H σ env S) (q : EPost G W Z H (U S) σ Q (f env)) : t σ H Q := by
  have h1 := h Z H σ env S Q gd
  cases e : f env with
  | ok r => obtain ⟨m, env'⟩ := r; rw [e] at h1 q; exact h1 q
  | exc x env' => rw [e] at h1 q; exact h1 q
  | bad => rw [e] at q; exact q.elim
theorem EPost.shift {G : Gx} {W : WX'} {Z H Z' H' : Hp} {R R' : Rg} {σ : St} {Q : VK} {r : Res (M × Env)} (p : EPost G W Z H R σ Q r) (st : Stp Z H R Z' H' R') : EPost G W Z' H' R' σ Q r := by
  cases r with
  | ok q => obtain ⟨m, e⟩ := q; exact fun v Z2 H2 S2 T s2 g2 l => p v Z2 H2 S2 T (st.trans s2) g2 l
  | exc x e => exact fun cls d Z2 H2 S2 hx s2 g2 => p cls d Z2 H2 S2 hx (st.trans s2) g2
  | bad => exact p.elim
def sNotV (f : SE) : SE := fun env => match f env with
  | .ok (.d (.bl b), e) => .ok (.d (.bl !b), e)
  | .exc x e => .exc x e
  | _ => .bad
def sAndV (f g : SE) : SE := fun env => match f env with
  | .ok (.d (.bl true), e) => g e
  | .ok (.d (.bl false), e) => .ok (.d (.bl false), e)
  | .exc x e => .exc x e
  | _ => .bad
def sOrV (f g : SE) : SE := fun env => match f env with
  | .ok (.d (.bl true), e) => .ok (.d (.bl true), e)
  | .ok (.d (.bl false), e) => g e
  | .exc x e => .exc x e
  | _ => .bad
def sIf (c : SB) (f g : SE) : SE := fun env => match c env with
  | .ok (true, e) => f e
  | .ok (false, e) => g e
  | .exc x e => .exc x e
  | .bad => .bad
def sNeg (f : SE) : SE := fun env => match f env with
  | .ok (.d (.int i), e) => .ok (.d (.int (-i)), e)
  | .exc x e => .exc x e
  | _ => .bad
def vNeg (g : VE) : VE := fun env => match g env with
  | .ok (.d (.int i)) => .ok (.d (.int (-i)))
  | _ => .bad
section
variable {G : Gx} {X : Cx} {W : WX'} {e a b c : Expr} {f g : SE} {gv : VE} {fc : SB} {te tf tg : TE} {tc : TT} {pos : Pos} {rest : List Expr}
theorem SEok.notV (h : SEok G W te f) : SEok G W (tNotV te) (sNotV f) := SEok.mk' fun Z H σ env S Q gd p => by
  unfold sNotV at p
  refine h.use gd ?_
  cases e : f env with
  | ok q =>
    obtain ⟨m, e1⟩ := q
    rw [e] at p
    cases m with
    | d x =>
      cases x with
      | bl k => exact fun v Z' H' S' T s' g' l => ⟨k, rep_bl l.rep, p (.bl !k) Z' H' S' (fun _ => False) (s'.weak fun _ z => .inl (z.elim id fun z => z.elim)) g' (Hld.data (by simp [RepD]))⟩
      | _ => exact p.elim
    | _ => exact p.elim
  | exc x e1 => rw [e] at p; exact p
  | bad => rw [e] at p; exact p.elim
theorem SEok.andV (h : SEok G W tf f) (h' : SEok G W tg g) : SEok G W (tAndV tf tg) (sAndV f g) := SEok.mk' fun Z H σ env S Q gd p => by
  unfold sAndV at p
  refine h.use gd ?_
  cases e : f env with
  | ok q =>
    obtain ⟨m, e1⟩ := q
    rw [e] at p
    cases m with
    | d x =>
      cases x with
      | bl k =>
        intro v Z' H' S' T s' g' l
        have s2 : Stp Z H (U S) Z' H' (U S') := s'.weak fun _ z => .inl z
        refine ⟨k, rep_bl l.rep, ?_⟩
        cases k with
        | true => rw [if_pos rfl]; exact h'.use g' (p.shift s2)
        | false => rw [if_neg Bool.false_ne_true]; exact p (.bl false) Z' H' S' (fun _ => False) (s2.weak fun _ z => z.elim id fun z => z.elim) g' (Hld.data (by simp [RepD]))
      | _ => exact p.elim
    | _ => exact p.elim
  | exc x e1 => rw [e] at p; exact p
  | bad => rw [e] at p; exact p.elim
theorem SEok.orV (h : SEok G W tf f) (h' : SEok G W tg g) : SEok G W (tOrV tf tg) (sOrV f g) := SEok.mk' fun Z H σ env S Q gd p => by
  unfold sOrV at p
  refine h.use gd ?_
  cases e : f env with
  | ok q =>
    obtain ⟨m, e1⟩ := q
    rw [e] at p
    cases m with
    | d x =>
      cases x with
      | bl k =>
        intro v Z' H' S' T s' g' l
        have s2 : Stp Z H (U S) Z' H' (U S') := s'.weak fun _ z => .inl z
        refine ⟨k, rep_bl l.rep, ?_⟩
        cases k with
        | false => rw [if_neg Bool.false_ne_true]; exact h'.use g' (p.shift s2)
        | true => rw [if_pos rfl]; exact p (.bl true) Z' H' S' (fun _ => False) (s2.weak fun _ z => z.elim id fun z => z.elim) g' (Hld.data (by simp [RepD]))
      | _ => exact p.elim
    | _ => exact p.elim
  | exc x e1 => rw [e] at p; exact p
  | bad => rw [e] at p; exact p.elim
theorem SEok.ifE (hc : SBok G W tc fc) (h : SEok G W tf f) (h' : SEok G W tg g) : SEok G W (tIf tc tf tg) (sIf fc f g) := SEok.mk' fun Z H σ env S Q gd p => by
  unfold sIf at p
  have hh := hc Z H σ env S (fun b H1 => if b = true then tf σ H1 Q else tg σ H1 Q) gd
  cases e : fc env with
  | ok q =>
    obtain ⟨k, e1⟩ := q
    rw [e] at p hh
    cases k with
    | true => exact hh fun Z' H' S' s' g' => by rw [if_pos rfl]; exact h.use g' (p.shift s')
    | false => exact hh fun Z' H' S' s' g' => by rw [if_neg Bool.false_ne_true]; exact h'.use g' (p.shift s')
  | exc x e1 => rw [e] at p hh; exact hh p
  | bad => rw [e] at p; exact p.elim
theorem xe_not (h : PEs G X W a f) : PEs G X W (.UnaryOp .Not a pos) (sNotV f) := by
  obtain ⟨t, p, h⟩ := h.ex
  exact ⟨_, pe_not p, h.notV⟩
theorem xe_and (h : PEs G X W a f) (h' : PEs G X W (.BoolOp .And (b :: rest) pos) g) : PEs G X W (.BoolOp .And (a :: b :: rest) pos) (sAndV f g) := by
  obtain ⟨t, p, h⟩ := h.ex
  obtain ⟨u, q, h'⟩ := h'.ex
  exact ⟨_, pe_and p q, h.andV h'⟩
theorem xe_or (h : PEs G X W a f) (h' : PEs G X W (.BoolOp .Or (b :: rest) pos) g) : PEs G X W (.BoolOp .Or (a :: b :: rest) pos) (sOrV f g) := by
  obtain ⟨t, p, h⟩ := h.ex
  obtain ⟨u, q, h'⟩ := h'.ex
  exact ⟨_, pe_or p q, h.orV h'⟩
theorem xe_one {op} (h : PEs G X W a f) : PEs G X W (.BoolOp op [a] pos) f := by
  obtain ⟨t, p, h⟩ := h.ex
  exact ⟨_, pe_one p, h⟩
theorem xe_if (hc : PBs G X W c fc) (h : PEs G X W a f) (h' : PEs G X W b g) : PEs G X W (.IfExp c a b pos) (sIf fc f g) := by
  obtain ⟨t, p, hc⟩ := hc.ex
  obtain ⟨u, q, h⟩ := h.ex
  obtain ⟨v, r, h'⟩ := h'.ex
  exact ⟨_, pe_ifExp p q r, SEok.ifE hc h h'⟩
theorem xv_neg (h : PVs G X a gv) : PVs G X (.UnaryOp .USub a pos) (vNeg gv) := by
  obtain ⟨t, p, h⟩ := h.ex
  refine ⟨_, pe_un un_neg p, fun Z H σ env S Q gd => ?_⟩
  unfold vNeg
  have h1 := h Z H σ env S (fun x H1 => rU (fun i => .int (-i)) x H1 Q) gd
  split
  · rename_i e2
    split at e2
    · rename_i i ei
      cases e2
      rw [ei] at h1
      exact fun q => h1 fun v T _ r => ⟨i, rep_int r, q _ (fun _ => False) (fun _ z => z.elim) (by simp [RepM, RepD])⟩
    · cases e2
  · trivial
theorem xe_neg (h : PEs G X W a f) : PEs G X W (.UnaryOp .USub a pos) (sNeg f) := by
  obtain ⟨t, p, h⟩ := h.ex
  refine ⟨_, pe_un un_neg p, SEok.mk' fun Z H σ env S Q gd p => ?_⟩
  unfold sNeg at p
  refine h.use gd ?_
  cases e : f env with
  | ok q =>
    obtain ⟨m, e1⟩ := q
    rw [e] at p
    cases m with
    | d x =>
      cases x with
      | int k => exact fun v Z' H' S' T s' g' l => ⟨k, rep_int l.rep, p (.int (-k)) Z' H' S' (fun _ => False) (s'.weak fun _ z => .inl (z.elim id fun z => z.elim)) g' (Hld.data (by simp [RepD]))⟩
      | _ => exact p.elim
    | _ => exact p.elim
  | exc x e1 => rw [e] at p; exact p
  | bad => rw [e] at p; exact p.elim
end
end FL

set_option maxHeartbeats 2000000
/-! FLM: a def stands; the end of a law. -/
namespace FL
open PySem L2 Classical
section
variable {P : Program} {w : World} {mg : Str → Option Value} {base : Heap} {G : Gx}
theorem fnA_mk {x : Str} {st : Stmt} {f : Addr} {fd : FuncData} {N ps : List Str} {k n : Nat} (pr : List Nat) {b : SS} (F : Fun G.K x x st f fd) (hm : mg x = some (.ref f)) (hb : Binds G.K fd ps []) (S : FnScope N ps (defScope st)) (hn : ps.length = n)
    (hbody : ∀ (cdv : Value) (A : Around) (outer : List PySem.Env) (s : Shared) (H : Hp) (E : XK), Room k (cxOf (L2.CX P w) P w G.K mg base N x (defScope st) f cdv A outer s H E).A →
      Takes (cxOf (L2.CX P w) P w G.K mg base N x (defScope st) f cdv A outer s H E) (fun cls d _ H => E cls d H) →
      PassesOwn (model P w) (cxOf (L2.CX P w) P w G.K mg base N x (defScope st) f cdv A outer s H E).A (cxOf (L2.CX P w) P w G.K mg base N x (defScope st) f cdv A outer s H E).env (cxOf (L2.CX P w) P w G.K mg base N x (defScope st) f cdv A outer s H E).xe →
      PSs' G (cxOf (L2.CX P w) P w G.K mg base N x (defScope st) f cdv A outer s H E) (fun cls d _ H => E cls d H) (Pn n pr) (defBody st) b) :
    FnA P w G mg base (k + 1) x n (runF N.length n pr b) := ⟨f, fd, ps, fn_ok pr F S hn hbody, hm, F.kp, hb⟩
end
theorem xe_call' {G : Gx} {X : Cx} {W : WX'} {e : Expr} {es : List Expr} {fs : SA} {bk : Bk} {F : FS} {n k k' : Nat} {x : Str} {p pos : Pos} (h : FnA X.prog X.w G X.mg X.base k x n F) (hK : G.K = X.K) (hr : Room k' X.A) (hk : k ≤ k') (tk : Takes X W) (ha : PAs' G X W (e :: es) bk fs) (hn : ∀ env ms e1, fs env = .ok (ms, e1) → ms.length = n) (hg : Gl X x := by rfl) (hdb : (x == ("__debug__" : Str)) = false := by decide)
    (he : starEach (e :: es) X.env = (false, eval e X.env) :: starEach es X.env := by rfl) (hpl : (backTo pos (starEach es X.env)).any (·.1) = false := by rfl) : PEs G X W (.Call (.Name x p) (e :: es) [] pos) (sCall F bk fs) :=
  xe_call h hK (hr.mono hk) tk ha hn hg hdb he hpl
theorem xe_call0' {G : Gx} {X : Cx} {W : WX'} {F : FS} {k k' : Nat} {x : Str} {p pos : Pos} (h : FnA X.prog X.w G X.mg X.base k x 0 F) (hK : G.K = X.K) (hr : Room k' X.A) (hk : k ≤ k') (tk : Takes X W) (hg : Gl X x := by rfl) (hdb : (x == ("__debug__" : Str)) = false := by decide) : PEs G X W (.Call (.Name x p) [] [] pos) (sCall F [] saNil) :=
  xe_call0 h hK (hr.mono hk) tk hg hdb
theorem repDs_ints {G : Gx} {Z : Hp} : ∀ ns : List Int, RepDs G Z (ns.map D.int) (ns.map V.int)
  | [] => by simp [RepDs]
  | n :: ns => by
    simp only [List.map_cons, RepDs]
    exact ⟨_, _, rfl, by simp [RepD], repDs_ints ns⟩
theorem sp_law {G : Gx} {F : FS} {H : Hp} {a : Addr} {ns : List Int} (h : ∃ ms', F [.d (.scr (ns.map D.int))] = .ok (.d (.bl true), ms')) (hS : SqL G.K H a (ns.map V.int)) : spF G 1 F [.ref a] H (fun v _ => v = .bl true) fun _ _ _ => False := by
  obtain ⟨ms', h⟩ := h
  refine ⟨rfl, H, [.d (.scr (ns.map D.int))], fun _ _ => False, ?_, ?_⟩
  · refine ⟨Same.refl _, fun i m e => ?_, fun i j a _ h => h.elim, fun i a h => h.elim, fun i a h => h.elim, rfl⟩
    cases i with
    | zero =>
      cases e
      refine ⟨.ref a, rfl, ?_⟩
      simp only [RepM, RepD]
      exact ⟨a, _, rfl, hS, repDs_ints ns⟩
    | succ i => simp at e
  · rw [h]
    exact fun v Z' H' T' Tr _ _ l => rep_bl l.rep
theorem cx_no {P : Program} {w : World} {H : Hp} {s : Shared} {e : Value} {s' : Shared} (h : L2.CX P w [] H s (fun _ _ _ => False) e s') : False := by
  obtain ⟨_, _, _, _, _, _, _, _, _, _, _, _, z⟩ := h
  exact z
theorem bits_lt {n : Int} (h : Builtin.Int.intBits n ≤ 1048576) : n.natAbs.log2 < 1048576 := by
  unfold Builtin.Int.intBits at h
  by_cases e : n = 0
  · subst e; decide
  · have e2 : (n == 0) = false := by simpa using e
    rw [e2] at h
    have h' : n.natAbs.log2 + 1 ≤ 1048576 := h
    omega
open PySem.Spec PyProof.Rows in
theorem walk {l : PySem.W.OpenLaw} {k : Nat} {q : Program} {loose : List Str} {XP : (Str → Option Value) → Heap → Prop} {YP : World → Heap → Prop} {d : DefRec} {x : Str}
    (hn : l.most = some 63) (hdf : d.params.defaults = []) (hr : Room k callerA)
    (F : ∀ (w : World) (mg : Str → Option Value) (fa : Addr) (h : Heap), YP w h → h.Ns mainGlobals mg → mg d.name = some (.ref fa) →
      ∃ (G : Gx) (fd : FuncData) (F : FS), G.K.In h ∧ (∀ (s : Shared) (u : Value), BindsTo s fd ⟨[u], []⟩ [(x, u)]) ∧
        (∀ ns : List Int, ns.length ≤ 63 → (∀ z ∈ ns, z.natAbs.log2 < 1048576) → ∃ ms', F [.d (.scr (ns.map D.int))] = .ok (.d (.bl true), ms')) ∧
        ∀ base : Heap, G.K.In base → base.Ns mainGlobals mg → FnOk l.prog w G.K mg base (L2.CX l.prog w) k fa fd [x] (spF G 1 F)) :
    PySem.W.WalkO q loose XP YP l.row.toRowW d [] (fun f vs => PySem.call f vs) := by
  refine Att.attach_callB hn hdf fun w s₀ s₁ mg mb fa o pm cd doc a vs ns G Y ho hd hcd hmg hobj hints hlen hbits hg => ?_
  obtain ⟨Gx, fd, Fs, KX, hb, hsp, hF⟩ := F w mg fa _ Y G.T.g hmg
  exact law_call KX G.T.g G.T.b G.T.builtins G.T.nolimit hg hobj hints (Nat.le_trans hlen (by decide)) hr hF hb (fun H hO hS => sp_law (hsp ns hlen fun z hz => bits_lt (hbits z hz)) hS) fun H e s' => cx_no
end FL

set_option maxHeartbeats 2000000
/-! FLN: a, b = x, y side by side. -/
namespace FL
open PySem L2 Classical
def setAll {α : Type} : List Nat → List α → List (Option α) → List (Option α)
  | i :: is, v :: vs, σ => setAll is vs (σ.set i (some v))
  | _, _, σ => σ
def ssPar (is : List Nat) (fs : SA) : SS := fun env => match fs env with
  | .ok (ms, e) => if ms.length = is.length ∧ (is.all fun i => decide (i < e.length)) = true then .ok (.nx, setAll is ms e) else .bad
  | .exc x e => .exc x e
  | .bad => .bad
theorem row_put {G : Gx} {Z H : Hp} : ∀ (is : List Nat) (vs : List V) (ms : List M) (T : Rs) (σ : St) (env : Env) (S : Rs), Good G Z H (vs.map some) (ms.map some) T → Good G Z H σ env S → (∀ a, U T a → ¬ U S a) → ms.length = is.length → (∀ i ∈ is, i < env.length) →
    ∃ S', Good G Z H (setAll is vs σ) (setAll is ms env) S' ∧ ∀ a, U S' a → U S a ∨ U T a
  | [], vs, ms, T, σ, env, S, r, g, d, hl, hi => by
    have : ms = [] := List.length_eq_zero_iff.mp hl
    subst this
    have : vs = [] := by have := r.len; exact List.length_eq_zero_iff.mp (by simpa using this.symm)
    subst this
    exact ⟨S, g, fun a z => .inl z⟩
  | i :: is, [], ms, T, σ, env, S, r, g, d, hl, hi => by have := r.len; simp at this; subst this; simp at hl
  | i :: is, v :: vs, [], T, σ, env, S, r, g, d, hl, hi => by simp at hl
  | i :: is, v :: vs, m :: ms, T, σ, env, S, r, g, d, hl, hi => by
    obtain ⟨w, hw, h⟩ := r.head
    cases hw
    have g1 := g.put (i := i) (m := m) (T := T 0) (v := v) ⟨h.rep, h.al, h.zf, fun a z => d a ⟨0, z⟩⟩ (hi i (by simp))
    obtain ⟨S', g', h'⟩ := row_put is vs ms (fun j => T (j + 1)) (σ.set i (some v)) (env.set i (some m)) (S.set i (T 0)) r.tail g1 (fun a ⟨j, z⟩ w => (Rs.set_sub w).elim (d a ⟨j + 1, z⟩) fun w => h.dj a w ⟨j, z⟩) (by simpa using hl) (fun k hk => by rw [List.length_set]; exact hi k (by simp [hk]))
    exact ⟨S', g', fun a z => (h' a z).elim (fun z => (Rs.set_sub z).elim .inl fun z => .inr ⟨0, z⟩) fun ⟨j, z⟩ => .inr ⟨j + 1, z⟩⟩
theorem setAll_fix {P : Px} : ∀ (is : List Nat) (vs : List V) (σ : St), (∀ i ∈ is, ¬ P i) → Fix P σ (setAll is vs σ)
  | [], _, _, _ => Fix.refl
  | _ :: _, [], _, _ => Fix.refl
  | i :: is, v :: vs, σ, h => by
    refine Fix.trans ⟨fun j hj => ?_, by rw [List.length_set]⟩ (setAll_fix is vs (σ.set i (some v)) fun k hk => h k (by simp [hk]))
    exact List.getElem?_set_ne fun (z : i = j) => h i (by simp) (by rw [z]; exact hj)
section
variable {G : Gx} {X : Cx} {W : WX'} {P : Px} {fs : SA} {bk : Bk}
theorem SSok.par {t : TA} (is : List Nat) (hP : ∀ i ∈ is, ¬ P i) (h : SAok' G W bk t fs) {u : TS} (hu : ∀ D σ H, t σ H (fun vs H1 => vs.length = is.length ∧ D.nx (setAll is vs σ) H1) → u D σ H) : SSok G W P u (ssPar is fs) := fun D Z H σ env S gd p => by
  unfold ssPar at p
  refine hu D σ H ?_
  have h1 := h Z H σ env S (fun vs H1 => vs.length = is.length ∧ D.nx (setAll is vs σ) H1) gd
  cases e : fs env with
  | ok q =>
    obtain ⟨ms, e1⟩ := q
    rw [e] at p h1
    simp only at p
    split at p
    · rename_i hc
      refine h1 fun vs Z' H' S' T s' g' row d kk => ?_
      have hl : vs.length = ms.length := by have := row.len; simpa using this.symm
      obtain ⟨S2, g2, u2⟩ := row_put is vs ms T σ e1 S' row g' d hc.1 (fun i hi => by have := List.all_eq_true.mp hc.2 i hi; simpa using this)
      exact ⟨hl.trans hc.1, p (setAll is vs σ) Z' H' S2 (setAll_fix is vs σ hP) (s'.weak fun a z => u2 a z) g2⟩
    · exact p.elim
  | exc x e1 =>
    rw [e] at p h1
    exact h1 fun cls d Z' H' S' hx s' g' => p cls d σ Z' H' S' hx Fix.refl s' g'
  | bad => rw [e] at p; exact p.elim
theorem xs_par2 (i j : Nat) {x y : Str} {a b : Expr} {px py pt pos : Pos} {kt k2 pt2} (hc : X.calm = true) (hN : X.N.Nodup) (ha : PAs' G X W [a, b] bk fs)
    (hw : swappedStores [.Tuple [.Name x px, .Name y py] kt pt] (.Tuple [a, b] k2 pt2) X.env = pure (some [x, y])) (hP : ∀ k ∈ [i, j], ¬ P k := by decide) (hi : X.N[i]? = some x := by rfl) (hj : X.N[j]? = some y := by rfl) (hij : i ≠ j := by decide)
    (hx : X.env.scope.names.lookup x = some .local := by rfl) (hy : X.env.scope.names.lookup y = some .local := by rfl)
    (hs : swapsWithSole [.Tuple [.Name x px, .Name y py] kt pt] (.Tuple [a, b] k2 pt2) pos.line X.env = pure false := by rfl) :
    PS' G X W P (.Assign [.Tuple [.Name x px, .Name y py] kt pt] (.Tuple [a, b] k2 pt2) pos) (ssPar [i, j] fs) := by
  obtain ⟨t, p, ha⟩ := ha.ex
  refine ⟨_, ps_par hc hN hi hj hij hx hy p hw hs, SSok.par [i, j] hP ha fun D σ H q => ?_⟩
  unfold tPar
  have e : (fun vs H1 => vs.length = [i, j].length ∧ D.nx (setAll [i, j] vs σ) H1) = (fun vs H1 => ∃ v w, vs = [v, w] ∧ D.nx ((σ.set i (some v)).set j (some w)) H1) := by
    funext vs H1
    apply propext
    constructor
    · rintro ⟨hl, q⟩
      match vs, hl with
      | [v, w], _ => exact ⟨v, w, rfl, q⟩
    · rintro ⟨v, w, rfl, q⟩
      exact ⟨rfl, q⟩
  rw [← e]
  exact q
theorem xs_par3 (i j l : Nat) {x y z : Str} {a b c : Expr} {px py pz pt pos : Pos} {kt k2 pt2} (hc : X.calm = true) (hN : X.N.Nodup) (ha : PAs' G X W [a, b, c] bk fs)
    (hw : swappedStores [.Tuple [.Name x px, .Name y py, .Name z pz] kt pt] (.Tuple [a, b, c] k2 pt2) X.env = pure (some [x, y, z])) (hP : ∀ k ∈ [i, j, l], ¬ P k := by decide) (hi : X.N[i]? = some x := by rfl) (hj : X.N[j]? = some y := by rfl) (hl : X.N[l]? = some z := by rfl) (hij : i ≠ j := by decide) (hil : i ≠ l := by decide) (hjl : j ≠ l := by decide)
    (hx : X.env.scope.names.lookup x = some .local := by rfl) (hy : X.env.scope.names.lookup y = some .local := by rfl) (hz : X.env.scope.names.lookup z = some .local := by rfl)
    (hs : swapsWithSole [.Tuple [.Name x px, .Name y py, .Name z pz] kt pt] (.Tuple [a, b, c] k2 pt2) pos.line X.env = pure false := by rfl) :
    PS' G X W P (.Assign [.Tuple [.Name x px, .Name y py, .Name z pz] kt pt] (.Tuple [a, b, c] k2 pt2) pos) (ssPar [i, j, l] fs) := by
  obtain ⟨t, p, ha⟩ := ha.ex
  refine ⟨_, ps_par3 hc hN hi hj hl hij hil hjl hx hy hz p hw hs, SSok.par [i, j, l] hP ha fun D σ H q => ?_⟩
  unfold tPar3
  have e : (fun vs H1 => vs.length = [i, j, l].length ∧ D.nx (setAll [i, j, l] vs σ) H1) = (fun vs H1 => ∃ u v w, vs = [u, v, w] ∧ D.nx (((σ.set i (some u)).set j (some v)).set l (some w)) H1) := by
    funext vs H1
    apply propext
    constructor
    · rintro ⟨hl, q⟩
      match vs, hl with
      | [u, v, w], _ => exact ⟨u, v, w, rfl, q⟩
    · rintro ⟨u, v, w, rfl, q⟩
      exact ⟨rfl, q⟩
  rw [← e]
  exact q
end
end FL

set_option maxHeartbeats 2000000
/-! FLS: reckoning with the semantics. -/
namespace FL
open PySem L2 Classical

theorem oAdd_int (i j : Int) : oAdd (.d (.int i)) (.d (.int j)) = .ok (.int (i + j)) := rfl
theorem oSub_int (i j : Int) : oSub (.d (.int i)) (.d (.int j)) = .ok (.int (i - j)) := rfl
theorem oMul_int {i j : Int} (h : CMulD i j) : oMul (.d (.int i)) (.d (.int j)) = .ok (.int (i * j)) := if_pos h
theorem oFdiv_int {i j : Int} (h : CFdiv i j) : oFdiv (.d (.int i)) (.d (.int j)) = .ok (.int (fdivI i j)) := if_pos h
theorem oMod_int {i j : Int} (h : j ≠ 0) : oMod (.d (.int i)) (.d (.int j)) = .ok (.int (modI i j)) := if_pos h
theorem oPow_int {i j : Int} (h : CPowD i j) : oPow (.d (.int i)) (.d (.int j)) = .ok (.int (i ^ j.toNat)) := if_pos h
theorem oLt_int (i j : Int) : oLt (.d (.int i)) (.d (.int j)) = .ok (.bl (decide (i < j))) := rfl
theorem oLe_int (i j : Int) : oLe (.d (.int i)) (.d (.int j)) = .ok (.bl (decide (i ≤ j))) := rfl
theorem oGt_int (i j : Int) : oGt (.d (.int i)) (.d (.int j)) = .ok (.bl (decide (j < i))) := rfl
theorem oGe_int (i j : Int) : oGe (.d (.int i)) (.d (.int j)) = .ok (.bl (decide (j ≤ i))) := rfl
theorem plain_int (i : Int) : (toPy (.int i)).plain = true ∧ (toPy (.int i)).depth ≤ 60 := by
  constructor
  · simp [toPy, PyData.plain]
  · simp [toPy, PyData.depth]
/-- data that == tells at once -/
def flatD0 : D → Bool
  | .non => true | .bl _ => true | .int _ => true | .str _ => true
  | _ => false
theorem flat0_plain : ∀ {x : D}, flatD0 x = true → (toPy x).plain = true ∧ (toPy x).depth ≤ 60
  | .non, _ => by simp [toPy, PyData.plain, PyData.depth]
  | .bl _, _ => by simp [toPy, PyData.plain, PyData.depth]
  | .int _, _ => by simp [toPy, PyData.plain, PyData.depth]
  | .str _, _ => by simp [toPy, PyData.plain, PyData.depth]
theorem toPys_map : ∀ xs : List D, toPys xs = xs.map toPy
  | [] => rfl
  | x :: xs => by simp [toPys, toPys_map xs]
/-- plain, and at most k deep -/
def Pl (k : Nat) (x : D) : Prop := (toPy x).plain = true ∧ (toPy x).depth ≤ k
theorem pl_flat {x : D} {k : Nat} (h : flatD0 x = true) : Pl k x := by
  refine ⟨(flat0_plain h).1, ?_⟩
  cases x <;> simp [flatD0] at h <;> simp [toPy, PyData.depth]
theorem oEq_pl {m1 m2 : M} (h1 : Pl 60 (fz m1)) (h2 : Pl 60 (fz m2)) : oEq m1 m2 = .ok (.bl (eqD (fz m1) (fz m2))) := if_pos ⟨h1.1, h2.1, Nat.le_trans (Nat.min_le_left _ _) h1.2⟩
theorem oNe_pl {m1 m2 : M} (h1 : Pl 60 (fz m1)) (h2 : Pl 60 (fz m2)) : oNe m1 m2 = .ok (.bl (!eqD (fz m1) (fz m2))) := if_pos ⟨h1.1, h2.1, Nat.le_trans (Nat.min_le_left _ _) h1.2⟩
theorem beq_int (i j : Int) : (i == j) = decide (i = j) := by
  by_cases h : i = j
  · subst h; simp
  · simp [h]
theorem oEq_int (i j : Int) : oEq (.d (.int i)) (.d (.int j)) = .ok (.bl (decide (i = j))) := by
  rw [oEq_pl (pl_flat rfl) (pl_flat rfl)]
  simp [eqD, fz, toPy, PyData.eqv, beq_int]
theorem oNe_int (i j : Int) : oNe (.d (.int i)) (.d (.int j)) = .ok (.bl (!decide (i = j))) := by
  rw [oNe_pl (pl_flat rfl) (pl_flat rfl)]
  simp [eqD, fz, toPy, PyData.eqv, beq_int]
theorem modI_pos {i j : Int} (h : 0 < j) : modI i j = i % j := if_pos h
theorem fdivI_pos {i j : Int} (h : 0 < j) : fdivI i j = i / j := if_pos h

/-! ### loops, step by step -/
theorem ssWhile_go {c : SB} {b : SS} {env e e2 : Env} {fl : Fl} (hc : c env = .ok (true, e)) (hb : b e = .ok (fl, e2)) (hf : fl = .nx ∨ fl = .ct) : ssWhile c b env = ssWhile c b e2 := by
  have key : ∀ n, wl c b (n + 1) env = wl c b n e2 := fun n => by
    show (match c env with
      | .ok (true, e) => match b e with
        | .ok (.nx, e2) => wl c b n e2
        | .ok (.ct, e2) => wl c b n e2
        | .ok (.brk, e2) => .ok (.nx, e2)
        | .ok (.ret m, e2) => .ok (.ret m, e2)
        | .exc x e2 => .exc x e2
        | .bad => .bad
      | .ok (false, e) => .ok (.nx, e)
      | .exc x e => .exc x e
      | .bad => .bad) = _
    rw [hc]
    simp only [hb]
    rcases hf with rfl | rfl <;> rfl
  by_cases ex : ∃ n, wl c b n e2 ≠ .bad
  · obtain ⟨n, hn⟩ := ex
    rw [ssWhile_of n rfl hn, ssWhile_of (n + 1) (key n) hn]
  · have ex2 : ¬ ∃ n, wl c b n env ≠ .bad := by
      rintro ⟨n, hn⟩
      cases n with
      | zero => exact hn rfl
      | succ n => rw [key] at hn; exact ex ⟨n, hn⟩
    unfold ssWhile
    rw [dif_neg ex, dif_neg ex2]
theorem ssWhile_end {c : SB} {b : SS} {env e : Env} (hc : c env = .ok (false, e)) : ssWhile c b env = .ok (.nx, e) := by
  refine ssWhile_of 1 ?_ (fun z => nomatch z)
  show (match c env with
      | .ok (true, e) => match b e with
        | .ok (.nx, e2) => wl c b 0 e2
        | .ok (.ct, e2) => wl c b 0 e2
        | .ok (.brk, e2) => .ok (.nx, e2)
        | .ok (.ret m, e2) => .ok (.ret m, e2)
        | .exc x e2 => .exc x e2
        | .bad => .bad
      | .ok (false, e) => .ok (.nx, e)
      | .exc x e => .exc x e
      | .bad => .bad) = _
  rw [hc]
theorem ssWhile_ret {c : SB} {b : SS} {env e e2 : Env} {m : M} (hc : c env = .ok (true, e)) (hb : b e = .ok (.ret m, e2)) : ssWhile c b env = .ok (.ret m, e2) := by
  refine ssWhile_of 1 ?_ (fun z => nomatch z)
  show (match c env with
      | .ok (true, e) => match b e with
        | .ok (.nx, e2) => wl c b 0 e2
        | .ok (.ct, e2) => wl c b 0 e2
        | .ok (.brk, e2) => .ok (.nx, e2)
        | .ok (.ret m, e2) => .ok (.ret m, e2)
        | .exc x e2 => .exc x e2
        | .bad => .bad
      | .ok (false, e) => .ok (.nx, e)
      | .exc x e => .exc x e
      | .bad => .bad) = _
  rw [hc]
  simp only [hb]
theorem ssWhile_brk {c : SB} {b : SS} {env e e2 : Env} (hc : c env = .ok (true, e)) (hb : b e = .ok (.brk, e2)) : ssWhile c b env = .ok (.nx, e2) := by
  refine ssWhile_of 1 ?_ (fun z => nomatch z)
  show (match c env with
      | .ok (true, e) => match b e with
        | .ok (.nx, e2) => wl c b 0 e2
        | .ok (.ct, e2) => wl c b 0 e2
        | .ok (.brk, e2) => .ok (.nx, e2)
        | .ok (.ret m, e2) => .ok (.ret m, e2)
        | .exc x e2 => .exc x e2
        | .bad => .bad
      | .ok (false, e) => .ok (.nx, e)
      | .exc x e => .exc x e
      | .bad => .bad) = _
  rw [hc]
  simp only [hb]
end FL

set_option maxHeartbeats 2000000
/-! FLT: plain law: fractions in lowest terms, sizes. -/
namespace FL
open PySem L2 Classical

theorem gcd_step {a b : Int} (hb : 0 < b) : Int.gcd b (a % b) = Int.gcd a b := by
  apply Nat.dvd_antisymm
  · apply Int.natCast_dvd_natCast.mp
    apply Int.dvd_coe_gcd
    · have h1 : (Int.gcd b (a % b) : Int) ∣ b := Int.gcd_dvd_left ..
      have h2 : (Int.gcd b (a % b) : Int) ∣ a % b := Int.gcd_dvd_right ..
      have h3 : a = b * (a / b) + a % b := (Int.mul_ediv_add_emod a b).symm
      exact (Int.dvd_iff_emod_eq_zero.mp (show (Int.gcd b (a % b) : Int) ∣ b * (a / b) + a % b from Int.dvd_add (Int.dvd_mul_of_dvd_left h1) h2) |> fun z => Int.dvd_of_emod_eq_zero (by rw [← h3] at z; exact z))
    · exact Int.gcd_dvd_left ..
  · apply Int.natCast_dvd_natCast.mp
    apply Int.dvd_coe_gcd
    · exact Int.gcd_dvd_right ..
    · have h1 : (Int.gcd a b : Int) ∣ a := Int.gcd_dvd_left ..
      have h2 : (Int.gcd a b : Int) ∣ b := Int.gcd_dvd_right ..
      have h3 : a % b = a - b * (a / b) := by have := Int.mul_ediv_add_emod a b; omega
      rw [h3]
      exact Int.dvd_sub h1 (Int.dvd_mul_of_dvd_left h2)
theorem gcd_abs (a b : Int) : Int.gcd (if a < 0 then -a else a) (if b < 0 then -b else b) = Int.gcd a b := by
  have e : ∀ x : Int, (if x < 0 then -x else x).natAbs = x.natAbs := fun x => by split <;> omega
  unfold Int.gcd
  rw [e, e]
theorem gcd_zero_right {a : Int} (h : 0 ≤ a) : (Int.gcd a 0 : Int) = a := by
  rw [Int.gcd_zero_right]; omega
def gI (a b : Int) : Int := (Int.gcd a b : Int)
theorem gI_pos {a b : Int} (h : b ≠ 0) : 0 < gI a b := by have := Int.gcd_pos_of_ne_zero_right a h; unfold gI; omega
theorem gI_dvdL (a b : Int) : gI a b ∣ a := Int.gcd_dvd_left ..
theorem gI_dvdR (a b : Int) : gI a b ∣ b := Int.gcd_dvd_right ..
theorem gI_le {a b : Int} (h : b ≠ 0) : (gI a b).natAbs ≤ b.natAbs := Nat.le_of_dvd (by omega) (Int.natAbs_dvd_natAbs.mpr (gI_dvdR a b))
def lowT (t b : Int) : Int := t / gI t b
def lowB (t b : Int) : Int := b / gI t b
theorem lowT_mul {t b : Int} : lowT t b * gI t b = t := Int.ediv_mul_cancel (gI_dvdL t b)
theorem lowB_mul {t b : Int} : lowB t b * gI t b = b := Int.ediv_mul_cancel (gI_dvdR t b)
theorem low_cross {t b : Int} : lowT t b * b = t * lowB t b := by
  have h1 := lowT_mul (t := t) (b := b)
  have h2 := lowB_mul (t := t) (b := b)
  calc lowT t b * b = lowT t b * (lowB t b * gI t b) := by rw [h2]
    _ = (lowT t b * gI t b) * lowB t b := by rw [Int.mul_comm (lowB t b), ← Int.mul_assoc]
    _ = t * lowB t b := by rw [h1]
theorem lowB_pos {t b : Int} (h : 0 < b) : 0 < lowB t b := by
  have h1 := gI_pos (a := t) (b := b) (by omega)
  have h2 := lowB_mul (t := t) (b := b)
  refine Int.not_le.mp fun q => ?_
  have := Int.mul_le_mul_of_nonneg_right q (Int.le_of_lt h1)
  omega
theorem gI_scale {t b k : Int} (h : 0 < k) : gI (t * k) (b * k) = gI t b * k := by
  unfold gI
  rw [Int.gcd_mul_right]
  rw [Int.natCast_mul, Int.natAbs_of_nonneg (Int.le_of_lt h)]
theorem low_scale {t b k : Int} (h : 0 < k) : lowT (t * k) (b * k) = lowT t b ∧ lowB (t * k) (b * k) = lowB t b := by
  unfold lowT lowB
  rw [gI_scale h]
  exact ⟨Int.mul_ediv_mul_of_pos_left _ _ h, Int.mul_ediv_mul_of_pos_left _ _ h⟩
theorem low_eq {t b t' b' : Int} (h : 0 < b) (h' : 0 < b') (e : t * b' = t' * b) : lowT t b = lowT t' b' ∧ lowB t b = lowB t' b' := by
  have h1 := low_scale (t := t) (b := b) h'
  have h2 := low_scale (t := t') (b := b') h
  rw [e, Int.mul_comm b b'] at h1
  exact ⟨h1.1.symm.trans h2.1, h1.2.symm.trans h2.2⟩
theorem low_gcd {t b : Int} (h : b ≠ 0) : Int.gcd (lowT t b) (lowB t b) = 1 := by
  have hg := gI_pos (a := t) h
  have e := Int.gcd_mul_right (lowT t b) (gI t b) (lowB t b)
  rw [lowT_mul, lowB_mul] at e
  have e2 : (gI t b).natAbs = Int.gcd t b := by unfold gI; simp
  rw [e2] at e
  have hg2 : 0 < Int.gcd t b := by unfold gI at hg; omega
  have e3 : 1 * Int.gcd t b = Int.gcd (lowT t b) (lowB t b) * Int.gcd t b := by omega
  exact (Nat.eq_of_mul_eq_mul_right hg2 e3).symm
theorem natAbs_ediv {a b : Int} (h : b ∣ a) : (a / b).natAbs ≤ a.natAbs := by
  rw [Int.natAbs_ediv_of_dvd h]
  exact Nat.div_le_self _ _
theorem lowT_le {t b : Int} : (lowT t b).natAbs ≤ t.natAbs := natAbs_ediv (gI_dvdL t b)
theorem lowB_le {t b : Int} : (lowB t b).natAbs ≤ b.natAbs := natAbs_ediv (gI_dvdR t b)
theorem fdiv_neg {a g : Int} (hg : 0 < g) (h : g ∣ a) : fdivI a (0 - g) = (-a) / g := by
  unfold fdivI
  rw [if_neg (by omega)]
  obtain ⟨c, rfl⟩ := h
  have e1 : g * c = (-c) * (0 - g) := by
    rw [Int.zero_sub, Int.mul_neg, Int.neg_mul, Int.neg_neg, Int.mul_comm]
  have e2 : -(g * c) = (-c) * g := by rw [Int.neg_mul, Int.mul_comm]
  rw [e2, Int.mul_ediv_cancel _ (by omega), e1, Int.mul_fdiv_cancel _ (by omega)]
theorem gI_neg (t b : Int) : gI (-t) (-b) = gI t b := by unfold gI; rw [Int.gcd_neg, Int.neg_gcd]
/-- what fraction gives -/
def fracT (t b : Int) : Int := if b < 0 then lowT (-t) (-b) else lowT t b
def fracB (t b : Int) : Int := if b < 0 then lowB (-t) (-b) else lowB t b
theorem frac_pos {t b : Int} (h : 0 < b) : fracT t b = lowT t b ∧ fracB t b = lowB t b := by
  unfold fracT fracB
  rw [if_neg (by omega), if_neg (by omega)]
  exact ⟨rfl, rfl⟩

/-! ### sizes -/
theorem log_lt {n k : Nat} (h : n < 2 ^ k) (hk : 0 < k) : n.log2 < k := PySem.Flt.log2_lt_of hk h
theorem mulD {i j : Int} {a b : Nat} (ha : i.natAbs < 2 ^ a) (hb : j.natAbs < 2 ^ b) (h0 : 0 < a := by omega) (h1 : 0 < b := by omega) (h : a + b ≤ 130000000 := by omega) : CMulD i j := by
  have := log_lt ha h0
  have := log_lt hb h1
  show i.natAbs.log2 + j.natAbs.log2 < 130000000
  omega
theorem mulDl {i j : Int} {b : Nat} (ha : i.natAbs.log2 < 1048577) (hb : j.natAbs < 2 ^ b) (h1 : 0 < b := by omega) (h : b ≤ 100000000 := by omega) : CMulD i j := by
  have := log_lt hb h1
  show i.natAbs.log2 + j.natAbs.log2 < 130000000
  omega
theorem fdivD {j : Int} {i : Int} {b : Nat} (h : j ≠ 0) (hb : j.natAbs < 2 ^ b) (h0 : 0 < b := by omega) (h9 : b ≤ 9000 := by omega) : CFdiv i j := ⟨h, Nat.lt_of_lt_of_le (log_lt hb h0) h9⟩
theorem mul_lt {i j : Int} {a b : Nat} (ha : i.natAbs < 2 ^ a) (hb : j.natAbs < 2 ^ b) : (i * j).natAbs < 2 ^ (a + b) := by
  rw [Int.natAbs_mul, Nat.pow_add]
  exact Nat.mul_lt_mul'' ha hb
theorem add_lt {i j : Int} {a : Nat} (ha : i.natAbs < 2 ^ a) (hb : j.natAbs < 2 ^ a) : (i + j).natAbs < 2 ^ (a + 1) := by
  rw [Nat.pow_succ]; omega
theorem sub_lt {i j : Int} {a : Nat} (ha : i.natAbs < 2 ^ a) (hb : j.natAbs < 2 ^ a) : (i - j).natAbs < 2 ^ (a + 1) := by
  rw [Nat.pow_succ]; omega
theorem up_lt {i : Int} {a b : Nat} (ha : i.natAbs < 2 ^ a) (h : a ≤ b := by omega) : i.natAbs < 2 ^ b := Nat.lt_of_lt_of_le ha (Nat.pow_le_pow_right (by decide) h)
end FL
namespace FL
open PySem L2 Classical
theorem oEq_pair (a b c d : Int) : oEq (.d (.tup [.int a, .int b])) (.d (.tup [.int c, .int d])) = .ok (.bl (decide (a = c) && decide (b = d))) := by
  have h : ∀ a b : Int, Pl 60 (fz (.d (.tup [.int a, .int b]))) := fun a b => by
    simp [Pl, fz, toPy, toPys, PyData.plain, PyData.plainAll, PyData.depth, PyData.depthAll]
  rw [oEq_pl (h a b) (h c d)]
  simp [eqD, fz, toPy, toPys, PyData.eqv, PyData.eqvAll, beq_int]
theorem two_pow_le {a b : Nat} (h : a ≤ b := by omega) : 2 ^ a ≤ 2 ^ b := Nat.pow_le_pow_right (by decide) h
end FL
namespace FL
open PySem L2 Classical
/-! ### slices, comprehensions, for -/
theorem cutL_take {α : Type} (xs : List α) {k : Int} (h : 0 ≤ k) : cutL xs none (some k) = xs.take k.toNat := by
  unfold cutL HT.sIx
  simp only []
  rw [if_neg (by omega)]
  rw [List.drop_zero, Nat.sub_zero]
  rcases Nat.le_total k.toNat xs.length with q | q
  · rw [Nat.min_eq_left q]
  · rw [Nat.min_eq_right q, List.take_of_length_le (Nat.le_refl _), List.take_of_length_le q]
theorem cutL_drop {α : Type} (xs : List α) {k : Int} (h : 0 ≤ k) : cutL xs (some k) none = xs.drop k.toNat := by
  unfold cutL HT.sIx
  simp only []
  rw [if_neg (by omega)]
  rcases Nat.le_total k.toNat xs.length with q | q
  · rw [Nat.min_eq_left q, List.take_of_length_le (by simp)]
  · rw [Nat.min_eq_right q]
    simp [List.drop_eq_nil_of_le q]
theorem cutL_mid {α : Type} (xs : List α) {j k : Int} (h : 0 ≤ j) (hk : 0 ≤ k) : cutL xs (some j) (some k) = (xs.take k.toNat).drop j.toNat := by
  unfold cutL HT.sIx
  simp only []
  rw [if_neg (by omega), if_neg (by omega)]
  rw [← List.drop_take]
  rcases Nat.le_total k.toNat xs.length with q | q <;> rcases Nat.le_total j.toNat xs.length with r | r
  · rw [Nat.min_eq_left q, Nat.min_eq_left r]
  · rw [Nat.min_eq_left q, Nat.min_eq_right r, List.drop_eq_nil_of_le (by simp; omega), List.drop_eq_nil_of_le (by simp; omega)]
  · rw [Nat.min_eq_right q, Nat.min_eq_left r, List.take_of_length_le (Nat.le_refl _), List.take_of_length_le q]
  · rw [Nat.min_eq_right q, Nat.min_eq_right r, List.take_of_length_le (Nat.le_refl _), List.take_of_length_le q, List.drop_eq_nil_of_le (Nat.le_refl _), List.drop_eq_nil_of_le r]
theorem map_unD (xs : List D) : (xs.map M.d).map unD = xs := by
  induction xs with
  | nil => rfl
  | cons x xs ih => simp [unD, ih]
theorem all_isD (xs : List D) : (xs.map M.d).all isD = true := by
  induction xs with
  | nil => rfl
  | cons x xs ih => simp [isD]
theorem slM_scr (xs : List D) (lo hi : Option Int) : slM (.d (.scr xs)) lo hi = .ok (.lst ((cutL xs lo hi).map .d)) := by
  simp only [slM, M.seq, all_isD, map_unD, if_true]
theorem slM_lst (xs : List D) (lo hi : Option Int) : slM (.d (.lst xs)) lo hi = .ok (.lst ((cutL xs lo hi).map .d)) := by
  simp only [slM, M.seq, all_isD, map_unD, if_true]
theorem slM_own (xs : List D) (lo hi : Option Int) : slM (.lst (xs.map .d)) lo hi = .ok (.lst ((cutL xs lo hi).map .d)) := by
  simp only [slM, M.seq, all_isD, map_unD, if_true]
theorem fzs_d (xs : List D) : fzs (xs.map .d) = xs := by
  induction xs with
  | nil => rfl
  | cons x xs ih => simp [fzs, fz, ih]
theorem lcl_map {own : List Nat} {g : SG} {c : SB} {f : SE} {env : Env} {α : Type} (dd : α → D) (φ : α → M) : ∀ (xs : List α) (acc : List M),
    (∀ x ∈ xs, ∃ e1 e2 e3, g (.d (dd x)) env = .ok e1 ∧ c e1 = .ok (true, e2) ∧ f e2 = .ok (φ x, e3) ∧ killAll own e3 = env) → lcl own g c f (xs.map dd) acc env = .ok (acc ++ xs.map φ, env)
  | [], acc, _ => by simp [lcl]
  | x :: xs, acc, h => by
    obtain ⟨e1, e2, e3, h1, h2, h3, h4⟩ := h x (by simp)
    simp only [List.map_cons, lcl, h1, h2, h3, h4]
    rw [lcl_map dd φ xs (acc ++ [φ x]) fun y hy => h y (by simp [hy])]
    simp
theorem fl_all {g : SG} {b : SS} {α : Type} (dd : α → D) (I : List α → Env → Prop) (h : ∀ x rest env, I (x :: rest) env → ∃ e1 e2 t, g (.d (dd x)) env = .ok e1 ∧ b e1 = .ok (t, e2) ∧ (t = .nx ∨ t = .ct) ∧ I rest e2) :
    ∀ (xs : List α) (env : Env), I xs env → ∃ e', fl g b (xs.map dd) env = .ok (.nx, e') ∧ I [] e'
  | [], env, i => ⟨env, by simp [fl], i⟩
  | x :: xs, env, i => by
    obtain ⟨e1, e2, t, h1, h2, h3, h4⟩ := h x xs env i
    obtain ⟨e', h5, h6⟩ := fl_all dd I h xs e2 h4
    refine ⟨e', ?_, h6⟩
    rw [List.map_cons]
    unfold fl
    simp only [h1, h2]
    rcases h3 with rfl | rfl
    · exact h5
    · exact h5
end FL
namespace FL
theorem fzs_map_d {α : Type} (f : α → D) (xs : List α) : fzs (xs.map fun x => .d (f x)) = xs.map f := by
  induction xs with
  | nil => rfl
  | cons x xs ih => simp [fzs, fz, ih]
end FL
namespace FL
theorem fzs_comp {α : Type} (f : α → D) (xs : List α) : fzs (xs.map (M.d ∘ f)) = xs.map f := fzs_map_d f xs
end FL

set_option maxHeartbeats 2000000
/-! FLO: lists changed in place. -/
namespace FL
open PySem L2 Classical

theorem RepMs.split {G : Gx} {Z H : Hp} : ∀ {xs ys : List M} {T : Rg} {vs : List V}, RepMs G Z H (xs ++ ys) T vs → ∃ T1 T2 us ws, vs = us ++ ws ∧ (∀ b, T1 b → T b) ∧ (∀ b, T2 b → T b) ∧ (∀ b, T1 b → ¬ T2 b) ∧ RepMs G Z H xs T1 us ∧ RepMs G Z H ys T2 ws
  | [], ys, T, vs, r => ⟨fun _ => False, T, [], vs, rfl, fun _ z => z.elim, fun _ z => z, fun _ z => z.elim, by simp [RepMs], r⟩
  | x :: xs, ys, T, vs, r => by
    simp only [List.cons_append, RepMs] at r
    obtain ⟨v, vr, A, B, rfl, a, b, d, rx, rr⟩ := r
    obtain ⟨T1, T2, us, ws, rfl, t1, t2, d12, r1, r2⟩ := RepMs.split rr
    refine ⟨fun c => A c ∨ T1 c, T2, v :: us, ws, rfl, fun c z => z.elim (a c) fun z => b c (t1 c z), fun c z => b c (t2 c z), fun c z w => z.elim (fun z => d c z (t2 c w)) fun z => d12 c z w, ?_, r2⟩
    simp only [RepMs]
    exact ⟨v, us, A, T1, rfl, fun c z => .inl z, fun c z => .inr z, fun c z w => d c z (t1 c w), rx, r1⟩
theorem RepMs.one {G : Gx} {Z H : Hp} {m : M} {T : Rg} {v : V} (r : RepM G Z H m T v) : RepMs G Z H [m] T [v] := by
  simp only [RepMs]
  exact ⟨v, [], T, fun _ => False, rfl, fun _ z => z, fun _ z => z.elim, fun _ _ z => z, r, rfl⟩
theorem Stp.upd {Z H : Hp} {R : Rg} {a : Addr} {o : HO} (zh : Same Z H) (ra : R a) (za : Z a = none) : Stp Z H R Z (upd H a o) R :=
  ⟨Same.refl _, fun b u e => by rw [upd_ne (fun z => by rw [z, za] at e; cases e)]; exact zh b u e, fun b u e nr => by rw [upd_ne (fun z => nr (by rw [z]; exact ra))]; exact e, fun b q => .inl q, fun b q => .inl q⟩
theorem upd_al {H : Hp} {a b : Addr} {o : HO} (h : H b ≠ none) : upd H a o b ≠ none := by
  by_cases e : b = a
  · subst e; rw [upd_same]; exact fun z => nomatch z
  · rw [upd_ne e]; exact h
theorem upd_al' {H : Hp} {a : Addr} {o : HO} : upd H a o a ≠ none := by rw [upd_same]; exact fun z => nomatch z
/-- the owned list at a is written -/
theorem lst_set {G : Gx} {Z H : Hp} {ms : List M} {vs : List V} {T0 : Rg} {a : Addr} (nT : ¬ T0 a) (r : RepMs G Z H ms T0 vs) : RepM G Z (upd H a (.lst vs)) (.lst ms) (fun b => T0 b ∨ b = a) (.ref a) := by
  simp only [RepM]
  exact ⟨a, vs, T0, rfl, .inr rfl, nT, fun b z => .inl z, upd_same, RepMs.mono (Same.refl _) _ _ _ _ (fun _ z => z) (fun b o sb e => by rw [upd_ne (fun z => nT (by rw [← z]; exact sb))]; exact e) r⟩

abbrev MM := M → List M → Res (M × M)
def MMok (G : Gx) (r : V → List V → Hp → VK → Prop) (op : MM) : Prop := ∀ (Z H : Hp) (m : M) (T : Rg) (v : V) (ms : List M) (Ts : Rg) (vs : List V) (Q : VK), Same Z H → Hld G Z H (fun _ => False) m T v → RepMs G Z H ms Ts vs → (∀ a, Ts a → H a ≠ none) → (∀ a, Ts a → Z a = none) → (∀ a, Ts a → ¬ T a) →
  match op m ms with
  | .ok (x, m') => (∀ u H' T' Tx, Stp Z H (fun a => T a ∨ Ts a) Z H' (fun a => T' a ∨ Tx a) → Hld G Z H' (fun _ => False) m' T' v → Hld G Z H' T' x Tx u → Q u H') → r v vs H Q
  | _ => True
def isLst : M → Bool
  | .lst _ => true
  | _ => false
theorem ty_lst {G : Gx} {Z H : Hp} {m : M} {T : Rg} {v : V} (e : isLst m = true) (r : RepM G Z H m T v) : tyV G.K "list" v H := by
  cases m with
  | lst ms =>
    simp only [RepM] at r
    obtain ⟨a, vs, T0, rfl, _, _, _, h, _⟩ := r
    exact .inl ⟨rfl, vs, SqL.of h⟩
  | _ => simp [isLst] at e
def sMeth (isT : M → Bool) (i : Nat) (op : MM) (fs : SA) : SE := fun env => match getE env i with
  | .ok m0 => if isT m0 = true then (match fs env with
    | .ok (ms, e1) => match getE e1 i with
      | .ok m => match op m ms with
        | .ok (x, m') => .ok (x, e1.set i (some m'))
        | _ => .bad
      | _ => .bad
    | .exc x e => .exc x e
    | .bad => .bad) else .bad
  | _ => .bad
section
variable {G : Gx} {X : Cx} {W : WX'} {fs : SA} {bk : Bk} {e : Expr} {es : List Expr} {r : V → List V → Hp → VK → Prop} {op : MM} {isT : M → Bool} {T id : String} {name x : Str} {p apos cpos : Pos} {i : Nat}
theorem meth_end {Z H : Hp} {σ : St} {env : Env} {S : Rs} {m : M} {ms : List M} {vs : List V} {Ts : Rs} {Q : VK} {R : Rg} {Z0 H0 : Hp} {y m' : M} (hop : MMok G r op) (s0 : Stp Z0 H0 R Z H (fun a => U S a ∨ U Ts a)) (gd : Good G Z H σ env S) (row : Good G Z H (vs.map some) (ms.map some) Ts) (d : ∀ a, U Ts a → ¬ U S a) (e2 : getE env i = .ok m) (eo : op m ms = .ok (y, m'))
    (q : ∀ v Z' H' S' T, Stp Z0 H0 R Z' H' (fun a => U S' a ∨ T a) → Good G Z' H' σ (env.set i (some m')) S' → Hld G Z' H' (U S') y T v → Q v H') : ∀ v, σ[i]? = some (some v) → r v vs H Q := by
  intro v hv
  obtain ⟨v', hv', g1, h1⟩ := gd.take (getE_ok e2)
  have : v' = v := by rw [hv] at hv'; cases hv'; rfl
  subst this
  have h2 := hop Z H m (S i) v' ms (U Ts) vs Q gd.zh ⟨h1.rep, h1.al, h1.zf, fun _ _ z => z⟩ row.row row.al' row.zf' (fun a z w => d a z ⟨i, w⟩)
  rw [eo] at h2
  refine h2 fun u H' T' Tx s1 l1 l2 => ?_
  obtain ⟨g2, d2⟩ := g1.move s1 fun a z w => w.elim (fun w => h1.dj a w z) fun w => d a w (Rs.wipe_le z)
  have g3 := g2.back (i := i) (m := m') (T := T') (v := v') ⟨l1.rep, l1.al, l1.zf, fun a z w => d2 a w (.inl z)⟩ hv
  have e1 : (env.set i none).set i (some m') = env.set i (some m') := List.set_set ..
  rw [e1] at g3
  refine q u Z H' _ Tx ?_ g3 ⟨l2.rep, l2.al, l2.zf, fun a z w => (Rs.set_sub w).elim (fun w => d2 a w (.inr z)) (fun w => l2.dj a z w)⟩
  refine s0.trans (((s1.frame (U (S.set i fun _ => False))).from fun a z => ?_).weak fun a z => ?_)
  · rcases z with (z | z) | z
    · exact .inl ⟨i, z⟩
    · exact .inr z
    · exact .inl (Rs.wipe_le z)
  · rcases z with z | z
    · exact (Rs.set_sub z).elim .inr fun z => .inl (.inl z)
    · exact .inl (.inr z)
theorem xe_meth (i : Nat) (hK : G.K = X.K) (pa : PlainAttrs T) (slot : Slot T name id) (hty : typeOf (.builtin id) = pure (.type "method_descriptor")) (hm : MtR X id r) (hop : MMok G r op) (hT : ∀ {Z H m S v}, isT m = true → RepM G Z H m S v → tyV G.K T v H) (ha : PAs' G X W (e :: es) bk fs)
    (hN : X.N[i]? = some x := by rfl) (hv : Vis X.env.scope x := by first | exact Or.inl rfl | exact Or.inr (Or.inl rfl) | exact Or.inr (Or.inr rfl)) (hd : (x == ("__debug__" : Str)) = false := by decide) (hcd : (x == ("__classdict__" : Str)) = false := by decide)
    (hbase : attributeBase (.Name x p) name X.env (eval (.Name x p) X.env) = eval (.Name x p) X.env := by rfl)
    (hfew : ((backTo cpos (starEach (e :: es) X.env)).all (fun x => !x.1) && (backToKw cpos (keywordEach [] X.env)).all (fun x => x.1.isSome)
      && decide ((e :: es).length + ([] : List Keyword).length + (if ([] : List Keyword).isEmpty then 0 else 1) < 30)) = true := by rfl)
    (hline : (apos.endLine == cpos.line) = true := by rfl) (hs : starEach (e :: es) X.env = (false, eval e X.env) :: starEach es X.env := by rfl) (hplain : (backTo cpos (starEach es X.env)).any (·.1) = false := by rfl) :
    PEs G X W (.Call (.Attribute (.Name x p) name apos) (e :: es) [] cpos) (sMeth isT i op fs) := by
  obtain ⟨t, pt, ha⟩ := ha.ex
  refine ⟨_, pe_bm pa slot hty hm (pe_var hN hv hd hcd) pt hbase hfew hline hs hplain, SEok.mk' fun Z H σ env S Q gd q => ?_⟩
  unfold sMeth at q
  rcases getE_cases env i with ⟨m0, e0⟩ | e0
  case inr => rw [e0] at q; exact q.elim
  rw [e0] at q
  simp only at q
  by_cases ht : isT m0 = true
  case neg => rw [if_neg ht] at q; exact q.elim
  rw [if_pos ht] at q
  obtain ⟨v, hv0, rv⟩ := gd.rep _ _ (getE_ok e0)
  have h1 := ha Z H σ env S (fun xs H2 => r v xs H2 Q) gd
  refine ⟨v, hv0, ?_⟩
  rw [← hK]
  refine ⟨hT ht rv, ?_⟩
  cases e1 : fs env with
  | bad => rw [e1] at q; exact q.elim
  | exc x e' => rw [e1] at q h1; exact h1 q
  | ok pr =>
    obtain ⟨ms, env1⟩ := pr
    rw [e1] at q h1
    simp only at q h1
    rcases getE_cases env1 i with ⟨m, e2⟩ | e2
    case inr => rw [e2] at q; exact q.elim
    rw [e2] at q
    simp only at q
    cases e3 : op m ms with
    | bad => rw [e3] at q; exact q.elim
    | exc x e' => rw [e3] at q; exact q.elim
    | ok pr =>
      obtain ⟨y, m'⟩ := pr
      rw [e3] at q
      exact h1 fun vs Z1 H1 S1 Ts s1 g1 row d kk => meth_end hop s1 g1 row d e2 e3 q v hv0
theorem xe_meth0 (i : Nat) (hK : G.K = X.K) (pa : PlainAttrs T) (slot : Slot T name id) (hty : typeOf (.builtin id) = pure (.type "method_descriptor")) (hm : MtR X id r) (hop : MMok G r op) (hT : ∀ {Z H m S v}, isT m = true → RepM G Z H m S v → tyV G.K T v H)
    (hN : X.N[i]? = some x := by rfl) (hv : Vis X.env.scope x := by first | exact Or.inl rfl | exact Or.inr (Or.inl rfl) | exact Or.inr (Or.inr rfl)) (hd : (x == ("__debug__" : Str)) = false := by decide) (hcd : (x == ("__classdict__" : Str)) = false := by decide)
    (hbase : attributeBase (.Name x p) name X.env (eval (.Name x p) X.env) = eval (.Name x p) X.env := by rfl) (hline : (apos.endLine == cpos.line) = true := by rfl) :
    PEs G X W (.Call (.Attribute (.Name x p) name apos) [] [] cpos) (sMeth isT i op saNil) := by
  refine ⟨_, pe_bm0 pa slot hty hm (pe_var hN hv hd hcd) hbase hline, SEok.mk' fun Z H σ env S Q gd q => ?_⟩
  unfold sMeth at q
  rcases getE_cases env i with ⟨m0, e0⟩ | e0
  case inr => rw [e0] at q; exact q.elim
  rw [e0] at q
  simp only at q
  by_cases ht : isT m0 = true
  case neg => rw [if_neg ht] at q; exact q.elim
  rw [if_pos ht] at q
  obtain ⟨v, hv0, rv⟩ := gd.rep _ _ (getE_ok e0)
  refine ⟨v, hv0, ?_⟩
  rw [← hK]
  refine ⟨hT ht rv, ?_⟩
  simp only [saNil, e0] at q
  cases e3 : op m0 [] with
  | bad => rw [e3] at q; exact q.elim
  | exc x e' => rw [e3] at q; exact q.elim
  | ok pr =>
    obtain ⟨y, m'⟩ := pr
    rw [e3] at q
    exact meth_end (ms := []) (vs := []) (Ts := fun _ _ => False) hop ((Stp.refl gd.zh).weak fun a z => z.elim (fun z => z) fun ⟨_, z⟩ => z.elim) gd ⟨gd.zh, fun i m e => by simp at e, fun i j a h => h.elim, fun i a h => h.elim, fun i a h => h.elim, rfl⟩ (fun a ⟨_, z⟩ => z.elim) e0 e3 q v hv0
end

/-! ### the methods -/
def mAppend : MM := fun m ms => match m, ms with
  | .lst xs, [y] => if xs.length < sizeLine then .ok (.d .non, .lst (xs ++ [y])) else .bad
  | _, _ => .bad
def mExtend : MM := fun m ms => match m, ms with
  | .lst xs, [y] => match lstItems y with
    | some ys => if xs.length + ys.length ≤ sizeLine then .ok (.d .non, .lst (xs ++ ys)) else .bad
    | none => .bad
  | _, _ => .bad
def mPop : MM := fun m ms => match m, ms with
  | .lst xs, [] => match xs.getLast? with
    | some y => .ok (y, .lst xs.dropLast)
    | none => .bad
  | _, _ => .bad
def mClear : MM := fun m ms => match m, ms with
  | .lst _, [] => .ok (.d .non, .lst [])
  | _, _ => .bad
def mInsert : MM := fun m ms => match m, ms with
  | .lst xs, [.d (.int i), y] => if xs.length < sizeLine ∧ 0 ≤ i ∧ i < 2 ^ 63 then .ok (.d .non, .lst (xs.take i.toNat ++ [y] ++ xs.drop i.toNat)) else .bad
  | _, _ => .bad
section
variable {G : Gx}
theorem lst_own {Z H : Hp} {xs : List M} {T : Rg} {v : V} (l : Hld G Z H (fun _ => False) (.lst xs) T v) : ∃ a vs T0, v = .ref a ∧ T a ∧ ¬ T0 a ∧ (∀ b, T0 b → T b) ∧ H a = some (.lst vs) ∧ RepMs G Z H xs T0 vs ∧ Z a = none := by
  have r := l.rep
  simp only [RepM] at r
  obtain ⟨a, vs, T0, rfl, sa, nt, ts, h, rr⟩ := r
  exact ⟨a, vs, T0, rfl, sa, nt, ts, h, rr, l.zf a sa⟩
/-- the list at a becomes ms, made of parts of what there was -/
theorem lst_become {Z H : Hp} {ms : List M} {vs : List V} {T Ts T1 : Rg} {a : Addr} (zh : Same Z H) (sa : T a) (za : Z a = none) (nT : ¬ T1 a) (r : RepMs G Z H ms T1 vs) (sub : ∀ b, T1 b → T b ∨ Ts b) (al : ∀ b, T b → H b ≠ none) (al2 : ∀ b, Ts b → H b ≠ none) (zf : ∀ b, T b → Z b = none) (zf2 : ∀ b, Ts b → Z b = none) {Tx : Rg} (sx : ∀ b, Tx b → T b ∨ Ts b) :
    Stp Z H (fun b => T b ∨ Ts b) Z (upd H a (.lst vs)) (fun b => (T1 b ∨ b = a) ∨ Tx b) ∧ Hld G Z (upd H a (.lst vs)) (fun _ => False) (.lst ms) (fun b => T1 b ∨ b = a) (.ref a) := by
  refine ⟨(Stp.upd zh (.inl sa) za).weak fun b z => ?_, lst_set nT r, fun b z => ?_, fun b z => ?_, fun _ _ z => z⟩
  · rcases z with (z | rfl) | z
    · exact sub b z
    · exact .inl sa
    · exact sx b z
  · rcases z with z | rfl
    · exact upd_al ((sub b z).elim (al b) (al2 b))
    · exact upd_al'
  · rcases z with z | rfl
    · exact (sub b z).elim (zf b) (zf2 b)
    · exact za
theorem mm_append : MMok G rAppend mAppend := fun Z H m T v ms Ts vs Q zh l r al zf dj => by
  unfold mAppend
  split
  · rename_i e
    intro q
    split at e
    · rename_i xs y
      split at e
      · rename_i hl
        cases e
        obtain ⟨a, us, T0, rfl, sa, nt, ts, h, rr, za⟩ := lst_own l
        simp only [RepMs] at r
        obtain ⟨v1, vr, A, B, rfl, ta, tb, dd, ry, rn⟩ := r
        subst rn
        have r2 : RepMs G Z H (xs ++ [y]) (fun b => T0 b ∨ A b) (us ++ [v1]) := RepMs.app rr (RepMs.one ry) (fun _ z => .inl z) (fun _ z => .inr z) (fun b z w => dj b (ta b w) (ts b z))
        refine ⟨a, us, v1, rfl, rfl, h, by rw [← rr.len]; exact hl, ?_⟩
        obtain ⟨s, l2⟩ := lst_become (Ts := Ts) (Tx := fun _ => False) zh sa za (fun z => z.elim nt fun z => dj a (ta a z) sa) r2 (fun b z => z.elim (fun z => .inl (ts b z)) fun z => .inr (ta b z)) l.al al l.zf zf (fun _ z => z.elim)
        exact q .non _ _ (fun _ => False) s l2 (Hld.data (by simp [RepD]))
      · cases e
    · cases e
  · trivial
theorem mm_extend : MMok G rExtend mExtend := fun Z H m T v ms Ts vs Q zh l r al zf dj => by
  unfold mExtend
  split
  · rename_i e
    intro q
    split at e
    · rename_i xs y
      split at e
      · rename_i ys ey
        split at e
        · rename_i hl
          cases e
          obtain ⟨a, us, T0, rfl, sa, nt, ts, h, rr, za⟩ := lst_own l
          simp only [RepMs] at r
          obtain ⟨v1, vr, A, B, rfl, ta, tb, dd, ry, rn⟩ := r
          subst rn
          obtain ⟨b, ws, rfl, hb, r3⟩ := lstItems_rep zh ry ey
          have r2 : RepMs G Z H (xs ++ ys) (fun b => T0 b ∨ A b) (us ++ ws) := RepMs.app rr r3 (fun _ z => .inl z) (fun _ z => .inr z) (fun b z w => dj b (ta b w) (ts b z))
          refine ⟨a, b, us, ws, rfl, rfl, h, hb, by rw [← rr.len, ← r3.len]; exact hl, ?_⟩
          obtain ⟨s, l2⟩ := lst_become (Ts := Ts) (Tx := fun _ => False) zh sa za (fun z => z.elim nt fun z => dj a (ta a z) sa) r2 (fun b z => z.elim (fun z => .inl (ts b z)) fun z => .inr (ta b z)) l.al al l.zf zf (fun _ z => z.elim)
          exact q .non _ _ (fun _ => False) s l2 (Hld.data (by simp [RepD]))
        · cases e
      · cases e
    · cases e
  · trivial
theorem mm_clear : MMok G rClear mClear := fun Z H m T v ms Ts vs Q zh l r al zf dj => by
  unfold mClear
  split
  · rename_i e
    intro q
    split at e
    · rename_i xs
      cases e
      obtain ⟨a, us, T0, rfl, sa, nt, ts, h, rr, za⟩ := lst_own l
      simp only [RepMs] at r
      subst r
      refine ⟨a, us, rfl, rfl, h, ?_⟩
      obtain ⟨s, l2⟩ := lst_become (ms := []) (vs := []) (T1 := fun _ => False) (Ts := Ts) (Tx := fun _ => False) zh sa za (fun z => z) (by simp [RepMs]) (fun b z => z.elim) l.al al l.zf zf (fun _ z => z.elim)
      exact q .non _ _ (fun _ => False) s l2 (Hld.data (by simp [RepD]))
    · cases e
  · trivial
theorem mm_pop : MMok G rPop mPop := fun Z H m T v ms Ts vs Q zh l r al zf dj => by
  unfold mPop
  split
  · rename_i e
    intro q
    split at e
    · rename_i xs
      split at e
      · rename_i y ey
        cases e
        obtain ⟨a, us, T0, rfl, sa, nt, ts, h, rr, za⟩ := lst_own l
        simp only [RepMs] at r
        subst r
        obtain ⟨ys, rfl⟩ := List.getLast?_eq_some_iff.mp ey
        rw [List.dropLast_concat] at q
        obtain ⟨T1, T2, u1, w1, rfl, t1, t2, d12, r1, r2⟩ := rr.split
        simp only [RepMs] at r2
        obtain ⟨v1, vr, A, B, rfl, ta, tb, dd, ry, rn⟩ := r2
        subst rn
        refine ⟨a, u1 ++ [v1], v1, rfl, rfl, h, by simp, ?_⟩
        rw [List.dropLast_concat]
        obtain ⟨s, l2⟩ := lst_become (Ts := Ts) (Tx := A) zh sa za (fun z => nt (t1 a z)) r1 (fun b z => .inl (ts b (t1 b z))) l.al al l.zf zf (fun b z => .inl (ts b (t2 b (ta b z))))
        refine q v1 _ _ A s l2 ⟨RepM.mono (Same.refl _) _ _ _ _ (fun _ z => z) (fun b o sb e => by rw [upd_ne (fun z => nt (by rw [← z]; exact t2 b (ta b sb)))]; exact e) ry, fun b z => upd_al (l.al b (ts b (t2 b (ta b z)))), fun b z => l.zf b (ts b (t2 b (ta b z))), fun b z w => ?_⟩
        rcases w with w | rfl
        · exact d12 b w (ta b z)
        · exact nt (t2 b (ta b z))
      · cases e
    · cases e
  · trivial
def rInsert : V → List V → Hp → VK → Prop := fun x vs H Q => ∃ (l : Addr) (xs : List V) (i : Int) (y : V), x = .ref l ∧ vs = [.int i, y] ∧ H l = some (.lst xs) ∧ xs.length < sizeLine ∧ 0 ≤ i ∧ i < 2 ^ 63 ∧
    Q .non (upd H l (.lst (xs.take i.toNat ++ [y] ++ xs.drop i.toNat)))
theorem RepMs.takeDrop {Z H : Hp} {xs : List M} {T : Rg} {vs : List V} (n : Nat) (r : RepMs G Z H xs T vs) : ∃ T1 T2, (∀ b, T1 b → T b) ∧ (∀ b, T2 b → T b) ∧ (∀ b, T1 b → ¬ T2 b) ∧ RepMs G Z H (xs.take n) T1 (vs.take n) ∧ RepMs G Z H (xs.drop n) T2 (vs.drop n) := by
  have hr := r
  rw [← List.take_append_drop n xs] at hr
  obtain ⟨T1, T2, us, ws, e, t1, t2, d, r1, r2⟩ := hr.split
  have l1 := r1.len
  have l0 := r.len
  have e1 : us = vs.take n := by
    rw [e]
    rw [List.length_take] at l1
    rcases Nat.le_total n xs.length with h | h
    · rw [Nat.min_eq_left h] at l1
      rw [l1, List.take_left]
    · have l2 := r2.len
      rw [List.drop_eq_nil_of_le h] at l2
      have : ws = [] := List.length_eq_zero_iff.mp l2.symm
      subst this
      rw [List.append_nil, List.take_of_length_le (by omega)]
  have e2 : ws = vs.drop n := by
    rw [e]
    rw [List.length_take] at l1
    rcases Nat.le_total n xs.length with h | h
    · rw [Nat.min_eq_left h] at l1
      rw [l1, List.drop_left]
    · have l2 := r2.len
      rw [List.drop_eq_nil_of_le h] at l2
      have : ws = [] := List.length_eq_zero_iff.mp l2.symm
      subst this
      rw [List.append_nil, List.drop_eq_nil_of_le (by omega)]
  subst e1 e2
  exact ⟨T1, T2, t1, t2, d, r1, r2⟩
theorem mm_insert : MMok G rInsert mInsert := fun Z H m T v ms Ts vs Q zh l r al zf dj => by
  unfold mInsert
  split
  · rename_i e
    intro q
    split at e
    · rename_i xs i y
      split at e
      · rename_i hl
        cases e
        obtain ⟨a, us, T0, rfl, sa, nt, ts, h, rr, za⟩ := lst_own l
        simp only [RepMs] at r
        obtain ⟨v0, vr, A0, B0, rfl, ta0, tb0, dd0, ri, v1, vr1, A, B, rfl, ta, tb, dd, ry, rn⟩ := r
        subst rn
        have := rep_int ri
        subst this
        obtain ⟨T1, T2, t1, t2, d12, r1, r2⟩ := rr.takeDrop i.toNat
        have ry' : ∀ b, A b → ¬ T0 b := fun b z w => dj b (tb0 b (ta b z)) (ts b w)
        have r3 : RepMs G Z H (xs.take i.toNat ++ [y] ++ xs.drop i.toNat) (fun b => (T1 b ∨ A b) ∨ T2 b) (us.take i.toNat ++ [v1] ++ us.drop i.toNat) :=
          RepMs.app (RepMs.app r1 (RepMs.one ry) (S := fun b => T1 b ∨ A b) (fun _ z => .inl z) (fun _ z => .inr z) (fun b z w => ry' b w (t1 b z))) r2 (fun _ z => .inl z) (fun _ z => .inr z) (fun b z w => z.elim (fun z => d12 b z w) fun z => ry' b z (t2 b w))
        refine ⟨a, us, i, v1, rfl, rfl, h, by rw [← rr.len]; exact hl.1, hl.2.1, hl.2.2, ?_⟩
        obtain ⟨s, l2⟩ := lst_become (Ts := Ts) (Tx := fun _ => False) zh sa za (fun z => by
          rcases z with (z | z) | z
          · exact nt (t1 a z)
          · exact dj a (tb0 a (ta a z)) sa
          · exact nt (t2 a z)) r3 (fun b z => by
          rcases z with (z | z) | z
          · exact .inl (ts b (t1 b z))
          · exact .inr (tb0 b (ta b z))
          · exact .inl (ts b (t2 b z))) l.al al l.zf zf (fun _ z => z.elim)
        exact q .non _ _ (fun _ => False) s l2 (Hld.data (by simp [RepD]))
      · cases e
    · cases e
  · trivial
end
end FL

set_option maxHeartbeats 2000000
/-! FLP: texts' methods, zip, enumerate, reversed, list(..), tuple(..), xs[i] = e. -/
namespace FL
open PySem L2 Classical

/-! ### a text times a number -/
abbrev MulC (a : Str) (n : Int) : Prop := -1000 ≤ n ∧ n ≤ 1000 ∧ a.length ≤ 1000
theorem MulC.ok {a : Str} {n : Int} (h : MulC a n) : PySem.MulOk a n := by
  obtain ⟨h1, h2, h3⟩ := h
  refine ⟨?_, fun h _ => ?_, fun h _ => ?_⟩
  · rw [decide_eq_false (by omega), decide_eq_false (by omega)]; rfl
  · have : (1000 : Int) ≤ (2 ^ 63 - 1) / n := by
      have h4 : 0 < n := by omega
      have h5 : (2 ^ 63 - 1 : Int) / n ≥ (2 ^ 63 - 1) / 1000 := by
        rw [ge_iff_le, Int.le_ediv_iff_mul_le h4]
        have : (2 ^ 63 - 1 : Int) / 1000 * n ≤ (2 ^ 63 - 1 : Int) / 1000 * 1000 := Int.mul_le_mul_of_nonneg_left h2 (by decide)
        omega
      omega
    omega
  · unfold Builtin.Str.tooLong
    refine decide_eq_false ?_
    have h5 : a.length * n.toNat ≤ 1000 * 1000 := Nat.mul_le_mul h3 (by omega)
    have := sizeLine_eq
    omega
def oMulS : DOp := fun m1 m2 => match m1, m2 with
  | .d (.str a), .d (.int n) => if MulC a n then .ok (.str (PySem.Txt.mul a n)) else .bad
  | _, _ => .bad
def rMulS : R2 := fun x y H Q => ∃ a n, x = .str a ∧ y = .int n ∧ PySem.MulOk a n ∧ Q (.str (PySem.Txt.mul a n)) H
section
variable {G : Gx} {X : Cx}
theorem opr_mulS : OpR X (binaryOp .Mult) rMulS := by
  intro pins s σ H x y v u Q I rx ry h
  obtain ⟨a, n, rfl, rfl, hc, q⟩ := h
  obtain ⟨t, rfl⟩ := rx
  obtain ⟨t', rfl⟩ := ry
  exact PySem.SB.mul hc fun t'' k => ⟨.str _, H, I.tok _, ⟨_, rfl⟩, q⟩
theorem vop_mulS : VOP G rMulS oMulS := fun Z H m1 T1 v1 m2 T2 v2 Q zh r1 r2 => by
  unfold oMulS
  split
  · rename_i e
    intro q
    split at e
    · rename_i a n
      split at e
      · rename_i hc
        cases e
        have := rep_str r1
        have := rep_int r2
        subst_vars
        exact ⟨a, n, rfl, rfl, hc.ok, q _ strD⟩
      · cases e
    · cases e
  · trivial
end

/-! ### methods of texts -/
def BMO (G : Gx) (r : V → List V → Hp → VK → Prop) (op : LOp) : Prop := ∀ (Z H : Hp) (a : Str) (ms : List M) (vs : List V) (Q : VK), Same Z H → RepVs G Z H ms vs →
  match op (.d (.str a) :: ms) with
  | .ok x => (∀ u, RepD G Z x u → Q u H) → r (.str a) vs H Q
  | _ => True
def vSm (op : LOp) (g : VE) (f : VA) : VE := fun env => match g env, f env with
  | .ok (.d (.str a)), .ok ms => match op (.d (.str a) :: ms) with
    | .ok x => .ok (.d x)
    | _ => .bad
  | _, _ => .bad
def sSm (op : LOp) (f : SE) (fs : SA) : SE := fun env => match f env with
  | .ok (.d (.str a), e1) => match fs e1 with
    | .ok (ms, e2) => match op (.d (.str a) :: ms) with
      | .ok x => .ok (.d x, e2)
      | _ => .bad
    | .exc x e => .exc x e
    | .bad => .bad
  | .exc x e => .exc x e
  | _ => .bad
section
variable {G : Gx} {X : Cx} {W : WX'} {o e : Expr} {es : List Expr} {g : VE} {f : VA} {fo : SE} {fs : SA} {bk : Bk} {op : LOp} {r : V → List V → Hp → VK → Prop} {name : Str} {id : String} {apos cpos : Pos}
theorem xv_sm (slot : Slot "str" name id) (hty : typeOf (.builtin id) = pure (.type "method_descriptor")) (hm : MtR X id r) (hb : BMO G r op) (ho : PVs G X o g) (ha : PVAs G X (e :: es) f)
    (hbase : attributeBase o name X.env (eval o X.env) = eval o X.env := by rfl)
    (hfew : ((backTo cpos (starEach (e :: es) X.env)).all (fun x => !x.1) && (backToKw cpos (keywordEach [] X.env)).all (fun x => x.1.isSome)
      && decide ((e :: es).length + ([] : List Keyword).length + (if ([] : List Keyword).isEmpty then 0 else 1) < 30)) = true := by rfl)
    (hline : (apos.endLine == cpos.line) = true := by rfl) (hs : starEach (e :: es) X.env = (false, eval e X.env) :: starEach es X.env := by rfl) (hplain : (backTo cpos (starEach es X.env)).any (·.1) = false := by rfl) :
    PVs G X (.Call (.Attribute o name apos) (e :: es) [] cpos) (vSm op g f) := by
  obtain ⟨to, po, ho⟩ := ho.ex
  obtain ⟨t, pt, ha⟩ := ha.ex
  refine ⟨_, pe_bm F.plainAttrs_str slot hty hm po pt hbase hfew hline hs hplain, fun Z H σ env S Q gd => ?_⟩
  unfold vSm
  have h1 := ho Z H σ env S (fun x H1 => tyV X.K "str" x H1 ∧ t σ H1 fun xs H2 => r x xs H2 Q) gd
  split
  · rename_i m e2
    intro q
    split at e2
    · rename_i a ms e3 e4
      split at e2
      · rename_i x e5
        cases e2
        rw [e3] at h1
        refine h1 fun v T _ rv => ?_
        have := rep_str rv
        subst this
        refine ⟨rfl, ?_⟩
        have h2 := ha Z H σ env S (fun xs H2 => r (.str a) xs H2 Q) gd
        rw [e4] at h2
        refine h2 fun vs rs => ?_
        have h3 := hb Z H a ms vs Q gd.zh rs
        rw [e5] at h3
        exact h3 fun u ru => q u (fun _ => False) (fun _ z => z.elim) ru.toM
      · cases e2
    · cases e2
  · trivial
theorem xe_sm (slot : Slot "str" name id) (hty : typeOf (.builtin id) = pure (.type "method_descriptor")) (hm : MtR X id r) (hb : BMO G r op) (ho : PEs G X W o fo) (ha : PAs' G X W (e :: es) bk fs)
    (hbase : attributeBase o name X.env (eval o X.env) = eval o X.env := by rfl)
    (hfew : ((backTo cpos (starEach (e :: es) X.env)).all (fun x => !x.1) && (backToKw cpos (keywordEach [] X.env)).all (fun x => x.1.isSome)
      && decide ((e :: es).length + ([] : List Keyword).length + (if ([] : List Keyword).isEmpty then 0 else 1) < 30)) = true := by rfl)
    (hline : (apos.endLine == cpos.line) = true := by rfl) (hs : starEach (e :: es) X.env = (false, eval e X.env) :: starEach es X.env := by rfl) (hplain : (backTo cpos (starEach es X.env)).any (·.1) = false := by rfl) :
    PEs G X W (.Call (.Attribute o name apos) (e :: es) [] cpos) (sSm op fo fs) := by
  obtain ⟨to, po, ho⟩ := ho.ex
  obtain ⟨t, pt, ha⟩ := ha.ex
  refine ⟨_, pe_bm F.plainAttrs_str slot hty hm po pt hbase hfew hline hs hplain, SEok.mk' fun Z H σ env S Q gd q => ?_⟩
  unfold sSm at q
  refine ho.use gd ?_
  cases e1 : fo env with
  | bad => rw [e1] at q; exact q.elim
  | exc x e' => rw [e1] at q; exact q
  | ok p =>
    obtain ⟨m, env1⟩ := p
    rw [e1] at q
    cases m with
    | d x =>
      cases x with
      | str a =>
        simp only at q
        intro v Z1 H1 S1 T1 s1 g1 l1
        have := rep_str l1.rep
        subst this
        refine ⟨rfl, ?_⟩
        have s1' : Stp Z H (U S) Z1 H1 (U S1) := s1.weak fun _ z => .inl z
        have h2 := ha Z1 H1 σ env1 S1 (fun xs H2 => r (.str a) xs H2 Q) g1
        cases e2 : fs env1 with
        | bad => rw [e2] at q; exact q.elim
        | exc x e' => rw [e2] at q h2; exact h2 fun cls d Z' H' S' hx s' g' => q cls d Z' H' S' hx (s1'.trans s') g'
        | ok p =>
          obtain ⟨ms, env2⟩ := p
          rw [e2] at q h2
          simp only at q
          refine h2 fun vs Z2 H2 S2 Ts s2 g2 row d kk => ?_
          have h3 := hb Z2 H2 a ms vs Q g2.zh row.row.vs
          cases e5 : op (.d (.str a) :: ms) with
          | ok x =>
            rw [e5] at q h3
            exact h3 fun u ru => q u Z2 H2 S2 (fun _ => False) ((s1'.trans s2).weak fun _ z => .inl (z.elim (fun z => z) fun z => z.elim)) g2 (Hld.data ru)
          | exc _ _ => rw [e5] at q; exact q.elim
          | bad => rw [e5] at q; exact q.elim
      | _ => exact q.elim
    | _ => exact q.elim
end
def bZfill : LOp
  | [.d (.str a), .d (.int i)] => if PadOk i = true then .ok (.str (Txt.zfill a i)) else .bad
  | _ => .bad
theorem bmo_zfill {G : Gx} : BMO G (fun x xs H Q => ∃ (a : Str) (i : Int), x = .str a ∧ xs = [.int i] ∧ PadOk i = true ∧ Q (.str (Txt.zfill a i)) H) bZfill := fun Z H a ms vs Q zh r => by
  unfold bZfill
  split
  · rename_i e
    intro q
    split at e
    · rename_i a' i ee
      injection ee with e1 e2
      injection e1 with e1
      injection e1 with e1
      subst e1 e2
      split at e
      · rename_i hp
        cases e
        cases r with
        | cons h t =>
          cases t
          obtain ⟨T, h⟩ := h
          rw [rep_int h]
          exact ⟨_, i, rfl, rfl, hp, q _ strD⟩
      · cases e
    · cases e
  · trivial

/-! ### what is handed in is frozen -/
theorem row_frozen {G : Gx} {Z H : Hp} {σ : St} {env : Env} {S T : Rs} {ms : List M} {vs : List V} (g : Good G Z H σ env S) (row : Good G Z H (vs.map some) (ms.map some) T) (d : ∀ a, U T a → ¬ U S a) :
    RepDs G (Fzp Z H (U T)) (fzs ms) vs ∧ Good G (Fzp Z H (U T)) H σ env S ∧ Stp Z H (fun a => U S a ∨ U T a) (Fzp Z H (U T)) H (U S) := by
  have sT : Stp Z H (U T) (Fzp Z H (U T)) H (fun _ => False) := ⟨frz_old g.zh, frz_sub g.zh, fun _ _ e _ => e, fun _ z => z.elim, fun a z => by
    by_cases ta : U T a
    · exact .inr (.inl ta)
    · rw [frz_out ta] at z; exact .inl z⟩
  refine ⟨RepMs.frz (frz_old g.zh) _ _ _ (fun a o sa e => by rw [frz_in sa]; exact e) row.row, (g.move sT fun a z w => d a w z).1, ((sT.frame (U S)).from fun a z => z.elim .inr .inl).weak fun a z => .inr z⟩
/-- the items of a list or a tuple -/
def itemsLT : D → Option (Bool × List D)
  | .lst xs => some (false, xs)
  | .scr xs => some (false, xs)
  | .tup xs => some (true, xs)
  | _ => none
theorem itemsLT_rep {G : Gx} {Z H : Hp} {x : D} {v : V} {b : Bool} {xs : List D} (zh : Same Z H) (r : RepD G Z x v) (e : itemsLT x = some (b, xs)) : ∃ a vs, v = .ref a ∧ (b = true → SqT G.K Z a vs) ∧ (b = false → SqL G.K Z a vs) ∧ RepDs G Z xs vs := by
  cases x with
  | lst ys => simp only [itemsLT] at e; cases e; simp only [RepD] at r; obtain ⟨a, vs, rfl, h, rr⟩ := r; exact ⟨a, vs, rfl, fun z => (nomatch z), fun _ => SqL.of h, rr⟩
  | scr ys => simp only [itemsLT] at e; cases e; simp only [RepD] at r; obtain ⟨a, vs, rfl, h, rr⟩ := r; exact ⟨a, vs, rfl, fun z => (nomatch z), fun _ => h, rr⟩
  | tup ys => simp only [itemsLT] at e; cases e; simp only [RepD] at r; obtain ⟨a, vs, rfl, h, rr⟩ := r; exact ⟨a, vs, rfl, fun _ => h, fun z => (nomatch z), rr⟩
  | _ => simp [itemsLT] at e

/-! ### zip, enumerate, reversed -/
def pairD (x y : D) : D := .tup [x, y]
def siZip (fs : SA) : SI := fun env => match fs env with
  | .ok ([m1, m2], e) => match itemsLT (fz m1), itemsLT (fz m2) with
    | some (b1, xs), some (b2, ys) => if b1 = b2 then .ok (List.zipWith pairD xs ys, e) else .bad
    | _, _ => .bad
  | .exc x e => .exc x e
  | _ => .bad
theorem zw_get {α β γ : Type} {f : α → β → γ} : ∀ {xs : List α} {ys : List β} {i : Nat} {d : γ}, (List.zipWith f xs ys)[i]? = some d → ∃ x y, xs[i]? = some x ∧ ys[i]? = some y ∧ d = f x y
  | [], _, i, d, e => by simp at e
  | _ :: _, [], i, d, e => by simp at e
  | x :: xs, y :: ys, 0, d, e => by simp at e; exact ⟨x, y, rfl, rfl, e.symm⟩
  | x :: xs, y :: ys, i + 1, d, e => by
    simp at e
    obtain ⟨a, b, h1, h2, h3⟩ := zw_get (f := f) (xs := xs) (ys := ys) (i := i) (d := d) (by simpa using e)
    exact ⟨a, b, by simpa using h1, by simpa using h2, h3⟩
theorem yields_zip {G : Gx} {Z : Hp} {a b : Addr} {vs ws : List V} {xs ys : List D} (q : ∀ Z1 H1, Same Z Z1 → Same Z1 H1 → SqL G.K H1 a vs) (q2 : ∀ Z1 H1, Same Z Z1 → Same Z1 H1 → SqL G.K H1 b ws) (r : RepDs G Z xs vs) (r2 : RepDs G Z ys ws) :
    Yields G (fun Z1 _ _ => Same Z Z1) (Itz G.K a b) (List.zipWith pairD xs ys) where
  stay := fun Z1 H1 R Z2 H2 R2 h s => h.trans s.z
  stop := fun Z1 H1 R i h zh hl => ⟨vs, ws, q Z1 H1 h zh, q2 Z1 H1 h zh, by
    rw [List.length_zipWith] at hl
    rw [← r.len, ← r2.len]
    omega⟩
  item := fun Z1 H1 R i d h zh e => by
    obtain ⟨x, y, ex, ey, rfl⟩ := zw_get e
    obtain ⟨v, hv, rv⟩ := r.get ex
    obtain ⟨w, hw, rw'⟩ := r2.get ey
    refine ⟨⟨vs, ws, v, w, q Z1 H1 h zh, q2 Z1 H1 h zh, hv, hw⟩, fun u H' hy => ?_⟩
    obtain ⟨T, v', w', rfl, hT, rfl, k1, k2⟩ := hy
    have e1 := k1 vs (q Z1 H1 h zh)
    have e2 := k2 ws (q2 Z1 H1 h zh)
    rw [hv] at e1; cases e1
    rw [hw] at e2; cases e2
    have st := Stp.newZ (o := .tup [v, w]) zh hT (fun _ => False)
    refine ⟨_, st, ?_⟩
    simp only [pairD, RepD, RepDs]
    exact ⟨T, [v, w], rfl, SqT.of upd_same, v, [w], rfl, RepD.mono (h.trans st.z) _ _ rv, w, [], rfl, RepD.mono (h.trans st.z) _ _ rw', rfl⟩
theorem yields_zipT {G : Gx} {Z : Hp} {a b : Addr} {vs ws : List V} {xs ys : List D} (q : ∀ Z1 H1, Same Z Z1 → Same Z1 H1 → SqT G.K H1 a vs) (q2 : ∀ Z1 H1, Same Z Z1 → Same Z1 H1 → SqT G.K H1 b ws) (r : RepDs G Z xs vs) (r2 : RepDs G Z ys ws) :
    Yields G (fun Z1 _ _ => Same Z Z1) (RZ.ItzT G.K a b) (List.zipWith pairD xs ys) where
  stay := fun Z1 H1 R Z2 H2 R2 h s => h.trans s.z
  stop := fun Z1 H1 R i h zh hl => ⟨vs, ws, q Z1 H1 h zh, q2 Z1 H1 h zh, by
    rw [List.length_zipWith] at hl
    rw [← r.len, ← r2.len]
    omega⟩
  item := fun Z1 H1 R i d h zh e => by
    obtain ⟨x, y, ex, ey, rfl⟩ := zw_get e
    obtain ⟨v, hv, rv⟩ := r.get ex
    obtain ⟨w, hw, rw'⟩ := r2.get ey
    refine ⟨⟨vs, ws, v, w, q Z1 H1 h zh, q2 Z1 H1 h zh, hv, hw⟩, fun u H' hy => ?_⟩
    obtain ⟨T, v', w', rfl, hT, rfl, k1, k2⟩ := hy
    have e1 := k1 vs (q Z1 H1 h zh)
    have e2 := k2 ws (q2 Z1 H1 h zh)
    rw [hv] at e1; cases e1
    rw [hw] at e2; cases e2
    have st := Stp.newZ (o := .tup [v, w]) zh hT (fun _ => False)
    refine ⟨_, st, ?_⟩
    simp only [pairD, RepD, RepDs]
    exact ⟨T, [v, w], rfl, SqT.of upd_same, v, [w], rfl, RepD.mono (h.trans st.z) _ _ rv, w, [], rfl, RepD.mono (h.trans st.z) _ _ rw', rfl⟩

section
variable {G : Gx} {X : Cx} {W : WX'} {e e2 : Expr} {elts : List Expr} {kk : Nat} {tpos p pos : Pos} {fs : SA} {bk : Bk} {f : SE} {tg : Expr}
theorem xi_zip (hK : G.K = X.K) (hm : X.mg "zip" = none) (ha : PAs' G X W [e, e2] bk fs) (hg : Gl X "zip" := by rfl) (hs : starEach [e, e2] X.env = (false, eval e X.env) :: starEach [e2] X.env := by rfl) (hpl : (backTo pos (starEach [e2] X.env)).any (·.1) = false := by rfl) :
    PIs G X W (.Tuple elts kk tpos) (.Call (.Name "zip" p) [e, e2] [] pos) (siZip fs) := by
  obtain ⟨t, q, h⟩ := ha.ex
  have p1 : PI X (.Tuple elts kk tpos) (.Call (.Name "zip" p) [e, e2] [] pos) (RZ.iZipA G.K t) := by rw [hK]; exact RZ.pi_zipA hg hm q hs hpl
  refine ⟨_, p1, fun Z H σ env S R gd => ?_⟩
  unfold siZip
  have h1 := h Z H σ env S (fun vs H1 => ∃ a b xs ys, vs = [V.ref a, V.ref b] ∧ ((SqL G.K H1 a xs ∧ SqL G.K H1 b ys ∧ R (Itz G.K a b) H1) ∨ (SqT G.K H1 a xs ∧ SqT G.K H1 b ys ∧ R (RZ.ItzT G.K a b) H1))) gd
  cases e1 : fs env with
  | bad => trivial
  | exc x e' => rw [e1] at h1; exact h1
  | ok pr =>
    obtain ⟨ms, env1⟩ := pr
    rw [e1] at h1
    match ms with
    | [] => trivial
    | [_] => trivial
    | _ :: _ :: _ :: _ => trivial
    | [m1, m2] =>
      simp only
      cases e3 : itemsLT (fz m1) with
      | none => trivial
      | some q1 =>
        obtain ⟨b1, xs⟩ := q1
        cases e4 : itemsLT (fz m2) with
        | none => trivial
        | some q2 =>
          obtain ⟨b2, ys⟩ := q2
          simp only
          by_cases hb : b1 = b2
          case neg => rw [if_neg hb]; trivial
          rw [if_pos hb]
          subst hb
          intro k
          refine h1 fun vs Z' H' S' T s' g' row d kk => ?_
          obtain ⟨rd, g2, s2⟩ := row_frozen g' row d
          simp only [fzs, RepDs] at rd
          obtain ⟨v1, r1, rfl, q1, v2, r2, rfl, q2, rfl⟩ := rd
          obtain ⟨a, us, rfl, t1, l1, rr1⟩ := itemsLT_rep g2.zh q1 e3
          obtain ⟨b, ws, rfl, t2, l2, rr2⟩ := itemsLT_rep g2.zh q2 e4
          refine ⟨a, b, us, ws, rfl, ?_⟩
          cases b1 with
          | false => exact .inl ⟨g2.zh.seq (l1 rfl), g2.zh.seq (l2 rfl), k _ _ H' S' (s'.trans s2) g2 (yields_zip (fun Z1 H1 h1 h2 => h2.seq (h1.seq (l1 rfl))) (fun Z1 H1 h1 h2 => h2.seq (h1.seq (l2 rfl))) rr1 rr2)⟩
          | true => exact .inr ⟨Same.seqT g2.zh (t1 rfl), Same.seqT g2.zh (t2 rfl), k _ _ H' S' (s'.trans s2) g2 (yields_zipT (fun Z1 H1 h1 h2 => Same.seqT h2 (Same.seqT h1 (t1 rfl))) (fun Z1 H1 h1 h2 => Same.seqT h2 (Same.seqT h1 (t2 rfl))) rr1 rr2)⟩
def enumD : Nat → List D → List D
  | _, [] => []
  | n, x :: xs => .tup [.int (n : Int), x] :: enumD (n + 1) xs
theorem enum_len : ∀ (n : Nat) (xs : List D), (enumD n xs).length = xs.length
  | _, [] => rfl
  | n, x :: xs => by simp [enumD, enum_len (n + 1) xs]
theorem enum_get : ∀ {n : Nat} {xs : List D} {i : Nat} {d : D}, (enumD n xs)[i]? = some d → ∃ x, xs[i]? = some x ∧ d = .tup [.int ((n + i : Nat) : Int), x]
  | n, [], i, d, e => by simp [enumD] at e
  | n, x :: xs, 0, d, e => by simp [enumD] at e; exact ⟨x, rfl, e.symm⟩
  | n, x :: xs, i + 1, d, e => by
    obtain ⟨y, h1, h2⟩ := enum_get (n := n + 1) (xs := xs) (i := i) (d := d) (by simpa [enumD] using e)
    exact ⟨y, by simpa using h1, by rw [h2]; congr 3; omega⟩
def siEnum (fs : SA) : SI := fun env => match fs env with
  | .ok ([m], e) => match itemsLT (fz m) with
    | some (false, xs) => .ok (enumD 0 xs, e)
    | _ => .bad
  | .exc x e => .exc x e
  | _ => .bad
theorem xi_enum (hK : G.K = X.K) (hm : X.mg "enumerate" = none) (ha : PAs' G X W [e] bk fs) (hg : Gl X "enumerate" := by rfl) (hs : starEach [e] X.env = [(false, eval e X.env)] := by rfl) :
    PIs G X W (.Tuple elts kk tpos) (.Call (.Name "enumerate" p) [e] [] pos) (siEnum fs) := by
  obtain ⟨t, q, h⟩ := ha.ex
  have p1 : PI X (.Tuple elts kk tpos) (.Call (.Name "enumerate" p) [e] [] pos) (iEnum G.K t) := by rw [hK]; exact pi_enum hg hm q hs
  refine ⟨_, p1, fun Z H σ env S R gd => ?_⟩
  unfold siEnum
  have h1 := h Z H σ env S (fun vs H1 => ∃ a xs, vs = [V.ref a] ∧ SqL G.K H1 a xs ∧ R (Ite G.K a) H1) gd
  cases e1 : fs env with
  | bad => trivial
  | exc x e' => rw [e1] at h1; exact h1
  | ok pr =>
    obtain ⟨ms, env1⟩ := pr
    rw [e1] at h1
    match ms with
    | [] => trivial
    | _ :: _ :: _ => trivial
    | [m1] =>
      simp only
      cases e3 : itemsLT (fz m1) with
      | none => trivial
      | some q1 =>
        obtain ⟨b1, xs⟩ := q1
        cases b1 with
        | true => trivial
        | false =>
          intro k
          refine h1 fun vs Z' H' S' T s' g' row d kk => ?_
          obtain ⟨rd, g2, s2⟩ := row_frozen g' row d
          simp only [fzs, RepDs] at rd
          obtain ⟨v1, r1, rfl, q1, rfl⟩ := rd
          obtain ⟨a, us, rfl, t1, l1, rr1⟩ := itemsLT_rep g2.zh q1 e3
          refine ⟨a, us, rfl, g2.zh.seq (l1 rfl), k _ _ H' S' (s'.trans s2) g2 ⟨fun Z1 H1 R Z2 H2 R2 h s => h.trans s.z, fun Z1 H1 R i h zh hl => ⟨us, zh.seq (h.seq (l1 rfl)), by rw [enum_len] at hl; rw [← rr1.len]; exact hl⟩, fun Z1 H1 R i d h zh ee => ?_⟩⟩
          obtain ⟨y, ey, rfl⟩ := enum_get ee
          obtain ⟨v, hv, rv⟩ := rr1.get ey
          refine ⟨⟨us, v, zh.seq (h.seq (l1 rfl)), hv⟩, fun u H2 hy => ?_⟩
          obtain ⟨T, v', rfl, hT, rfl, k1⟩ := hy
          have e1 := k1 us (zh.seq (h.seq (l1 rfl)))
          rw [hv] at e1; cases e1
          have st := Stp.newZ (o := .tup [.int (i : Nat), v]) zh hT (fun _ => False)
          refine ⟨_, st, ?_⟩
          simp only [RepD, RepDs, Nat.zero_add]
          exact ⟨T, [.int (i : Nat), v], rfl, SqT.of upd_same, _, [v], rfl, rfl, v, [], rfl, RepD.mono (h.trans st.z) _ _ rv, rfl⟩
def siRev (f : SE) : SI := fun env => match f env with
  | .ok (m, e) => match itemsLT (fz m) with
    | some (_, xs) => .ok (xs.reverse, e)
    | none => .bad
  | .exc x e => .exc x e
  | .bad => .bad
theorem rev_get {α : Type} {xs : List α} {i : Nat} {d : α} (e : xs.reverse[i]? = some d) : i < xs.length ∧ xs[xs.length - 1 - i]? = some d := by
  have hi : i < xs.length := by
    have := (List.getElem?_eq_some_iff.mp e).1
    simpa using this
  rw [List.getElem?_reverse hi] at e
  exact ⟨hi, e⟩
theorem xi_rev (hK : G.K = X.K) (hm : X.mg "reversed" = none) (ha : PEs G X W e f) (hg : Gl X "reversed" := by rfl) (hs : starEach [e] X.env = (false, eval e X.env) :: starEach [] X.env := by rfl) :
    PIs G X W tg (.Call (.Name "reversed" p) [e] [] pos) (siRev f) := by
  obtain ⟨t, q, h⟩ := ha.ex
  have p1 : PI X tg (.Call (.Name "reversed" p) [e] [] pos) (RT.iRevA G.K t) := by rw [hK]; exact RT.pi_revA hg hm q hs
  refine ⟨_, p1, fun Z H σ env S R gd => ?_⟩
  unfold siRev
  cases e1 : f env with
  | bad => trivial
  | exc x e' => exact fun k => h.use gd (by rw [e1]; exact k)
  | ok pr =>
    obtain ⟨m, env1⟩ := pr
    simp only
    cases e3 : itemsLT (fz m) with
    | none => trivial
    | some q1 =>
      obtain ⟨b1, xs⟩ := q1
      intro k
      refine h.use gd ?_
      rw [e1]
      intro v Z' H' S' T s' g' l
      obtain ⟨rz, sz⟩ := l.frozen g'.zh
      have sT : Stp Z' H' T (Fzp Z' H' T) H' T := ⟨sz.z, sz.zh, fun _ _ e _ => e, fun _ z => .inl z, fun a z => by
        by_cases ta : T a
        · exact .inr (.inl ta)
        · rw [frz_out ta] at z; exact .inl z⟩
      have g2 := (g'.move sT fun a z w => l.dj a w z).1
      obtain ⟨a, us, rfl, t1, l1, rr⟩ := itemsLT_rep g2.zh rz e3
      refine ⟨a, us, rfl, ?_⟩
      cases b1 with
      | false =>
        refine .inl ⟨g2.zh.seq (l1 rfl), k _ _ H' S' (s'.trans (sz.weak fun _ z => z)) g2 ⟨fun Z1 H1 R Z2 H2 R2 h s => h.trans s.z, fun Z1 H1 R i h zh hl => by show us.length ≤ i; rw [← rr.len]; simpa using hl, fun Z1 H1 R i d h zh ee => ?_⟩⟩
        obtain ⟨hi, ed⟩ := rev_get ee
        obtain ⟨v, hv, rv⟩ := rr.get ed
        rw [rr.len] at hv hi
        refine ⟨⟨hi, us, v, zh.seq (h.seq (l1 rfl)), hv⟩, fun u H2 hy => ?_⟩
        obtain ⟨rfl, k1⟩ := hy
        have e1 := k1 us (zh.seq (h.seq (l1 rfl)))
        rw [hv] at e1; cases e1
        exact ⟨Z1, Stp.refl zh, RepD.mono h _ _ rv⟩
      | true =>
        refine .inr ⟨Same.seqT g2.zh (t1 rfl), k _ _ H' S' (s'.trans (sz.weak fun _ z => z)) g2 ⟨fun Z1 H1 R Z2 H2 R2 h s => h.trans s.z, fun Z1 H1 R i h zh hl => by show us.length ≤ i; rw [← rr.len]; simpa using hl, fun Z1 H1 R i d h zh ee => ?_⟩⟩
        obtain ⟨hi, ed⟩ := rev_get ee
        obtain ⟨v, hv, rv⟩ := rr.get ed
        rw [rr.len] at hv hi
        refine ⟨⟨hi, us, v, Same.seqT zh (Same.seqT h (t1 rfl)), hv⟩, fun u H2 hy => ?_⟩
        obtain ⟨rfl, k1⟩ := hy
        have e1 := k1 us (Same.seqT zh (Same.seqT h (t1 rfl)))
        rw [hv] at e1; cases e1
        exact ⟨Z1, Stp.refl zh, RepD.mono h _ _ rv⟩

/-! ### list(..), tuple(..) -/
def sListOf (f : SE) : SE := fun env => match f env with
  | .ok (m, e) => match itemsLT (fz m) with
    | some (_, xs) => .ok (.lst (xs.map .d), e)
    | none => .bad
  | .exc x e => .exc x e
  | .bad => .bad
def sTupOf (f : SE) : SE := fun env => match f env with
  | .ok (m, e) => match itemsLT (fz m) with
    | some (_, xs) => .ok (.d (.tup xs), e)
    | none => .bad
  | .exc x e => .exc x e
  | .bad => .bad
theorem xe_listOf (hK : G.K = X.K) (hm : X.mg "list" = none) (ha : PEs G X W e f) (hv : bootBuiltins "list" = some (.type "list") := by decide +kernel) (hg : Gl X "list" := by rfl) (hst : starEach [e] X.env = (false, eval e X.env) :: starEach [] X.env := by rfl) (hpl : (backTo pos (starEach [] X.env)).any (·.1) = false := by rfl) :
    PEs G X W (.Call (.Name "list" p) [e] [] pos) (sListOf f) := by
  obtain ⟨t, q, h⟩ := ha.ex
  refine ⟨_, pe_callTy call_list_of hg hm hv (pa_cons q pa_nil hst) (by decide) (by decide) hst hpl, SEok.mk' fun Z H σ env S Q gd k => ?_⟩
  unfold sListOf at k
  refine h.use gd ?_
  cases e1 : f env with
  | bad => rw [e1] at k; exact k.elim
  | exc x e' => rw [e1] at k; exact k
  | ok pr =>
    obtain ⟨m, env1⟩ := pr
    rw [e1] at k
    simp only at k
    cases e3 : itemsLT (fz m) with
    | none => rw [e3] at k; exact k.elim
    | some q1 =>
      obtain ⟨b1, xs⟩ := q1
      rw [e3] at k
      intro v Z' H' S' T s' g' l
      obtain ⟨rz, sz⟩ := l.frozen g'.zh
      have sT : Stp Z' H' T (Fzp Z' H' T) H' T := ⟨sz.z, sz.zh, fun _ _ e _ => e, fun _ z => .inl z, fun a z => by
        by_cases ta : T a
        · exact .inr (.inl ta)
        · rw [frz_out ta] at z; exact .inl z⟩
      have g2 := (g'.move sT fun a z w => l.dj a w z).1
      obtain ⟨a, us, rfl, t1, l1, rr⟩ := itemsLT_rep g2.zh rz e3
      have hq : SqL X.K H' a us ∨ SqT X.K H' a us := by
        rw [← hK]
        cases b1 with
        | false => exact .inl (g2.zh.seq (l1 rfl))
        | true => exact .inr (Same.seqT g2.zh (t1 rfl))
      refine ⟨a, us, rfl, hq, fun p hp => ?_⟩
      have pS : ¬ U S' p := fun z => g2.al' p z hp
      have st := Stp.new (o := .lst us) g2.zh hp (U S')
      exact k (.ref p) _ _ S' (fun a => a = p) (s'.trans (sz.trans st)) (g2.move (Stp.new (o := .lst us) g2.zh hp (fun _ => False)) fun _ _ z => z).1 (lst_newD g2.zh rr hp pS)
theorem xe_tupOf (hK : G.K = X.K) (hm : X.mg "tuple" = none) (ha : PEs G X W e f) (hv : bootBuiltins "tuple" = some (.type "tuple") := by decide +kernel) (hg : Gl X "tuple" := by rfl) (hst : starEach [e] X.env = (false, eval e X.env) :: starEach [] X.env := by rfl) (hpl : (backTo pos (starEach [] X.env)).any (·.1) = false := by rfl) :
    PEs G X W (.Call (.Name "tuple" p) [e] [] pos) (sTupOf f) := by
  obtain ⟨t, q, h⟩ := ha.ex
  refine ⟨_, pe_callTy call_tuple_of hg hm hv (pa_cons q pa_nil hst) (by decide) (by decide) hst hpl, SEok.mk' fun Z H σ env S Q gd k => ?_⟩
  unfold sTupOf at k
  refine h.use gd ?_
  cases e1 : f env with
  | bad => rw [e1] at k; exact k.elim
  | exc x e' => rw [e1] at k; exact k
  | ok pr =>
    obtain ⟨m, env1⟩ := pr
    rw [e1] at k
    simp only at k
    cases e3 : itemsLT (fz m) with
    | none => rw [e3] at k; exact k.elim
    | some q1 =>
      obtain ⟨b1, xs⟩ := q1
      rw [e3] at k
      intro v Z' H' S' T s' g' l
      obtain ⟨rz, sz⟩ := l.frozen g'.zh
      have sT : Stp Z' H' T (Fzp Z' H' T) H' T := ⟨sz.z, sz.zh, fun _ _ e _ => e, fun _ z => .inl z, fun a z => by
        by_cases ta : T a
        · exact .inr (.inl ta)
        · rw [frz_out ta] at z; exact .inl z⟩
      have g2 := (g'.move sT fun a z w => l.dj a w z).1
      obtain ⟨a, us, rfl, t1, l1, rr⟩ := itemsLT_rep g2.zh rz e3
      refine ⟨a, us, rfl, ?_⟩
      cases b1 with
      | false =>
        refine .inl ⟨by rw [← hK]; exact g2.zh.seq (l1 rfl), fun p hp => ?_⟩
        have st := Stp.newZ (o := .tup us) g2.zh hp (U S')
        refine k (.ref p) _ _ S' (fun _ => False) ((s'.trans (sz.trans st)).weak fun _ z => z.elim (fun z => z) fun z => z.elim) (g2.move (Stp.newZ (o := .tup us) g2.zh hp (fun _ => False)) fun _ _ z => z).1 (Hld.data ?_)
        simp only [RepD]
        exact ⟨p, us, rfl, SqT.of upd_same, RepDs.mono st.z _ _ rr⟩
      | true =>
        refine .inr ⟨by rw [← hK]; exact Same.seqT g2.zh (t1 rfl), ?_⟩
        refine k (.ref a) _ _ S' (fun _ => False) ((s'.trans sz).weak fun _ z => z.elim (fun z => z) fun z => z.elim) g2 (Hld.data ?_)
        simp only [RepD]
        exact ⟨a, us, rfl, t1 rfl, rr⟩
end

/-! ### xs[i] = e -/
theorem RepMs.set {G : Gx} {Z H : Hp} : ∀ {xs : List M} {T A : Rg} {vs : List V} {y : M} {v : V} (j : Nat), RepMs G Z H xs T vs → RepM G Z H y A v → (∀ b, A b → ¬ T b) → RepMs G Z H (xs.set j y) (fun b => T b ∨ A b) (vs.set j v)
  | [], T, A, vs, y, v, j, r, ry, d => by simp only [RepMs] at r; subst r; simp [RepMs]
  | x :: xs, T, A, vs, y, v, 0, r, ry, d => by
    simp only [RepMs] at r
    obtain ⟨v0, vr, T1, T2, rfl, t1, t2, d12, rx, rr⟩ := r
    simp only [List.set_cons_zero, RepMs]
    exact ⟨v, vr, A, T2, rfl, fun b z => .inr z, fun b z => .inl (t2 b z), fun b z w => d b z (t2 b w), ry, rr⟩
  | x :: xs, T, A, vs, y, v, j + 1, r, ry, d => by
    simp only [RepMs] at r
    obtain ⟨v0, vr, T1, T2, rfl, t1, t2, d12, rx, rr⟩ := r
    simp only [List.set_cons_succ, RepMs]
    exact ⟨v0, vr.set j v, T1, fun b => T2 b ∨ A b, rfl, fun b z => .inl (t1 b z), fun b z => z.elim (fun z => .inl (t2 b z)) .inr, fun b z w => w.elim (d12 b z) fun w => d b w (t1 b z), rx, RepMs.set j rr ry fun b z w => d b z (t2 b w)⟩
def ssSetI (i : Nat) (gi : VE) (f : SE) : SS := fun env => match f env with
  | .ok (m, e) => match getE e i, gi e with
    | .ok (.lst xs), .ok (.d (.int k)) => match ixN xs.length k with
      | some j => .ok (.nx, e.set i (some (.lst (xs.set j m))))
      | none => .bad
    | _, _ => .bad
  | .exc x e => .exc x e
  | .bad => .bad
theorem xs_setI {G : Gx} {X : Cx} {W : WX'} {P : Px} {x : Str} {ie e : Expr} {gi : VE} {f : SE} {p ps pos : Pos} (i : Nat) (hi : PVs G X ie gi) (he : PEs G X W e f)
    (hN : X.N[i]? = some x := by rfl) (hv : Vis X.env.scope x := by first | exact Or.inl rfl | exact Or.inr (Or.inl rfl) | exact Or.inr (Or.inr rfl)) (hd : (x == ("__debug__" : Str)) = false := by decide) (hcd : (x == ("__classdict__" : Str)) = false := by decide)
    (ha : ∀ v, assign (.Subscript (.Name x p) ie ps) X.env v = (do
      let ov ← holding [v] (eval (.Name x p) X.env)
      let iv ← holding [v, ov] (eval ie X.env)
      standAt ps
      holding [v, ov, iv] (setItem ov iv v)
      release [v, ov, iv] []) := by intro _; rfl)
    (hs : swapsWithSole [.Subscript (.Name x p) ie ps] e pos.line X.env = pure false := by rfl) (hw : swappedStores [.Subscript (.Name x p) ie ps] e X.env = pure none := by rfl)
    (h1 : (assignEach [.Subscript (.Name x p) ie ps] X.env).map (·.2) = [assign (.Subscript (.Name x p) ie ps) X.env] := by rfl) :
    PS' G X W P (.Assign [.Subscript (.Name x p) ie ps] e pos) (ssSetI i gi f) := by
  obtain ⟨t, q, h⟩ := he.ex
  obtain ⟨ti, qi, hi⟩ := hi.ex
  refine ⟨_, ps_asg q (pg_sub (pe_var hN hv hd hcd) qi set_list ha) hs hw h1, fun D Z H σ env S gd k => ?_⟩
  unfold ssSetI at k
  refine h.use gd ?_
  cases e1 : f env with
  | bad => rw [e1] at k; exact k.elim
  | exc x' e' => rw [e1] at k; exact fun cls d Z' H' S' hx s' g' => k cls d σ Z' H' S' hx Fix.refl s' g'
  | ok pr =>
    obtain ⟨m, env1⟩ := pr
    rw [e1] at k
    simp only at k
    intro v Z' H' S' T s' g' l
    rcases getE_cases env1 i with ⟨mx, e2⟩ | e2
    case inr => rw [e2] at k; exact k.elim
    rw [e2] at k
    cases mx with
    | lst xs =>
      cases e3 : gi env1 with
      | ok mi =>
        rw [e3] at k
        cases mi with
        | d di =>
          cases di with
          | int kk =>
            simp only at k
            cases e4 : ixN xs.length kk with
            | none => rw [e4] at k; exact k.elim
            | some j =>
              rw [e4] at k
              obtain ⟨w, hw, g1, l1⟩ := g'.take (getE_ok e2)
              refine ⟨w, hw, ?_⟩
              have h2 := hi Z' H' σ env1 S' (fun iv H2 => rSetL w iv v H2 fun H3 => D.nx σ H3) g'
              rw [e3] at h2
              refine h2 fun iv _ _ ri => ?_
              have := rep_int ri
              subst this
              obtain ⟨a, us, T0, rfl, sa, nt, ts, ho, rr, za⟩ := lst_own (G := G) (v := w) ⟨l1.rep, l1.al, l1.zf, fun _ _ z => z⟩
              have d0 : ∀ b, T b → ¬ S' i b := fun b z w => l.dj b z ⟨i, w⟩
              have r2 : RepMs G Z' H' (xs.set j m) (fun b => T0 b ∨ T b) (us.set j v) := RepMs.set j rr l.rep fun b z w => d0 b z (ts b w)
              refine ⟨a, us, kk, j, rfl, rfl, ho, by rw [← rr.len]; exact e4, ?_⟩
              obtain ⟨s, l2⟩ := lst_become (Ts := T) (Tx := fun _ => False) g'.zh sa za (fun z => z.elim nt fun z => d0 a z sa) r2 (fun b z => z.elim (fun z => .inl (ts b z)) .inr) l1.al l.al l1.zf l.zf (fun _ z => z.elim)
              obtain ⟨g2, d2⟩ := g1.move s fun b z w => w.elim (fun w => l1.dj b w z) fun w => l.dj b w (Rs.wipe_le z)
              have g3 := g2.back (i := i) (m := .lst (xs.set j m)) (v := .ref a) ⟨l2.rep, l2.al, l2.zf, fun b z w => d2 b w (.inl z)⟩ hw
              rw [show (env1.set i none).set i (some (M.lst (xs.set j m))) = env1.set i (some (.lst (xs.set j m))) from List.set_set ..] at g3
              refine k σ Z' _ _ Fix.refl (s'.trans (((s.frame (U (S'.set i fun _ => False))).from fun b z => ?_).weak fun b z => ?_)) g3
              · rcases z with (z | z) | z
                · exact .inl ⟨i, z⟩
                · exact .inr z
                · exact .inl (Rs.wipe_le z)
              · exact (Rs.set_sub z).elim .inr fun z => .inl (.inl z)
          | _ => exact k.elim
        | _ => exact k.elim
      | exc _ _ => rw [e3] at k; exact k.elim
      | bad => rw [e3] at k; exact k.elim
    | _ => exact k.elim
end FL

set_option maxHeartbeats 2000000
/-! FLQ: loops over lists that stay their name's own. -/
namespace FL
open PySem L2 Classical

def putB (i : Nat) (m : M) : Res (Fl × Env) → Res (Fl × Env)
  | .ok (f, e) => .ok (f, e.set i (some m))
  | .exc x e => .exc x (e.set i (some m))
  | .bad => .bad
theorem SPost.lend {G : Gx} {W : WX'} {P : Px} {D : Ends} {Z H : Hp} {R R0 : Rg} {σ : St} {i : Nat} {m : M} {T : Rg} {v : V} {r : Res (Fl × Env)} (l : Hld G Z H R0 m T v) (hv : σ[i]? = some (some v)) (sub : ∀ a, R0 a ∨ T a → R a)
    (p : SPost G W P D Z H R σ (putB i m r)) : SPost G W (fun k => P k ∨ k = i) D Z H R0 σ r := by
  have fx : ∀ {σ' : St}, Fix (fun k => P k ∨ k = i) σ σ' → Fix P σ σ' ∧ σ'[i]? = some (some v) := fun f => ⟨⟨fun j hj => f.1 j (.inl hj), f.2⟩, by rw [f.1 i (.inr rfl)]; exact hv⟩
  have sub1 : ∀ {S' : Rs} {a : Addr}, U (S'.set i T) a → U S' a ∨ T a := fun z => Rs.set_sub z
  have bk : ∀ {σ' : St} {Z' H' : Hp} {S' : Rs} {e : Env}, σ'[i]? = some (some v) → Stp Z H R0 Z' H' (U S') → Good G Z' H' σ' e S' → Good G Z' H' σ' (e.set i (some m)) (S'.set i T) := fun h1 h2 h3 => h3.back (l.step h2) h1
  have st : ∀ {Z' H' : Hp} {S' : Rs}, Stp Z H R0 Z' H' (U S') → Stp Z H R Z' H' (U (S'.set i T)) := fun h => ((h.frame T).from sub).weak fun a z => sub1 z
  cases r with
  | bad => exact p.elim
  | exc x e =>
    intro cls d σ' Z' H' S' hx f s g
    obtain ⟨f1, f2⟩ := fx f
    exact p cls d σ' Z' H' _ hx f1 (st s) (bk f2 s g)
  | ok q =>
    obtain ⟨fl', e⟩ := q
    cases fl' with
    | nx => intro σ' Z' H' S' f s g; obtain ⟨f1, f2⟩ := fx f; exact p σ' Z' H' _ f1 (st s) (bk f2 s g)
    | brk => intro σ' Z' H' S' f s g; obtain ⟨f1, f2⟩ := fx f; exact p σ' Z' H' _ f1 (st s) (bk f2 s g)
    | ct => intro σ' Z' H' S' f s g; obtain ⟨f1, f2⟩ := fx f; exact p σ' Z' H' _ f1 (st s) (bk f2 s g)
    | ret x =>
      intro u σ' Z' H' S' Tr f s g h
      obtain ⟨f1, f2⟩ := fx f
      have sw : Stp Z H R0 Z' H' (U S') := s.weak fun a z => .inl z
      have dT : ∀ a, Tr a → ¬ T a := fun a z w => (s.rg a (.inr z)).elim (fun q => l.dj a w q) fun q => l.al a w q
      refine p u σ' Z' H' _ Tr f1 (((s.frame T).from sub).weak fun a z => ?_) (bk f2 sw g) ⟨h.rep, h.al, h.zf, fun a z w => (sub1 w).elim (h.dj a z) (dT a z)⟩
      rcases z with z | z
      · exact (sub1 z).elim (fun z => .inl (.inl z)) .inr
      · exact .inl (.inr z)
/-- the items, all frozen, of a list or a tuple that stays -/
def brw : M → Option (Bool × List D)
  | .d x => itemsLT x
  | .lst ms => if ms.all isD = true then some (false, ms.map unD) else none
  | _ => none
theorem brw_rep {G : Gx} {Z H : Hp} {m : M} {T : Rg} {v : V} {b : Bool} {xs : List D} (zh : Same Z H) (r : RepM G Z H m T v) (e : brw m = some (b, xs)) :
    ∃ a vs, v = .ref a ∧ RepDs G Z xs vs ∧ ∀ Z1 H1, Same Z Z1 → Same Z1 H1 → (∀ c o, T c → H c = some o → H1 c = some o) → (b = true → SqT G.K H1 a vs) ∧ (b = false → SqL G.K H1 a vs) := by
  cases m with
  | d x =>
    simp only [RepM] at r
    obtain ⟨a, vs, rfl, t, l, rr⟩ := itemsLT_rep zh r e
    exact ⟨a, vs, rfl, rr, fun Z1 H1 h1 h2 _ => ⟨fun q => Same.seqT h2 (Same.seqT h1 (t q)), fun q => h2.seq (h1.seq (l q))⟩⟩
  | lst ms =>
    simp only [brw] at e
    split at e
    · rename_i hd
      cases e
      simp only [RepM] at r
      obtain ⟨a, vs, T0, rfl, sa, nt, ts, h, rr⟩ := r
      exact ⟨a, vs, rfl, allD_rep rr hd, fun Z1 H1 h1 h2 k => ⟨fun q => (nomatch q), fun _ => SqL.of (k a _ sa h)⟩⟩
    · cases e
  | _ => simp [brw] at e
def ssForB (i : Nat) (g : SG) (b : SS) : SS := fun env => match getE env i with
  | .ok m => match brw m with
    | some (_, xs) => putB i m (fl g b xs (env.set i none))
    | none => .bad
  | _ => .bad
def ssForZ (i j : Nat) (g : SG) (b : SS) : SS := fun env => match getE env i, getE env j with
  | .ok m1, .ok m2 => match brw m1, brw m2 with
    | some (b1, xs), some (b2, ys) => if b1 = b2 ∧ i ≠ j then putB i m1 (putB j m2 (fl g b (List.zipWith pairD xs ys) ((env.set i none).set j none))) else .bad
    | _, _ => .bad
  | _, _ => .bad
/-- what must stand while a loop walks over what T holds -/
def FrB (Z0 H0 : Hp) (T : Rg) (Z H : Hp) (R : Rg) : Prop := Same Z0 Z ∧ (∀ c o, T c → H0 c = some o → H c = some o) ∧ (∀ c, T c → ¬ R c) ∧ ∀ c, T c → H c ≠ none
theorem FrB.stay {Z0 H0 : Hp} {T : Rg} {Z H : Hp} {R : Rg} {Z' H' : Hp} {R' : Rg} (f : FrB Z0 H0 T Z H R) (s : Stp Z H R Z' H' R') : FrB Z0 H0 T Z' H' R' := by
  refine ⟨f.1.trans s.z, fun c o t e => s.kp c o (f.2.1 c o t e) (f.2.2.1 c t), fun c t q => (s.rg c q).elim (f.2.2.1 c t) (f.2.2.2 c t), fun c t q => ?_⟩
  cases e : H c with
  | none => exact f.2.2.2 c t e
  | some o => rw [s.kp c o e (f.2.2.1 c t)] at q; cases q
section
variable {G : Gx} {X : Cx} {W : WX'} {P : Px} {g : SG} {b : SS} {pos p : Pos}
theorem xs_forB {te : Expr} {body : List Stmt} {x : Str} (i : Nat) (hK : G.K = X.K) (hp : PassesOwn (model X.prog X.w) X.A X.env X.xe) (hc : X.calm = true) (hg : PGs' G X (fun k => P k ∨ k = i) te g) (hb : PSs' G X W (fun k => P k ∨ k = i) body b)
    (hN : X.N[i]? = some x := by rfl) (hv : Vis X.env.scope x := by first | exact Or.inl rfl | exact Or.inr (Or.inl rfl) | exact Or.inr (Or.inr rfl)) (hd : (x == ("__debug__" : Str)) = false := by decide) (hcd : (x == ("__classdict__" : Str)) = false := by decide)
    (hs : ∀ y, foldedSetIterable (.Name x p) X.env y = pure y := by intro _; rfl) : PS' G X W P (.For te (.Name x p) body [] pos) (ssForB i g b) := by
  obtain ⟨u, q, hg⟩ := hg.ex
  obtain ⟨w, r, hb⟩ := hb.ex
  have h1 : PI X te (.Name x p) (iList G.K (tVar i)) := by rw [hK]; exact pi_list (pe_var hN hv hd hcd)
  have h2 : PI X te (.Name x p) (iTup G.K (tVar i)) := by rw [hK]; exact pi_tup (pe_var hN hv hd hcd)
  refine ⟨_, ps_for hp hc (PI.or h1 h2) q r hs, fun D Z H σ env S gd k => ?_⟩
  unfold ssForB at k
  rcases getE_cases env i with ⟨m, e⟩ | e
  case inr => rw [e] at k; exact k.elim
  rw [e] at k
  simp only at k
  cases e3 : brw m with
  | none => rw [e3] at k; exact k.elim
  | some pr =>
    obtain ⟨bb, xs⟩ := pr
    rw [e3] at k
    obtain ⟨v, hv, g1, l1⟩ := gd.take (getE_ok e)
    obtain ⟨a, vs, rfl, rr, sq⟩ := brw_rep gd.zh l1.rep e3
    have kk := k.lend l1 hv (fun c z => z.elim Rs.wipe_le fun z => ⟨i, z⟩)
    have f0 : FrB Z H (S i) Z H (U (S.set i fun _ => False)) := ⟨Same.refl _, fun _ _ _ z => z, l1.dj, l1.al⟩
    cases bb with
    | false =>
      refine .inl ⟨.ref a, hv, a, rfl, ⟨vs, (sq Z H (Same.refl _) gd.zh fun _ _ _ z => z).2 rfl⟩, ?_⟩
      refine for_turns (Fr := FrB Z H (S i)) ⟨fun Z1 H1 R Z2 H2 R2 h s => h.stay s, fun Z1 H1 R n h zh hl => ⟨vs, (sq Z1 H1 h.1 zh h.2.1).2 rfl, by rw [← rr.len]; exact hl⟩, fun Z1 H1 R n d h zh ee => ?_⟩ hg hb Z _ _ g1 f0 kk
      obtain ⟨w, hw, rw'⟩ := rr.get ee
      refine ⟨⟨vs, w, (sq Z1 H1 h.1 zh h.2.1).2 rfl, hw⟩, fun y H' hy => ?_⟩
      obtain ⟨rfl, hx⟩ := hy
      have := hx vs ((sq Z1 _ h.1 zh h.2.1).2 rfl)
      rw [hw] at this; cases this
      exact ⟨Z1, Stp.refl zh, RepD.mono h.1 _ _ rw'⟩
    | true =>
      refine .inr ⟨.ref a, hv, a, rfl, ⟨vs, (sq Z H (Same.refl _) gd.zh fun _ _ _ z => z).1 rfl⟩, ?_⟩
      refine for_turns (Fr := FrB Z H (S i)) ⟨fun Z1 H1 R Z2 H2 R2 h s => h.stay s, fun Z1 H1 R n h zh hl => ⟨vs, (sq Z1 H1 h.1 zh h.2.1).1 rfl, by rw [← rr.len]; exact hl⟩, fun Z1 H1 R n d h zh ee => ?_⟩ hg hb Z _ _ g1 f0 kk
      obtain ⟨w, hw, rw'⟩ := rr.get ee
      refine ⟨⟨vs, w, (sq Z1 H1 h.1 zh h.2.1).1 rfl, hw⟩, fun y H' hy => ?_⟩
      obtain ⟨rfl, hx⟩ := hy
      have := hx vs ((sq Z1 _ h.1 zh h.2.1).1 rfl)
      rw [hw] at this; cases this
      exact ⟨Z1, Stp.refl zh, RepD.mono h.1 _ _ rw'⟩
theorem xs_forZ {body : List Stmt} {elts : List Expr} {kk : Nat} {tpos p1 p2 pc : Pos} {x y : Str} (i j : Nat) (hK : G.K = X.K) (hm : X.mg "zip" = none) (hp : PassesOwn (model X.prog X.w) X.A X.env X.xe) (hc : X.calm = true) (hg : PGs' G X (fun k => (P k ∨ k = i) ∨ k = j) (.Tuple elts kk tpos) g) (hb : PSs' G X W (fun k => (P k ∨ k = i) ∨ k = j) body b)
    (hN : X.N[i]? = some x := by rfl) (hv : Vis X.env.scope x := by first | exact Or.inl rfl | exact Or.inr (Or.inl rfl) | exact Or.inr (Or.inr rfl)) (hd : (x == ("__debug__" : Str)) = false := by decide) (hcd : (x == ("__classdict__" : Str)) = false := by decide)
    (hN2 : X.N[j]? = some y := by rfl) (hv2 : Vis X.env.scope y := by first | exact Or.inl rfl | exact Or.inr (Or.inl rfl) | exact Or.inr (Or.inr rfl)) (hd2 : (y == ("__debug__" : Str)) = false := by decide) (hcd2 : (y == ("__classdict__" : Str)) = false := by decide)
    (hgz : Gl X "zip" := by rfl) (hs1 : starEach [.Name x p1, .Name y p2] X.env = (false, eval (.Name x p1) X.env) :: starEach [.Name y p2] X.env := by rfl) (hs2 : starEach [.Name y p2] X.env = (false, eval (.Name y p2) X.env) :: starEach [] X.env := by rfl) (hpl : (backTo pc (starEach [.Name y p2] X.env)).any (·.1) = false := by rfl)
    (hs : ∀ z, foldedSetIterable (.Call (.Name "zip" p) [.Name x p1, .Name y p2] [] pc) X.env z = pure z := by intro _; rfl) : PS' G X W P (.For (.Tuple elts kk tpos) (.Call (.Name "zip" p) [.Name x p1, .Name y p2] [] pc) body [] pos) (ssForZ i j g b) := by
  obtain ⟨u, q, hg⟩ := hg.ex
  obtain ⟨w, r, hb⟩ := hb.ex
  have h1 : PI X (.Tuple elts kk tpos) (.Call (.Name "zip" p) [.Name x p1, .Name y p2] [] pc) (RZ.iZipA G.K (tCons (tVar i) (tCons (tVar j) tNil))) := by
    rw [hK]
    exact RZ.pi_zipA hgz hm (pa_cons (pe_var hN hv hd hcd) (pa_cons (pe_var hN2 hv2 hd2 hcd2) pa_nil hs2) hs1) hs1 hpl
  refine ⟨_, ps_for hp hc h1 q r hs, fun D Z H σ env S gd k => ?_⟩
  unfold ssForZ at k
  rcases getE_cases env i with ⟨m1, e1⟩ | e1
  case inr => rw [e1] at k; exact k.elim
  rcases getE_cases env j with ⟨m2, e2⟩ | e2
  case inr => rw [e1, e2] at k; exact k.elim
  rw [e1, e2] at k
  simp only at k
  cases e3 : brw m1 with
  | none => rw [e3] at k; exact k.elim
  | some pr =>
    obtain ⟨b1, xs⟩ := pr
    cases e4 : brw m2 with
    | none => rw [e3, e4] at k; exact k.elim
    | some pr =>
      obtain ⟨b2, ys⟩ := pr
      rw [e3, e4] at k
      simp only at k
      split at k
      case isFalse => exact k.elim
      rename_i hh
      obtain ⟨rfl, hij⟩ := hh
      obtain ⟨v1, hv1, g1, l1⟩ := gd.take (getE_ok e1)
      have e2' : (env.set i none)[j]? = some (some m2) := by rw [List.getElem?_set_ne hij]; exact getE_ok e2
      obtain ⟨v2, hv2, g2, l2⟩ := g1.take e2'
      have k1 := k.lend l1 hv1 (fun c z => z.elim Rs.wipe_le fun z => ⟨i, z⟩)
      have k2 := k1.lend l2 hv2 (fun c z => z.elim Rs.wipe_le fun z => ⟨j, z⟩)
      have hSj : ∀ c, (S.set i fun _ => False) j c → S j c := fun c z => by rw [Rs.set_ne (Ne.symm hij)] at z; exact z
      obtain ⟨a, vs, rfl, rr, sq⟩ := brw_rep gd.zh l1.rep e3
      obtain ⟨c, ws, rfl, rr2, sq2⟩ := brw_rep gd.zh l2.rep e4
      have f0 : FrB Z H (fun z => S i z ∨ (S.set i fun _ => False) j z) Z H (U ((S.set i fun _ => False).set j fun _ => False)) :=
        ⟨Same.refl _, fun _ _ _ z => z, fun z t w => t.elim (fun t => l1.dj z t (Rs.wipe_le w)) fun t => l2.dj z t w, fun z t => t.elim (l1.al z) (l2.al z)⟩
      have s1 : ∀ Z1 H1 R, FrB Z H (fun z => S i z ∨ (S.set i fun _ => False) j z) Z1 H1 R → Same Z1 H1 → (b1 = true → SqT G.K H1 a vs) ∧ (b1 = false → SqL G.K H1 a vs) := fun Z1 H1 R h zh => sq Z1 H1 h.1 zh fun z o t => h.2.1 z o (.inl t)
      have s2 : ∀ Z1 H1 R, FrB Z H (fun z => S i z ∨ (S.set i fun _ => False) j z) Z1 H1 R → Same Z1 H1 → (b1 = true → SqT G.K H1 c ws) ∧ (b1 = false → SqL G.K H1 c ws) := fun Z1 H1 R h zh => sq2 Z1 H1 h.1 zh fun z o t => h.2.1 z o (.inr t)
      refine ⟨.ref a, hv1, .ref c, hv2, a, c, vs, ws, rfl, ?_⟩
      have len : ∀ n, (List.zipWith pairD xs ys).length ≤ n → vs.length ≤ n ∨ ws.length ≤ n := fun n hl => by
        rw [List.length_zipWith] at hl
        rw [← rr.len, ← rr2.len]
        omega
      cases b1 with
      | false =>
        refine .inl ⟨(s1 _ _ _ f0 gd.zh).2 rfl, (s2 _ _ _ f0 gd.zh).2 rfl, ?_⟩
        refine for_turns (Fr := FrB Z H _) ⟨fun Z1 H1 R Z2 H2 R2 h s => h.stay s, fun Z1 H1 R n h zh hl => ⟨vs, ws, (s1 _ _ _ h zh).2 rfl, (s2 _ _ _ h zh).2 rfl, len n hl⟩, fun Z1 H1 R n d h zh ee => ?_⟩ hg hb Z _ _ g2 f0 k2
        obtain ⟨x1, y1, ex, ey, rfl⟩ := zw_get ee
        obtain ⟨v, hv, rv⟩ := rr.get ex
        obtain ⟨w, hw, rw'⟩ := rr2.get ey
        refine ⟨⟨vs, ws, v, w, (s1 _ _ _ h zh).2 rfl, (s2 _ _ _ h zh).2 rfl, hv, hw⟩, fun u' H' hy => ?_⟩
        obtain ⟨T, v', w', rfl, hT, rfl, k3, k4⟩ := hy
        have e5 := k3 vs ((s1 _ _ _ h zh).2 rfl)
        have e6 := k4 ws ((s2 _ _ _ h zh).2 rfl)
        rw [hv] at e5; cases e5
        rw [hw] at e6; cases e6
        have st := Stp.newZ (o := .tup [v, w]) zh hT (fun _ => False)
        refine ⟨_, st, ?_⟩
        simp only [pairD, RepD, RepDs]
        exact ⟨T, [v, w], rfl, SqT.of upd_same, v, [w], rfl, RepD.mono (h.1.trans st.z) _ _ rv, w, [], rfl, RepD.mono (h.1.trans st.z) _ _ rw', rfl⟩
      | true =>
        refine .inr ⟨(s1 _ _ _ f0 gd.zh).1 rfl, (s2 _ _ _ f0 gd.zh).1 rfl, ?_⟩
        refine for_turns (Fr := FrB Z H _) ⟨fun Z1 H1 R Z2 H2 R2 h s => h.stay s, fun Z1 H1 R n h zh hl => ⟨vs, ws, (s1 _ _ _ h zh).1 rfl, (s2 _ _ _ h zh).1 rfl, len n hl⟩, fun Z1 H1 R n d h zh ee => ?_⟩ hg hb Z _ _ g2 f0 k2
        obtain ⟨x1, y1, ex, ey, rfl⟩ := zw_get ee
        obtain ⟨v, hv, rv⟩ := rr.get ex
        obtain ⟨w, hw, rw'⟩ := rr2.get ey
        refine ⟨⟨vs, ws, v, w, (s1 _ _ _ h zh).1 rfl, (s2 _ _ _ h zh).1 rfl, hv, hw⟩, fun u' H' hy => ?_⟩
        obtain ⟨T, v', w', rfl, hT, rfl, k3, k4⟩ := hy
        have e5 := k3 vs ((s1 _ _ _ h zh).1 rfl)
        have e6 := k4 ws ((s2 _ _ _ h zh).1 rfl)
        rw [hv] at e5; cases e5
        rw [hw] at e6; cases e6
        have st := Stp.newZ (o := .tup [v, w]) zh hT (fun _ => False)
        refine ⟨_, st, ?_⟩
        simp only [pairD, RepD, RepDs]
        exact ⟨T, [v, w], rfl, SqT.of upd_same, v, [w], rfl, RepD.mono (h.1.trans st.z) _ _ rv, w, [], rfl, RepD.mono (h.1.trans st.z) _ _ rw', rfl⟩
end
end FL

set_option maxHeartbeats 2000000
/-! FLU: plain law: texts. -/
namespace FL
open PySem L2 Classical
/-- a text by its signs -/
def sl (l : List Nat) : Str := ⟨l.toArray⟩
theorem sl_len (l : List Nat) : (sl l).length = l.length := by simp [sl, Str.length]
theorem sl_cps (l : List Nat) : (sl l).cps.toList = l := by simp [sl]
theorem sl_app (a b : List Nat) : sl a ++ sl b = sl (a ++ b) := by
  show (⟨(sl a).cps ++ (sl b).cps⟩ : Str) = _
  simp [sl]
theorem sl_eta (z : Str) : sl z.cps.toList = z := by cases z; simp [sl]
theorem sl_inj {a b : List Nat} (h : sl a = sl b) : a = b := by have := congrArg (fun z : Str => z.cps.toList) h; simpa [sl] using this
theorem slOf (s : String) : Str.ofString s = sl (s.toList.map Char.toNat) := by rw [Str.ofString_eq_toList]; rfl
def fS (l : List Nat) : M := .d (.str (sl l))
def chD (c : Nat) : D := .str (sl [c])
theorem itemsD_str (l : List Nat) : itemsD (.str (sl l)) = some (l.map chD) := by simp [itemsD, sl, chD]
theorem oAdd_str {a b : List Nat} (h : a.length + b.length ≤ 16777216) : oAdd (.d (.str (sl a))) (.d (.str (sl b))) = .ok (.str (sl (a ++ b))) := by
  have h' : (sl a).length + (sl b).length ≤ sizeLine := by rw [sl_len, sl_len, sizeLine_eq]; exact h
  have e : oAdd (.d (.str (sl a))) (.d (.str (sl b))) = if (sl a).length + (sl b).length ≤ sizeLine then .ok (.str (sl a ++ sl b)) else .bad := by
    simp only [oAdd, dOr, dI, dS]
  rw [e, if_pos h', sl_app]
theorem beq_str (a b : List Nat) : (sl a == sl b) = decide (a = b) := by
  by_cases h : a = b
  · subst h; simp
  · have : sl a ≠ sl b := fun z => h (sl_inj z)
    simp [h, this]
theorem oEq_str (a b : List Nat) : oEq (.d (.str (sl a))) (.d (.str (sl b))) = .ok (.bl (decide (a = b))) := by
  rw [oEq_pl (pl_flat rfl) (pl_flat rfl)]
  simp [eqD, fz, toPy, PyData.eqv, beq_str]
theorem oNe_str (a b : List Nat) : oNe (.d (.str (sl a))) (.d (.str (sl b))) = .ok (.bl (!decide (a = b))) := by
  rw [oNe_pl (pl_flat rfl) (pl_flat rfl)]
  simp [eqD, fz, toPy, PyData.eqv, beq_str]
theorem oIn_sign (c : Nat) (l : List Nat) : oIn (.d (.str (sl [c]))) (.d (.str (sl l))) = .ok (.bl (decide (c ∈ l))) := by
  simp only [oIn, inM, M.seq, sl_cps]
theorem mIdx_str {l : List Nat} {i : Int} {c : Nat} (hl : l.length ≤ 16777216) (h : atI l i = some c) : mIdx (.d (.str (sl l))) (.d (.int i)) = .ok (.d (.str (sl [c]))) := by
  have h' : (sl l).length ≤ sizeLine := by rw [sl_len, sizeLine_eq]; exact hl
  simp only [mIdx, M.seq, if_pos h', sl_cps, h]
  rfl
theorem atI_nat {α : Type} {l : List α} {n : Nat} (h : n < l.length) : atI l (n : Int) = l[n]? := by
  unfold atI ixN
  rw [if_pos (by omega), if_pos (by omega)]
  simp
theorem atI_pos {α : Type} {l : List α} {i : Int} (h0 : 0 ≤ i) (h : i < l.length) : atI l i = l[i.toNat]? := by
  unfold atI ixN
  rw [if_pos h0, if_pos h]
  rfl
theorem atI_last {α : Type} {l : List α} {x : α} : atI (l ++ [x]) (-1) = some x := by
  unfold atI ixN
  rw [if_neg (by omega), if_pos (by simp; omega)]
  have : ((-1 : Int) + ((l ++ [x]).length : Nat)).toNat = l.length := by simp; omega
  rw [this]
  simp
theorem ixN_last {n : Nat} : ixN (n + 1) (-1) = some n := by
  unfold ixN
  rw [if_neg (by omega), if_pos (by omega)]
  congr 1
  omega
theorem fl_one {g : SG} {b : SS} {x : D} {xs : List D} {env e1 e2 : Env} (h1 : g (.d x) env = .ok e1) (h2 : b e1 = .ok (.nx, e2)) : fl g b (x :: xs) env = fl g b xs e2 := by
  show (match g (.d x) env with
    | .ok e => match b e with
      | .ok (.nx, e2) => fl g b xs e2
      | .ok (.ct, e2) => fl g b xs e2
      | .ok (.brk, e2) => .ok (.nx, e2)
      | .ok (.ret m, e2) => .ok (.ret m, e2)
      | .exc x e2 => .exc x e2
      | .bad => .bad
    | _ => .bad) = _
  rw [h1]
  simp only [h2]
theorem mulS_space {n : Int} (h0 : 0 ≤ n) (h : n ≤ 1000) : oMulS (.d (.str (sl [32]))) (.d (.int n)) = .ok (.str (sl (List.replicate n.toNat 32))) := by
  have hc : MulC (sl [32]) n := ⟨by omega, h, by rw [sl_len]; decide⟩
  have e : PySem.Txt.mul (sl [32]) n = sl (List.replicate n.toNat 32) := by
    unfold PySem.Txt.mul
    by_cases h1 : n < 1
    · have : n = 0 := by omega
      subst this
      rfl
    · rw [if_neg h1]
      by_cases h2 : n = 1
      · subst h2; rfl
      · have : (n == 1 || (sl [32]).length == 0) = false := by simp [h2, sl_len]
        rw [this]
        simp only [Bool.false_eq_true, if_false]
        have key : ∀ (k : Nat) (acc : Array Nat), (List.replicate k (sl [32]).cps).foldl (· ++ ·) acc = acc ++ (List.replicate k 32).toArray := by
          intro k
          induction k with
          | zero => intro acc; simp
          | succ k ih =>
            intro acc
            rw [List.replicate_succ, List.foldl_cons, ih]
            apply Array.ext'
            simp [sl, List.replicate_succ]
        rw [key]
        simp [sl]
  unfold oMulS
  simp only [if_pos hc, e]
/-- signs of a number -/
theorem num_signs {n : Int} (h : 0 ≤ n) : ∃ l : List Nat, Str.ofString (toString n) = sl l ∧ l ≠ [] ∧ ∀ c ∈ l, 48 ≤ c ∧ c ≤ 57 := by
  obtain ⟨m, rfl⟩ := Int.eq_ofNat_of_zero_le h
  refine ⟨(Nat.toDigits 10 m).map Char.toNat, ?_, ?_, ?_⟩
  · rw [← PySem.W.KIN.signs_num, sl_eta]
  · simp
  · intro c hc
    obtain ⟨ch, hch, rfl⟩ := List.mem_map.mp hc
    exact PyProof.Rows.digit_range (Nat.isDigit_of_mem_toDigits (by decide) (by decide) hch)
end FL
namespace FL
open PySem L2 Classical
theorem pl_flats {xs : List D} (h : ∀ x ∈ xs, flatD0 x = true) : PyData.plainAll (toPys xs) = true ∧ PyData.depthAll (toPys xs) ≤ 1 := by
  induction xs with
  | nil => simp [toPys, PyData.plainAll, PyData.depthAll]
  | cons x xs ih =>
    obtain ⟨h1, h2⟩ := ih fun y hy => h y (by simp [hy])
    have h3 := h x (by simp)
    have h4 : (toPy x).plain = true ∧ (toPy x).depth ≤ 1 := by cases x <;> simp [flatD0] at h3 <;> simp [toPy, PyData.plain, PyData.depth]
    simp only [toPys, PyData.plainAll, PyData.depthAll, h1, h4.1, Bool.and_self, true_and]
    omega
theorem pl_list {xs : List D} (h : ∀ x ∈ xs, flatD0 x = true) : Pl 60 (.lst xs) ∧ Pl 60 (.tup xs) := by
  obtain ⟨h1, h2⟩ := pl_flats h
  refine ⟨⟨?_, ?_⟩, ⟨?_, ?_⟩⟩ <;> simp only [toPy, PyData.plain, PyData.depth, h1] <;> omega
theorem eqv_flat : ∀ {x : D}, flatD0 x = true → PyData.eqv (toPy x) (toPy x) = true
  | .non, _ => by simp [toPy, PyData.eqv]
  | .bl _, _ => by simp [toPy, PyData.eqv]
  | .int _, _ => by simp [toPy, PyData.eqv]
  | .str _, _ => by simp [toPy, PyData.eqv]
theorem eqv_flats {xs : List D} (h : ∀ x ∈ xs, flatD0 x = true) : PyData.eqvAll (toPys xs) (toPys xs) = true := by
  induction xs with
  | nil => simp [toPys, PyData.eqvAll]
  | cons x xs ih => simp [toPys, PyData.eqvAll, eqv_flat (h x (by simp)), ih fun y hy => h y (by simp [hy])]
theorem oEq_same {xs : List D} (h : ∀ x ∈ xs, flatD0 x = true) {m1 m2 : M} (h1 : fz m1 = .lst xs) (h2 : fz m2 = .lst xs) : oEq m1 m2 = .ok (.bl true) := by
  rw [oEq_pl (by rw [h1]; exact (pl_list h).1) (by rw [h2]; exact (pl_list h).1), h1, h2]
  simp [eqD, toPy, PyData.eqv, eqv_flats h]
theorem brw_own {α : Type} (f : α → D) (xs : List α) : brw (.lst (xs.map fun x => .d (f x))) = some (false, xs.map f) := by
  have h1 : (xs.map fun x => M.d (f x)).all isD = true := by
    induction xs with
    | nil => rfl
    | cons x xs ih => simp [isD]
  have h2 : (xs.map fun x => M.d (f x)).map unD = xs.map f := by
    induction xs with
    | nil => rfl
    | cons x xs ih => simp [unD]
  simp only [brw, h1, h2, if_true]
theorem zip_same (f : List Nat → D) : ∀ xs : List (List Nat), List.zipWith pairD (xs.map f) (xs.map f) = xs.map fun x => pairD (f x) (f x)
  | [] => rfl
  | x :: xs => by simp [zip_same f xs]
end FL
namespace FL
theorem ssSeq_nx {f g : SS} {env e : Env} (h : f env = .ok (.nx, e)) : ssSeq f g env = g e := by unfold ssSeq; rw [h]
theorem ssSeq_ret {f g : SS} {env e : Env} {m : M} (h : f env = .ok (.ret m, e)) : ssSeq f g env = .ok (.ret m, e) := by unfold ssSeq; rw [h]
theorem runF_ret {N n : Nat} {pr : List Nat} {b : SS} {ms : List M} {m : M} {e : Env} (h : b (ms.map some ++ List.replicate (N - n) none) = .ok (.ret m, e)) : runF N n pr b ms = .ok (m, (killAll pr e).take n) := by unfold runF; rw [h]
theorem runF_nx {N n : Nat} {pr : List Nat} {b : SS} {ms : List M} {e : Env} (h : b (ms.map some ++ List.replicate (N - n) none) = .ok (.nx, e)) : runF N n pr b ms = .ok (.d .non, (killAll pr e).take n) := by unfold runF; rw [h]
end FL
namespace FL
open PySem L2 Classical
/-- the script's cells up to the k-th -/
theorem siQ_scr {ns : List Int} {env : Env} {k : Int} (h : 0 ≤ k) : siQ (sSl (vN 0) voNo (voI (vC (.int k)))) (some (.d (.scr (ns.map D.int))) :: env) = .ok ((ns.take k.toNat).map D.int, some (.d (.scr (ns.map D.int))) :: env) := by
  have e1 : sSl (vN 0) voNo (voI (vC (.int k))) (some (.d (.scr (ns.map D.int))) :: env) = .ok (.lst (((ns.take k.toNat).map D.int).map .d), some (.d (.scr (ns.map D.int))) :: env) := by
    simp only [sSl, vN, getE, voNo, voI, vC, List.getElem?_cons_zero, slM_scr, cutL_take _ h, ← List.map_take]
  unfold siQ
  rw [e1]
  simp only [fz, fzs_d, itemsD]
theorem ssFor_scr {ns : List Int} {env : Env} {k : Int} {g : SG} {b : SS} (h : 0 ≤ k) : ssFor (siQ (sSl (vN 0) voNo (voI (vC (.int k))))) g b (some (.d (.scr (ns.map D.int))) :: env) = fl g b ((ns.take k.toNat).map D.int) (some (.d (.scr (ns.map D.int))) :: env) := by
  unfold ssFor
  rw [siQ_scr h]
end FL
namespace FL
open PySem L2 Classical
/-! ### sizes told by a power that is never reckoned -/
theorem big_of {x : Int} (h : x.natAbs.log2 < 1048576) : ∃ n, n ≤ 1048576 ∧ 0 < n ∧ x.natAbs < 2 ^ n := ⟨x.natAbs.log2 + 1, by omega, by omega, Nat.lt_log2_self⟩
theorem bigs_of {ns : List Int} (h : ∀ z ∈ ns, z.natAbs.log2 < 1048576) : ∃ n, n ≤ 1048576 ∧ 0 < n ∧ ∀ z ∈ ns, z.natAbs < 2 ^ n := by
  obtain ⟨n, hn⟩ : ∃ n, n = 1048576 := ⟨_, rfl⟩
  refine ⟨n, by omega, by omega, fun z hz => ?_⟩
  have := h z hz
  rw [← hn] at this
  exact Nat.lt_of_lt_of_le Nat.lt_log2_self (Nat.pow_le_pow_right (by decide) this)
theorem div_lt {x j : Int} {n : Nat} (h : x.natAbs < 2 ^ n) (hj : 0 < j) : (x / j).natAbs < 2 ^ (n + 1) := by
  rw [Nat.pow_succ]
  have : (x / j).natAbs ≤ x.natAbs + 1 := by
    rcases Int.le_total 0 x with q | q
    · have h1 := Int.ediv_nonneg q (Int.le_of_lt hj)
      have h2 := Int.ediv_le_self j q
      omega
    · have h1 : x / j ≤ 0 := Int.ediv_nonpos_of_nonpos_of_neg q hj
      have h2 : x ≤ x / j := by
        have e := Int.mul_ediv_add_emod x j
        have e2 := Int.emod_nonneg x (show j ≠ 0 by omega)
        have e3 := Int.emod_lt_of_pos x hj
        have e4 : j * (x / j) ≤ 1 * (x / j) := Int.mul_le_mul_of_nonpos_right (by omega) h1
        have e5 : x - j < j * (x / j) := by omega
        refine Int.not_lt.mp fun q2 => ?_
        have e6 : x / j + 1 ≤ x := by omega
        have e7 : j * (x / j + 1) ≤ 1 * (x / j + 1) := Int.mul_le_mul_of_nonpos_right (by omega) (by omega)
        rw [Int.mul_add] at e7
        omega
      omega
  have : 1 ≤ 2 ^ n := Nat.one_le_two_pow
  omega
def sumI : List Int → Int
  | [] => 0
  | x :: xs => x + sumI xs
theorem sum_lt {n : Nat} : ∀ {xs : List Int}, (∀ x ∈ xs, x.natAbs < 2 ^ n) → (sumI xs).natAbs < 2 ^ (n + xs.length)
  | [], _ => by simp [sumI, Nat.two_pow_pos]
  | x :: xs, h => by
    have h1 := sum_lt fun y hy => h y (List.mem_cons_of_mem x hy)
    have h2 := h x (by simp)
    have h3 : 2 ^ n ≤ 2 ^ (n + xs.length) := Nat.pow_le_pow_right (by decide) (by omega)
    simp only [sumI, List.length_cons]
    rw [← Nat.add_assoc, Nat.pow_succ]
    omega
theorem zip_pairs : ∀ xs ys : List Int, List.zipWith pairD (xs.map D.int) (ys.map D.int) = (List.zip xs ys).map fun p => pairD (.int p.1) (.int p.2)
  | [], _ => by simp
  | _ :: _, [] => by simp
  | x :: xs, y :: ys => by simp [zip_pairs xs ys]
theorem frac_mul {t b : Int} (h : b ≠ 0) : fracT t b * b = t * fracB t b ∧ 0 < fracB t b ∧ Int.gcd (fracT t b) (fracB t b) = 1 := by
  unfold fracT fracB
  split
  · rename_i hn
    have h1 := low_cross (t := -t) (b := -b)
    refine ⟨?_, lowB_pos (by omega), low_gcd (by omega)⟩
    rw [Int.mul_neg, Int.neg_mul] at h1
    omega
  · exact ⟨low_cross, lowB_pos (by omega), low_gcd h⟩
theorem frac_lt {t b : Int} {n m : Nat} (ht : t.natAbs < 2 ^ n) (hb : b.natAbs < 2 ^ m) : (fracT t b).natAbs < 2 ^ n ∧ (fracB t b).natAbs < 2 ^ m := by
  unfold fracT fracB
  split
  · have h1 := lowT_le (t := -t) (b := -b)
    have h2 := lowB_le (t := -t) (b := -b)
    rw [Int.natAbs_neg] at h1 h2
    exact ⟨by omega, by omega⟩
  · have h1 := lowT_le (t := t) (b := b)
    have h2 := lowB_le (t := t) (b := b)
    exact ⟨by omega, by omega⟩
end FL
namespace FL
open PySem L2 Classical
theorem sumI_sum : ∀ xs : List Int, xs.sum = sumI xs
  | [] => rfl
  | x :: xs => by simp [sumI, sumI_sum xs]
theorem intsOf_map : ∀ xs : List Int, intsOf (xs.map fun x => M.d (.int x)) = some xs
  | [] => rfl
  | x :: xs => by simp [intsOf, intsOf_map xs]
/-- a slice of the script as a value -/
theorem sSl_scr {ns : List Int} {env : Env} {lo hi : Env → Res (Option Int)} {l h : Option Int} (e1 : lo (some (.d (.scr (ns.map D.int))) :: env) = .ok l) (e2 : hi (some (.d (.scr (ns.map D.int))) :: env) = .ok h) :
    sSl (vN 0) lo hi (some (.d (.scr (ns.map D.int))) :: env) = .ok (.lst ((cutL ns l h).map fun x => .d (.int x)), some (.d (.scr (ns.map D.int))) :: env) := by
  have hc : cutL (ns.map D.int) l h = (cutL ns l h).map D.int := by unfold cutL; simp
  simp only [sSl, vN, getE, List.getElem?_cons_zero, e1, e2, slM_scr, hc, List.map_map]
  rfl
end FL

set_option maxHeartbeats 2000000
/-! FLV: a caught exception that is kept; isinstance of it. -/
namespace FL
open PySem L2 Classical PySem.Spec PyProof.Rows

/-- an object that the entry didn't know, untracked till now, is tracked -/
theorem Inv.track {X : Cx} {pins : List (Addr × Obj)} {σ : L2.St} {H : Hp} {s : Shared} {a : Addr} {o : HO} (I : L2.Inv X pins σ H s) (n0 : X.s_0.heap.get? a = none) (na : H a = none) (np : ∀ p ∈ X.pn ++ pins, p.1 ≠ a) (nL : X.env.locals ≠ a) (nC : ∀ x c, X.env.cells.lookup x = some c → c ≠ a)
    (new : ObjOk X.prog X.w (upd H a o) s.heap a o) : L2.Inv X pins σ (upd H a o) s := by
  refine ⟨I.ok, I.os, I.bare, ⟨I.base.keep, I.base.slot, fun b u e n hx => ?_, I.base.there, fun b xs e => ?_, fun b u v e => ?_, fun b ps e => ?_⟩, I.loc, I.cell, ?_, fun x c e => ?_, fun p hp => ?_, HOk.laidN I.hok (fun _ _ z => z) na new, I.len⟩
  · rw [upd_ne (fun z => by rw [z, n0] at e; cases e)]; exact I.base.free b u e n hx
  · have q := I.base.tups b xs e
    rw [upd_ne (ne_of_none q na)]; exact q
  · have q := I.base.frzs b u v e
    rw [upd_ne (ne_of_none q na)]; exact q
  · obtain ⟨m, q⟩ := I.base.tbls b ps e
    exact ⟨m, by rw [upd_ne (ne_of_none q na)]; exact q⟩
  · rw [upd_ne nL]; exact I.free
  · rw [upd_ne (nC x c e)]; exact I.freeC x c e
  · obtain ⟨h1, h2, h3⟩ := I.pin p hp
    exact ⟨h1, by rw [upd_ne (np p hp)]; exact h2, h3⟩
theorem ek_ok {P : Program} {w : World} {H : Hp} {h : Heap} {a : Addr} {cls : Value} {oe : Obj} {vs : Array Value} (e : h.get? a = some oe) (z : Zc cls none oe) (d : oe.data = .fields vs) : ObjOk P w H h a (EK cls a) :=
  ⟨⟨oe, vs, e, z.1, z.2, d⟩, ⟨oe, e⟩, fun _ _ ⟨o, v, q, r⟩ k => ⟨o, v, k o q, r⟩⟩
/-- what 'except x as n: y = n' wishes of an exception of the body -/
def wKeep (K : PySem.W.Frag) (c : Value) (i j : Nat) (Wout : WX) (D : Ends) : WX := fun cls d σ H =>
  ∃ b, PySem.W.exmOne K cls c = some b ∧ (b = true → d = none ∧ ∀ a, H a = none → D.nx ((σ.set j (some (.ref a))).set i none) (upd H a (EK cls a))) ∧ (b = false → Wout cls d σ H)
section
variable {X : Cx} {x n y : Str} {c : Value} {i j : Nat} {body : List Stmt} {np pos pos' ps pn2 py : Pos} {tb : WX → TS} {Wout : WX}
theorem ps_try_keep (hs : X.stack = X.env :: X.outer) (hf : X.env.frame = some X.env.locals) (hex : X.ex = []) (hN : X.N.Nodup) (hi : X.N[i]? = some n) (hj : X.N[j]? = some y) (hij : i ≠ j) (hln : X.env.kindOf n = some .local) (hly : X.env.kindOf y = some .local) (hc : Names X x c) (tk : Takes X Wout)
    (hnd : (n == ("__debug__" : Str)) = false) (hncd : (n == ("__classdict__" : Str)) = false)
    (hb : ∀ (W : WX) (pn : List (Addr × Obj)) (xe : Value → Shared → Prop), Takes (X.tr pn xe) W → PassesOwn (model X.prog X.w) X.A X.env xe → PSs (X.tr pn xe) body (tb W))
    (hsw : ∀ (X' : Cx), X'.env = X.env → swapsWith (.Name n pn2) (some (.Name y py)) ps.line X'.env = pure false) :
    PS X (.Try body [.ExceptHandler (some (.Name x np)) (some n) [.Assign [.Name y py] (.Name n pn2) ps] pos'] [] [] pos) (fun D σ H => tb (wKeep X.K c i j Wout D) D σ H) := by
  refine ⟨fun pins s σ H D I h => ?_⟩
  have ok := I.ok
  have hfr : X.A.frames = some (X.env :: X.outer) := by rw [ok.frames, hs]
  have hloc : Loc X.env.scope n := .inl hln
  refine wpAny_Try_except ?_
  refine wpAny_mono ((hb (wKeep X.K c i j Wout D) (X.pn ++ pins) (fun e s₁ => wpAny (model X.prog X.w) X.A (noteFrame e X.env) (fun _ s₂ => wpAny (model X.prog X.w) X.A (setFlight e none) (fun _ s₃ =>
    wpAny (model X.prog X.w) X.A (handleBy e X.env [.ExceptHandler (some (.Name x np)) (some n) [.Assign [.Name y py] (.Name n pn2) ps] pos']) (SP X pins D) X.xe s₃) X.xe s₂) X.xe s₁) (fun u s' xx => ?_) PassesOwn.looking).run [] s σ H D (I.toTry _) h) (fun f s1 hsp => ?_) (fun e s1 he => he)
  · obtain ⟨a, B, sI, pins', σ', H', cls, d, rfl, J', nb, up, sky, na, os, ag, b, hb1, hyes, hno⟩ := xx
    have J : L2.Inv X pins σ' H' sI := J'.ofTry ok
    have sky' : Sky B (X.env :: X.outer) a (Zc cls d) X.env.locals s'.heap := by rw [← hs]; exact sky
    show wpAny (model X.prog X.w) X.A (noteFrame (.ref a) X.env) _ _ _
    refine Sky.land Zc.steady hfr hf sky' fun h3 fl3 up3 => ?_
    have J3 : L2.Inv X pins σ' H' { s' with heap := h3 } := J.landed nb fl3.1 (up.trans up3) os ag
    obtain ⟨oe3, vs3, he3, hz3, hd3⟩ := fl3.there
    have notFr : ∀ {h : Heap} {o : Obj} {vs : Array Value}, h.FunFrames B (X.env :: X.outer) → h.get? a = some o → o.data = .fields vs → a ∉ frs (X.env :: X.outer) := fun {h o vs} ff e dd hm => by
      obtain ⟨_, o', e', hnf⟩ := ff.mem hm
      rw [e] at e'; cases e'
      exact hnf _ dd
    have nfr := notFr fl3.2.2.1 he3 hd3
    have nL : a ≠ X.env.locals := fun z => nfr (List.mem_filterMap.mpr ⟨X.env, List.mem_cons_self, by rw [hf, z]⟩)
    have nF : a ∉ X.fs := fun hm => by
      obtain ⟨e, he, q⟩ := List.mem_filterMap.mp hm
      exact nfr (List.mem_filterMap.mpr ⟨e, List.mem_cons_of_mem _ he, q⟩)
    have S3 := J3.suite he3 hd3 na nL nF
    -- a is new
    have sIa : sI.heap.get? a = none := by
      cases e : sI.heap.get? a with
      | none => rfl
      | some o =>
        have := nb a o e (by rw [hs]; exact nfr)
        rw [fl3.2.1] at this
        cases this
    have n0 : X.s_0.heap.get? a = none := by
      cases e : X.s_0.heap.get? a with
      | none => rfl
      | some o =>
        obtain ⟨o', e'⟩ := J.base.there a o e (by rw [hex]; exact fun z => nomatch z)
        rw [sIa] at e'
        cases e'
    have nP : ∀ p ∈ X.pn ++ pins, p.1 ≠ a := fun p hp z => by
      have := (J.pin p hp).1
      rw [z, sIa] at this
      cases this
    have nC : ∀ x c, X.env.cells.lookup x = some c → c ≠ a := fun x c e z => by
      obtain ⟨v, o, ho, _⟩ := J.cell x c e
      rw [z, sIa] at ho
      cases ho
    refine wpAny_handleBy_cons (codeAny_handlers_test ?_) (by intro q; cases q)
    have LT : PySem.W.Looks (model X.prog X.w) h3 (typeOf (.ref a)) cls := fun A Q E s k q => wpAny_typeOf_ref (k _ _ he3) (by rw [hz3.1]; exact q)
    have LM := PySem.W.exm_one (M := model X.prog X.w) (J3.kIn) LT hb1
    have test : ∀ {Q : Value → Shared → Prop} {E : Value → Shared → Prop}, Q c { s' with heap := h3 } → wpAny (model X.prog X.w) (X.A.mark (some (.ref a))) (eval (.Name x np) X.env) Q E { s' with heap := h3 } := fun {Q E} q => by
      obtain ⟨hg, hdbg, hm | ⟨hm, hv, hnn⟩⟩ := hc
      · exact ld_glob (X := X.suite a ((a, oe3) :: (X.pn ++ pins))) S3 hg hm q hdbg
      · exact ld_blt (X := X.suite a ((a, oe3) :: (X.pn ++ pins))) S3 hg hm hv q hnn hdbg
    refine test (LM.here ?_)
    cases b with
    | true =>
      obtain ⟨rfl, hyes'⟩ := hyes rfl
      refine codeAny_handlers_suite_as ?_
      refine HandSPX.lands_againZ fl3 fun h4 fl4 up4 => ?_
      have J4 : L2.Inv X pins σ' H' { s' with heap := h4 } := J.landed nb fl4.1 ((up.trans up3).trans up4) os ag
      obtain ⟨oe4, vs4, he4, hz4, hd4⟩ := fl4.there
      have S4 := J4.suite he4 hd4 na nL nF
      refine store_ok (X := X.suite a ((a, oe4) :: (X.pn ++ pins))) (v := .ref a) S4 hN hi hloc rfl (fun s5 S5 => ?_) (.inr hln)
      have hsu : PSs (X.suite a ((a, oe4) :: (X.pn ++ pins))) [.Assign [.Name y py] (.Name n pn2) ps] (tAsg (tVar i) (gName j)) :=
        pss_one (ps_set (X := X.suite a ((a, oe4) :: (X.pn ++ pins))) hN hj (.inl hly) (pe_var (X := X.suite a ((a, oe4) :: (X.pn ++ pins))) hi (.inl hln) hnd hncd) (hsw _ rfl) (.inr hly))
      have hi' : (σ'.set i (some (.ref a)))[i]? = some (some (.ref a)) := by
        rw [List.getElem?_set_self]
        rw [J.len]
        exact (List.getElem?_eq_some_iff.mp hi).1
      refine wpAny_mono (hsu.run [] s5 _ H' { nx := fun σ6 H6 => σ6 = (σ'.set i (some (.ref a))).set j (some (.ref a)) ∧ H6 = H', rt := fun _ _ => False } S5 ⟨.ref a, hi', rfl, rfl⟩) (fun f s6 hsp => ?_) (fun _ _ z => False.elim z)
      cases f with
      | next =>
        obtain ⟨σ6, H6, S6, rfl, rfl⟩ := hsp
        have pin := (S6.pin (a, oe4) (List.mem_append_left _ List.mem_cons_self)).1
        have T6 := Inv.track (o := EK cls a) (S6.unsuite ok) n0 na nP (Ne.symm nL) nC (ek_ok pin hz4 hd4)
        refine gone_ok T6 hN hi hln fun s7 J7 => ⟨_, _, J7, ?_⟩
        have e : (((σ'.set i (some (.ref a))).set j (some (.ref a))).set i none) = (σ'.set j (some (.ref a))).set i none := by
          rw [List.set_comm _ _ hij, List.set_set]
        rw [e]
        exact hyes' a na
      | brk => obtain ⟨σ6, H6, S6, z⟩ := hsp; exact z.elim
      | cont => obtain ⟨σ6, H6, S6, z⟩ := hsp; exact z.elim
      | ret u => obtain ⟨v6, σ6, H6, S6, r6, z⟩ := hsp; exact z.elim
    | false =>
      show wpAny _ X.A (handleBy (.ref a) X.env []) _ _ _
      refine wpAny_handleBy_nil ?_
      obtain ⟨k1, k2, k3, oe, vs, T, oT, ts', he, hz, hd, h1, hr⟩ := id fl3
      unfold PySem.passOn
      refine wpAny_bind (wpAny_field he hd h1 ?_)
      rw [if_neg (show ¬ ((Value.ref T == Value.none) = true) from by simp)]
      have fin : wpAny (model X.prog X.w) X.A (setFlight (.ref a) X.env.frame) (fun _ s4 => wpAny (model X.prog X.w) X.A (throw (.ref a) : Sem Flow) (SP X pins D) X.xe s4) X.xe { s' with heap := h3 } := by
        rw [hf]
        refine HandSPX.setFlight_upZ fl3 fun h4 hh4 up4 => wpAny_throw (tk _ _ ?_)
        exact ⟨a, B, sI, pins, σ', H', cls, d, rfl, J, nb, (up.trans up3).trans up4, .inr (.inr (by rw [hs]; exact hh4)), na, os, ag, hno rfl⟩
      first
        | exact wpAny_bind (wpAny_pure (wpAny_bind fin))
        | exact wpAny_bind fin
  · cases f with
    | next =>
      obtain ⟨σ', H', J', q⟩ := hsp
      exact wpAny_execs_nil ⟨σ', H', J'.ofTry ok, q⟩
    | brk =>
      obtain ⟨σ', H', J', q⟩ := hsp
      exact ⟨σ', H', J'.ofTry ok, q⟩
    | cont =>
      obtain ⟨σ', H', J', q⟩ := hsp
      exact ⟨σ', H', J'.ofTry ok, q⟩
    | ret u =>
      obtain ⟨v, σ', H', J', r, q⟩ := hsp
      exact ⟨v, σ', H', J'.ofTry ok, r, q⟩
end
end FL
namespace FL
open PySem L2 Classical
/-! ### statements: the reading that is just the semantics -/
def SSem (G : Gx) (W : WX') (P : Px) (f : SS) : TS := fun D σ H => ∃ Z env S, Good G Z H σ env S ∧ SPost G W P D Z H (U S) σ (f env)
theorem PSs'.sem {G : Gx} {X : Cx} {W : WX'} {P : Px} {sts : List Stmt} {f : SS} (h : PSs' G X W P sts f) : PSs X sts (SSem G W P f) := by
  obtain ⟨t, p, h⟩ := h.ex
  refine ⟨fun pins s σ H D I q => p.run pins s σ H D I ?_⟩
  obtain ⟨Z, env, S, g, q⟩ := q
  exact h D Z H σ env S g q
theorem Good.killσ {G : Gx} {Z H : Hp} {σ : L2.St} {env : Env} {S : Rs} {i : Nat} (g : Good G Z H σ (env.set i none) S) : Good G Z H (σ.set i none) (env.set i none) S := by
  refine ⟨g.zh, fun k m e => ?_, g.dj, g.al, g.zf, by have := g.len; rw [List.length_set] at this ⊢; rw [List.length_set]; exact this⟩
  by_cases hk : i = k
  · subst hk
    by_cases hl : i < env.length
    · rw [List.getElem?_set_self hl] at e; cases e
    · rw [List.getElem?_eq_none (by rw [List.length_set]; omega)] at e; cases e
  · rw [List.getElem?_set_ne hk]
    exact g.rep k m e
/-- whom an except clause takes: the class's name, or nobody known -/
abbrev Tab := String → Option Bool
def ssTryK (i j : Nat) (tab : Tab) (f : SS) : SS := fun env => match f env with
  | .exc x e => match tab x.C, x.row with
    | some true, none => if i < e.length ∧ j < e.length then .ok (.nx, (e.set j (some (.d (.exc x.C)))).set i none) else .bad
    | _, _ => .bad
  | r => r
section
variable {G : Gx} {X : Cx} {W : WX'} {P : Px} {x n y : Str} {c : Value} {body : List Stmt} {np pos pos' ps pn2 py : Pos} {f : SS} {tab : Tab}
theorem xs_tryK (i j : Nat) (hK : G.K = X.K) (hs : X.stack = X.env :: X.outer) (hf : X.env.frame = some X.env.locals) (hex : X.ex = []) (hN : X.N.Nodup) (tk : Takes X W) (hc : Names X x c) (ht : ∀ C b, tab C = some b → PySem.W.exmOne G.K (.ref (G.ad C)) c = some b)
    (hb : ∀ (W' : WX') (pn : List (Addr × Obj)) (xe : Value → Shared → Prop), Takes (X.tr pn xe) W' → PassesOwn (model X.prog X.w) X.A X.env xe → PSs' G (X.tr pn xe) W' P body f)
    (hi : X.N[i]? = some n := by rfl) (hj : X.N[j]? = some y := by rfl) (hij : i ≠ j := by decide) (hln : X.env.kindOf n = some .local := by rfl) (hly : X.env.kindOf y = some .local := by rfl) (hPi : ¬ P i := by decide) (hPj : ¬ P j := by decide)
    (hnd : (n == ("__debug__" : Str)) = false := by decide) (hncd : (n == ("__classdict__" : Str)) = false := by decide)
    (hsw : ∀ (X' : Cx), X'.env = X.env → swapsWith (.Name n pn2) (some (.Name y py)) ps.line X'.env = pure false := by intro _ e; rw [e]; rfl) :
    PS' G X W P (.Try body [.ExceptHandler (some (.Name x np)) (some n) [.Assign [.Name y py] (.Name n pn2) ps] pos'] [] [] pos) (ssTryK i j tab f) := by
  refine ⟨_, ps_try_keep (tb := fun W' => SSem G W' P f) hs hf hex hN hi hj hij hln hly hc tk hnd hncd (fun W' pn xe tk' hp => (hb W' pn xe tk' hp).sem) hsw, fun D Z H σ env S gd p => ?_⟩
  refine ⟨Z, env, S, gd, ?_⟩
  unfold ssTryK at p
  cases e : f env with
  | bad => rw [e] at p; exact p.elim
  | ok r =>
    rw [e] at p
    obtain ⟨fl', e1⟩ := r
    cases fl' <;> exact p
  | exc xx e1 =>
    rw [e] at p
    intro cls d σ' Z' H' S' hx fx s' g'
    cases et : tab xx.C with
    | none => simp only [et] at p; exact p.elim
    | some b =>
      cases er : xx.row with
      | some m => simp only [et, er] at p; cases b <;> exact p.elim
      | none =>
        cases b with
        | false => simp only [et, er] at p; exact p.elim
        | true =>
          simp only [et, er] at p
          split at p
          case isFalse => exact p.elim
          rename_i hl
          have hx' : cls = .ref (G.ad xx.C) ∧ d = none := by
            obtain ⟨h1, h2⟩ := hx
            rw [er] at h2
            exact ⟨h1, h2⟩
          obtain ⟨rfl, rfl⟩ := hx'
          refine ⟨true, by rw [← hK]; exact ht _ _ et, fun _ => ⟨rfl, fun a ha => ?_⟩, fun z => nomatch z⟩
          have st := Stp.newZ (o := EK (.ref (G.ad xx.C)) a) g'.zh ha (U S')
          have g2 := (g'.move (Stp.newZ (o := EK (.ref (G.ad xx.C)) a) g'.zh ha (fun _ => False)) fun _ _ z => z).1
          have g3 := g2.put (i := j) (m := .d (.exc xx.C)) (T := fun _ => False) (v := .ref a) (Hld.data (by simp only [RepD]; exact ⟨a, rfl, upd_same⟩)) hl.2
          have g4 := g3.kill i
          refine p _ _ _ _ ?_ ((s'.trans st).weak fun b z => ?_) (Good.killσ g4)
          · refine fx.trans ⟨fun k hk => ?_, by rw [List.length_set, List.length_set]⟩
            rw [List.getElem?_set_ne (fun (z : i = k) => hPi (by rw [z]; exact hk)), List.getElem?_set_ne (fun (z : j = k) => hPj (by rw [z]; exact hk))]
          · exact (Rs.set_sub (Rs.wipe_le z)).elim id fun z => z.elim
end

/-! ### isinstance of a caught exception -/
def vIsx (tab : Tab) (g : VE) : VE := fun env => match g env with
  | .ok (.d (.exc C)) => match tab C with
    | some b => .ok (.d (.bl b))
    | none => .bad
  | _ => .bad

def rIsEK (K : PySem.W.Frag) : List V → Hp → VK → Prop := fun xs H Q => ∃ (a D : Addr) (c : V) (cv : Value) (b : Bool), xs = [.ref a, c] ∧ H a = some (EK (.ref D) a) ∧ ExcC K D ∧ (∀ u, RelV c u → u = cv) ∧ PySem.W.kitOne K (.ref D) cv = some b ∧ Q (.bl b) H
theorem call_isEK {X : Cx} : CallR X (.builtin "isinstance") (rIsEK X.K) := by
  intro pins s σ H xs us Q I r h
  obtain ⟨a, D, c, cv, b, rfl, ha, C, hcv, e, q⟩ := h
  cases r with
  | cons rx rr =>
    cases rr with
    | cons rt rr =>
      cases rr
      cases rx
      have ec := hcv _ rt
      subst ec
      obtain ⟨⟨oe, vs, hget, h1, h2, h3⟩, _⟩ := I.hok a _ ha
      have J : PySem.W.InstAt s.heap a oe D none := by
        obtain ⟨oc, od, oda, osl⟩ := oe
        dsimp only at h1 h2 h3
        subst h1 h2 h3
        exact ⟨hget, rfl, rfl, trivial⟩
      exact PySem.W.kia_one (PySem.W.handS_kitx_exc C.hg C.hk C.hs C.hd C.ha C.hn C.ht C.hm) I.kIn J e (fun z => nomatch z) fun tk => ⟨.bl b, H, I.kept (t' := tk) fun _ _ z => z, rfl, q⟩
section
variable {G : Gx} {X : Cx} {e : Expr} {g : VE} {T : Str} {p p2 pos : Pos}
/-- isinstance(e, T), T a class: cv its value -/
theorem xv_isx (tab : Tab) {c : V} {cv : Value} (hK : G.K = X.K) (hm : X.mg "isinstance" = none) (ht : ∀ C b, tab C = some b → PySem.W.kitOne G.K (.ref (G.ad C)) cv = some b ∧ ExcC G.K (G.ad C)) (h : PVs G X e g) (hT : PE X (.Name T p2) (tC c)) (hcv : ∀ u, RelV c u → u = cv)
    (hg : Gl X "isinstance" := by rfl)
    (he : starEach (e :: [.Name T p2]) X.env = (false, eval e X.env) :: starEach [.Name T p2] X.env := by rfl) (he2 : starEach (.Name T p2 :: []) X.env = (false, eval (.Name T p2) X.env) :: starEach [] X.env := by rfl) (hpl : (backTo pos (starEach [.Name T p2] X.env)).any (·.1) = false := by rfl) :
    PVs G X (.Call (.Name "isinstance" p) [e, .Name T p2] [] pos) (vIsx tab g) := by
  obtain ⟨te, q, h⟩ := h.ex
  refine ⟨_, pe_callB call_isEK hg hm PyProof.Rows.boot_isinstance (pa_cons q (pa_cons hT pa_nil he2) he) (by decide) (by decide) he hpl, fun Z H σ env S Q gd => ?_⟩
  unfold vIsx
  have h1 := h Z H σ env S (fun x H1 => tCons (tC c) tNil σ H1 fun xs H2 => rIsEK X.K (x :: xs) H2 Q) gd
  cases e1 : g env with
  | ok m =>
    rw [e1] at h1
    cases m with
    | d x =>
      cases x with
      | exc C =>
        simp only
        cases et : tab C with
        | none => trivial
        | some b =>
          intro k
          refine h1 fun v T1 _ r1 => ?_
          simp only [RepM, RepD] at r1
          obtain ⟨a, rfl, ha⟩ := r1
          obtain ⟨k1, k2⟩ := ht C b et
          rw [hK] at k1 k2
          rw [hK] at *
          exact ⟨a, G.ad C, c, cv, b, rfl, gd.zh _ _ ha, k2, hcv, k1, k _ (fun _ => False) (fun _ z => z.elim) (by simp [RepM, RepD])⟩
      | _ => trivial
    | _ => trivial
  | _ => trivial
theorem xv_isO (tab : Tab) {Ta : Addr} (hK : G.K = X.K) (hm : X.mg "isinstance" = none) (hmT : X.mg T = some (.ref Ta)) (ht : ∀ C b, tab C = some b → PySem.W.kitOne G.K (.ref (G.ad C)) (.ref Ta) = some b ∧ ExcC G.K (G.ad C)) (h : PVs G X e g) (hgT : Gl X T := by rfl) (hdb : (T == ("__debug__" : Str)) = false := by decide)
    (hg : Gl X "isinstance" := by rfl)
    (he : starEach (e :: [.Name T p2]) X.env = (false, eval e X.env) :: starEach [.Name T p2] X.env := by rfl) (he2 : starEach (.Name T p2 :: []) X.env = (false, eval (.Name T p2) X.env) :: starEach [] X.env := by rfl) (hpl : (backTo pos (starEach [.Name T p2] X.env)).any (·.1) = false := by rfl) :
    PVs G X (.Call (.Name "isinstance" p) [e, .Name T p2] [] pos) (vIsx tab g) :=
  xv_isx tab (c := .ref Ta) (cv := .ref Ta) hK hm ht h (pe_glob hgT hmT rfl hdb) (fun u r => r) hg he he2 hpl
theorem xv_isT (tab : Tab) {ty : String} (hK : G.K = X.K) (hm : X.mg "isinstance" = none) (hmT : X.mg T = none) (hv : bootBuiltins T = some (.type ty)) (ht : ∀ C b, tab C = some b → PySem.W.kitOne G.K (.ref (G.ad C)) (.type ty) = some b ∧ ExcC G.K (G.ad C)) (h : PVs G X e g) (hgT : Gl X T := by rfl) (hn : T ≠ "__name__" := by decide) (hdb : (T == ("__debug__" : Str)) = false := by decide)
    (hg : Gl X "isinstance" := by rfl)
    (he : starEach (e :: [.Name T p2]) X.env = (false, eval e X.env) :: starEach [.Name T p2] X.env := by rfl) (he2 : starEach (.Name T p2 :: []) X.env = (false, eval (.Name T p2) X.env) :: starEach [] X.env := by rfl) (hpl : (backTo pos (starEach [.Name T p2] X.env)).any (·.1) = false := by rfl) :
    PVs G X (.Call (.Name "isinstance" p) [e, .Name T p2] [] pos) (vIsx tab g) :=
  xv_isx tab (c := .ty ty) (cv := .type ty) hK hm ht h (pe_bltn (v := .ty ty) hgT hmT hv rfl hn hdb) (fun u r => r) hg he he2 hpl
end
end FL
namespace FL
open PySem PySem.W
theorem kit_ref {K : Frag} {C : Addr} {t : Value} {b : Bool} (hdct : hasDictIn K C = true) (ht : typeIn K (.ref C) = some (.type "type")) (h4 : subIn K t (.ref C) = some b) (hs : t = .ref C → b = true) : kitOne K t (.ref C) = some b := by
  unfold kitOne
  by_cases h : (t == .ref C) = true
  · rw [if_pos h, hs (beq_iff_eq.mp h)]
  · rw [if_neg h]
    obtain ⟨cd, hc, _⟩ := any_some hdct
    have e2 : ((clsIn K C).isSome && typeIn K (.ref C) == some (.type "type")) = true := by rw [hc, ht] <;> rfl
    show (if ((clsIn K C).isSome && typeIn K (.ref C) == some (.type "type")) = true then subIn K t (.ref C) else none) = some b
    rw [if_pos e2]
    exact h4
theorem kit_typ {K : Frag} {C : Addr} {T : String} {b : Bool} (hm : kitMeta T = true) (h4 : subIn K (.ref C) (.type T) = some b) : kitOne K (.ref C) (.type T) = some b := by
  unfold kitOne
  rw [if_neg (by intro z; have := beq_iff_eq.mp z; cases this)]
  show (if kitMeta T = true then subIn K (.ref C) (.type T) else none) = some b
  rw [if_pos hm]
  exact h4
end FL

set_option maxHeartbeats 2000000
/-! FLX: walks over lists that stay where they are: watched slots. -/
namespace FL
open PySem L2 Classical

def wOk (ws : List Nat) (env0 env : Env) : Prop := ∀ i ∈ ws, env[i]? = env0[i]?
def Wt (ws : List Nat) (σ0 : L2.St) (env0 : Env) (σ : L2.St) (env : Env) : Prop := ∀ i ∈ ws, σ[i]? = σ0[i]? ∧ env[i]? = env0[i]?
structure YieldsW (G : Gx) (ws : List Nat) (Z0 : Hp) (σ0 : L2.St) (env0 : Env) (J : It) (xs : List D) : Prop where
  stop : ∀ Z H σ env S i, Good G Z H σ env S → Same Z0 Z → Wt ws σ0 env0 σ env → xs.length ≤ i → J.stop i H
  item : ∀ Z H σ env S i d, Good G Z H σ env S → Same Z0 Z → Wt ws σ0 env0 σ env → xs[i]? = some d → J.go i H ∧ ∀ x H', J.yld i H x H' → ∃ Z', Stp Z H (fun _ => False) Z' H' (fun _ => False) ∧ RepD G Z' d x
abbrev SIw := Env → Res (List D)
def TIokW (G : Gx) (ws : List Nat) (t : TI) (f : SIw) : Prop := ∀ (Z H : Hp) (σ : L2.St) (env : Env) (S : Rs) (R : It → Hp → Prop), Good G Z H σ env S →
  match f env with
  | .ok xs => (∀ J, YieldsW G ws Z σ env J xs → R J H) → t σ H R
  | _ => True
structure PIw (G : Gx) (X : Cx) (ws : List Nat) (tg e : Expr) (f : SIw) : Prop where
  ex : ∃ t, PI X tg e t ∧ TIokW G ws t f

/-! ### names, zip of names, enumerate of a name -/
def iwN (i : Nat) : SIw := fun env => match getE env i with
  | .ok m => match brw m with
    | some (_, xs) => .ok xs
    | none => .bad
  | _ => .bad
def iwZ (i j : Nat) : SIw := fun env => match getE env i, getE env j with
  | .ok m1, .ok m2 => match brw m1, brw m2 with
    | some (b1, xs), some (b2, ys) => if b1 = b2 then .ok (List.zipWith pairD xs ys) else .bad
    | _, _ => .bad
  | _, _ => .bad
def iwE (i : Nat) : SIw := fun env => match getE env i with
  | .ok m => match brw m with
    | some (false, xs) => .ok (enumD 0 xs)
    | _ => .bad
  | _ => .bad
theorem wt_rep {G : Gx} {Z H : Hp} {σ σ0 : L2.St} {env env0 : Env} {S : Rs} {ws : List Nat} {i : Nat} {m : M} {v : V} {b : Bool} {xs : List D} (g : Good G Z H σ env S) (w : Wt ws σ0 env0 σ env) (hi : i ∈ ws) (e : env0[i]? = some (some m)) (hv : σ0[i]? = some (some v)) (eb : brw m = some (b, xs)) :
    ∃ a vs, v = .ref a ∧ RepDs G Z xs vs ∧ (b = true → SqT G.K H a vs) ∧ (b = false → SqL G.K H a vs) := by
  obtain ⟨w1, w2⟩ := w i hi
  rw [e] at w2
  rw [hv] at w1
  obtain ⟨v', hv', r⟩ := g.rep i m w2
  rw [w1] at hv'
  cases hv'
  obtain ⟨a, vs, rfl, rr, sq⟩ := brw_rep g.zh r eb
  obtain ⟨s1, s2⟩ := sq Z H (Same.refl _) g.zh fun _ _ _ z => z
  exact ⟨a, vs, rfl, rr, s1, s2⟩
section
variable {G : Gx} {X : Cx} {tg : Expr} {x y : Str} {p p2 pc : Pos}
theorem xw_name (i : Nat) (hK : G.K = X.K) (hN : X.N[i]? = some x := by rfl) (hv : Vis X.env.scope x := by first | exact Or.inl rfl | exact Or.inr (Or.inl rfl) | exact Or.inr (Or.inr rfl)) (hd : (x == ("__debug__" : Str)) = false := by decide) (hcd : (x == ("__classdict__" : Str)) = false := by decide) :
    PIw G X [i] tg (.Name x p) (iwN i) := by
  have h1 : PI X tg (.Name x p) (iList G.K (tVar i)) := by rw [hK]; exact pi_list (pe_var hN hv hd hcd)
  have h2 : PI X tg (.Name x p) (iTup G.K (tVar i)) := by rw [hK]; exact pi_tup (pe_var hN hv hd hcd)
  refine ⟨_, PI.or h1 h2, fun Z H σ env S R gd => ?_⟩
  unfold iwN
  rcases getE_cases env i with ⟨m, e⟩ | e
  case inr => rw [e]; trivial
  rw [e]
  simp only
  cases e3 : brw m with
  | none => trivial
  | some pr =>
    obtain ⟨bb, xs⟩ := pr
    intro k
    have em := getE_ok e
    obtain ⟨v, hv, r⟩ := gd.rep i m em
    have w0 : Wt [i] σ env σ env := fun _ _ => ⟨rfl, rfl⟩
    obtain ⟨a, vs, rfl, rr, s1, s2⟩ := wt_rep gd w0 (by simp) em hv e3
    cases bb with
    | false =>
      refine .inl ⟨.ref a, hv, a, rfl, ⟨vs, s2 rfl⟩, k _ ⟨fun Z1 H1 σ1 env1 S1 n g1 hz w hl => ?_, fun Z1 H1 σ1 env1 S1 n d g1 hz w ed => ?_⟩⟩
      · obtain ⟨a', us, ea, rr1, _, q2⟩ := wt_rep g1 w (by simp) em hv e3
        cases ea
        exact ⟨us, q2 rfl, by rw [← rr1.len]; exact hl⟩
      · obtain ⟨a', us, ea, rr1, _, q2⟩ := wt_rep g1 w (by simp) em hv e3
        cases ea
        obtain ⟨u, hu, ru⟩ := rr1.get ed
        refine ⟨⟨us, u, q2 rfl, hu⟩, fun z H' hy => ?_⟩
        obtain ⟨rfl, hx⟩ := hy
        have := hx us (q2 rfl)
        rw [hu] at this; cases this
        exact ⟨Z1, Stp.refl g1.zh, ru⟩
    | true =>
      refine .inr ⟨.ref a, hv, a, rfl, ⟨vs, s1 rfl⟩, k _ ⟨fun Z1 H1 σ1 env1 S1 n g1 hz w hl => ?_, fun Z1 H1 σ1 env1 S1 n d g1 hz w ed => ?_⟩⟩
      · obtain ⟨a', us, ea, rr1, q1, _⟩ := wt_rep g1 w (by simp) em hv e3
        cases ea
        exact ⟨us, q1 rfl, by rw [← rr1.len]; exact hl⟩
      · obtain ⟨a', us, ea, rr1, q1, _⟩ := wt_rep g1 w (by simp) em hv e3
        cases ea
        obtain ⟨u, hu, ru⟩ := rr1.get ed
        refine ⟨⟨us, u, q1 rfl, hu⟩, fun z H' hy => ?_⟩
        obtain ⟨rfl, hx⟩ := hy
        have := hx us (q1 rfl)
        rw [hu] at this; cases this
        exact ⟨Z1, Stp.refl g1.zh, ru⟩
theorem xw_enum {elts : List Expr} {kk : Nat} {tpos : Pos} (i : Nat) (hK : G.K = X.K) (hm : X.mg "enumerate" = none) (hN : X.N[i]? = some x := by rfl) (hv : Vis X.env.scope x := by first | exact Or.inl rfl | exact Or.inr (Or.inl rfl) | exact Or.inr (Or.inr rfl)) (hd : (x == ("__debug__" : Str)) = false := by decide) (hcd : (x == ("__classdict__" : Str)) = false := by decide)
    (hg : Gl X "enumerate" := by rfl) (hs : starEach [.Name x p] X.env = [(false, eval (.Name x p) X.env)] := by rfl) (hst : starEach [.Name x p] X.env = (false, eval (.Name x p) X.env) :: starEach [] X.env := by rfl) :
    PIw G X [i] (.Tuple elts kk tpos) (.Call (.Name "enumerate" p2) [.Name x p] [] pc) (iwE i) := by
  have h1 : PI X (.Tuple elts kk tpos) (.Call (.Name "enumerate" p2) [.Name x p] [] pc) (iEnum G.K (tCons (tVar i) tNil)) := by rw [hK]; exact pi_enum hg hm (pa_cons (pe_var hN hv hd hcd) pa_nil hst) hs
  refine ⟨_, h1, fun Z H σ env S R gd => ?_⟩
  unfold iwE
  rcases getE_cases env i with ⟨m, e⟩ | e
  case inr => rw [e]; trivial
  rw [e]
  simp only
  cases e3 : brw m with
  | none => trivial
  | some pr =>
    obtain ⟨bb, xs⟩ := pr
    cases bb with
    | true => trivial
    | false =>
      intro k
      have em := getE_ok e
      obtain ⟨v, hv, r⟩ := gd.rep i m em
      have w0 : Wt [i] σ env σ env := fun _ _ => ⟨rfl, rfl⟩
      obtain ⟨a, vs, rfl, rr, s1, s2⟩ := wt_rep gd w0 (by simp) em hv e3
      refine ⟨.ref a, hv, a, vs, rfl, s2 rfl, k _ ⟨fun Z1 H1 σ1 env1 S1 n g1 hz w hl => ?_, fun Z1 H1 σ1 env1 S1 n d g1 hz w ed => ?_⟩⟩
      · obtain ⟨a', us, ea, rr1, _, q2⟩ := wt_rep g1 w (by simp) em hv e3
        cases ea
        exact ⟨us, q2 rfl, by rw [enum_len] at hl; rw [← rr1.len]; exact hl⟩
      · obtain ⟨a', us, ea, rr1, _, q2⟩ := wt_rep g1 w (by simp) em hv e3
        cases ea
        obtain ⟨y', ey, rfl⟩ := enum_get ed
        obtain ⟨u, hu, ru⟩ := rr1.get ey
        refine ⟨⟨us, u, q2 rfl, hu⟩, fun z H2 hy => ?_⟩
        obtain ⟨T, v', rfl, hT, rfl, k1⟩ := hy
        have e1 := k1 us (q2 rfl)
        rw [hu] at e1; cases e1
        have st := Stp.newZ (o := .tup [.int (n : Nat), u]) g1.zh hT (fun _ => False)
        refine ⟨_, st, ?_⟩
        simp only [RepD, RepDs, Nat.zero_add]
        exact ⟨T, [.int (n : Nat), u], rfl, SqT.of upd_same, _, [u], rfl, rfl, u, [], rfl, RepD.mono st.z _ _ ru, rfl⟩
theorem xw_zip {elts : List Expr} {kk : Nat} {tpos p1 pz : Pos} (i j : Nat) (hK : G.K = X.K) (hm : X.mg "zip" = none)
    (hN : X.N[i]? = some x := by rfl) (hv : Vis X.env.scope x := by first | exact Or.inl rfl | exact Or.inr (Or.inl rfl) | exact Or.inr (Or.inr rfl)) (hd : (x == ("__debug__" : Str)) = false := by decide) (hcd : (x == ("__classdict__" : Str)) = false := by decide)
    (hN2 : X.N[j]? = some y := by rfl) (hv2 : Vis X.env.scope y := by first | exact Or.inl rfl | exact Or.inr (Or.inl rfl) | exact Or.inr (Or.inr rfl)) (hd2 : (y == ("__debug__" : Str)) = false := by decide) (hcd2 : (y == ("__classdict__" : Str)) = false := by decide)
    (hgz : Gl X "zip" := by rfl) (hs1 : starEach [.Name x p1, .Name y p2] X.env = (false, eval (.Name x p1) X.env) :: starEach [.Name y p2] X.env := by rfl) (hs2 : starEach [.Name y p2] X.env = (false, eval (.Name y p2) X.env) :: starEach [] X.env := by rfl) (hpl : (backTo pc (starEach [.Name y p2] X.env)).any (·.1) = false := by rfl) :
    PIw G X [i, j] (.Tuple elts kk tpos) (.Call (.Name "zip" pz) [.Name x p1, .Name y p2] [] pc) (iwZ i j) := by
  have h1 : PI X (.Tuple elts kk tpos) (.Call (.Name "zip" pz) [.Name x p1, .Name y p2] [] pc) (RZ.iZipA G.K (tCons (tVar i) (tCons (tVar j) tNil))) := by
    rw [hK]
    exact RZ.pi_zipA hgz hm (pa_cons (pe_var hN hv hd hcd) (pa_cons (pe_var hN2 hv2 hd2 hcd2) pa_nil hs2) hs1) hs1 hpl
  refine ⟨_, h1, fun Z H σ env S R gd => ?_⟩
  unfold iwZ
  rcases getE_cases env i with ⟨m1, e1⟩ | e1
  case inr => rw [e1]; trivial
  rcases getE_cases env j with ⟨m2, e2⟩ | e2
  case inr => rw [e1, e2]; trivial
  rw [e1, e2]
  simp only
  cases e3 : brw m1 with
  | none => trivial
  | some pr =>
    obtain ⟨b1, xs⟩ := pr
    cases e4 : brw m2 with
    | none => trivial
    | some pr =>
      obtain ⟨b2, ys⟩ := pr
      simp only
      by_cases hb : b1 = b2
      case neg => rw [if_neg hb]; trivial
      rw [if_pos hb]
      subst hb
      intro k
      have em1 := getE_ok e1
      have em2 := getE_ok e2
      obtain ⟨v1, hv1, _⟩ := gd.rep i m1 em1
      obtain ⟨v2, hv2', _⟩ := gd.rep j m2 em2
      have w0 : Wt [i, j] σ env σ env := fun _ _ => ⟨rfl, rfl⟩
      obtain ⟨a, vs, rfl, rr, s1, s2⟩ := wt_rep gd w0 (by simp) em1 hv1 e3
      obtain ⟨c, ws, rfl, rr2, t1, t2⟩ := wt_rep gd w0 (by simp) em2 hv2' e4
      have two : ∀ {Z1 H1 : Hp} {σ1 : L2.St} {env1 : Env} {S1 : Rs}, Good G Z1 H1 σ1 env1 S1 → Wt [i, j] σ env σ1 env1 → ∃ us zs, RepDs G Z1 xs us ∧ RepDs G Z1 ys zs ∧ (b1 = true → SqT G.K H1 a us ∧ SqT G.K H1 c zs) ∧ (b1 = false → SqL G.K H1 a us ∧ SqL G.K H1 c zs) := fun g1 w => by
        obtain ⟨a', us, ea, rr1, q1, q2⟩ := wt_rep g1 w (by simp) em1 hv1 e3
        cases ea
        obtain ⟨c', zs, ec, rr3, q3, q4⟩ := wt_rep g1 w (by simp) em2 hv2' e4
        cases ec
        exact ⟨us, zs, rr1, rr3, fun h => ⟨q1 h, q3 h⟩, fun h => ⟨q2 h, q4 h⟩⟩
      refine ⟨.ref a, hv1, .ref c, hv2', a, c, vs, ws, rfl, ?_⟩
      cases b1 with
      | false =>
        refine .inl ⟨s2 rfl, t2 rfl, k _ ⟨fun Z1 H1 σ1 env1 S1 n g1 hz w hl => ?_, fun Z1 H1 σ1 env1 S1 n d g1 hz w ed => ?_⟩⟩
        · obtain ⟨us, zs, r1, r2, _, q⟩ := two g1 w
          refine ⟨us, zs, (q rfl).1, (q rfl).2, ?_⟩
          rw [List.length_zipWith] at hl
          rw [← r1.len, ← r2.len]
          omega
        · obtain ⟨us, zs, r1, r2, _, q⟩ := two g1 w
          obtain ⟨x1, y1, ex, ey, rfl⟩ := zw_get ed
          obtain ⟨u, hu, ru⟩ := r1.get ex
          obtain ⟨z, hz', rz⟩ := r2.get ey
          refine ⟨⟨us, zs, u, z, (q rfl).1, (q rfl).2, hu, hz'⟩, fun u' H' hy => ?_⟩
          obtain ⟨T, v', w', rfl, hT, rfl, k3, k4⟩ := hy
          have e5 := k3 us (q rfl).1
          have e6 := k4 zs (q rfl).2
          rw [hu] at e5; cases e5
          rw [hz'] at e6; cases e6
          have st := Stp.newZ (o := .tup [u, z]) g1.zh hT (fun _ => False)
          refine ⟨_, st, ?_⟩
          simp only [pairD, RepD, RepDs]
          exact ⟨T, [u, z], rfl, SqT.of upd_same, u, [z], rfl, RepD.mono st.z _ _ ru, z, [], rfl, RepD.mono st.z _ _ rz, rfl⟩
      | true =>
        refine .inr ⟨s1 rfl, t1 rfl, k _ ⟨fun Z1 H1 σ1 env1 S1 n g1 hz w hl => ?_, fun Z1 H1 σ1 env1 S1 n d g1 hz w ed => ?_⟩⟩
        · obtain ⟨us, zs, r1, r2, q, _⟩ := two g1 w
          refine ⟨us, zs, (q rfl).1, (q rfl).2, ?_⟩
          rw [List.length_zipWith] at hl
          rw [← r1.len, ← r2.len]
          omega
        · obtain ⟨us, zs, r1, r2, q, _⟩ := two g1 w
          obtain ⟨x1, y1, ex, ey, rfl⟩ := zw_get ed
          obtain ⟨u, hu, ru⟩ := r1.get ex
          obtain ⟨z, hz', rz⟩ := r2.get ey
          refine ⟨⟨us, zs, u, z, (q rfl).1, (q rfl).2, hu, hz'⟩, fun u' H' hy => ?_⟩
          obtain ⟨T, v', w', rfl, hT, rfl, k3, k4⟩ := hy
          have e5 := k3 us (q rfl).1
          have e6 := k4 zs (q rfl).2
          rw [hu] at e5; cases e5
          rw [hz'] at e6; cases e6
          have st := Stp.newZ (o := .tup [u, z]) g1.zh hT (fun _ => False)
          refine ⟨_, st, ?_⟩
          simp only [pairD, RepD, RepDs]
          exact ⟨T, [u, z], rfl, SqT.of upd_same, u, [z], rfl, RepD.mono st.z _ _ ru, z, [], rfl, RepD.mono st.z _ _ rz, rfl⟩
end

/-! ### for -/
noncomputable def flw (ws : List Nat) (env0 : Env) (g : SG) (b : SS) : List D → SS
  | [], env => if wOk ws env0 env then .ok (.nx, env) else .bad
  | x :: xs, env => if wOk ws env0 env then (match g (.d x) env with
    | .ok e => match b e with
      | .ok (.nx, e2) => flw ws env0 g b xs e2
      | .ok (.ct, e2) => flw ws env0 g b xs e2
      | .ok (.brk, e2) => .ok (.nx, e2)
      | .ok (.ret m, e2) => .ok (.ret m, e2)
      | .exc x e2 => .exc x e2
      | .bad => .bad
    | _ => .bad) else .bad
noncomputable def ssForW (ws : List Nat) (fi : SIw) (g : SG) (b : SS) : SS := fun env => match fi env with
  | .ok xs => flw ws env g b xs env
  | _ => .bad
section
variable {G : Gx} {X : Cx} {W : WX'} {P : Px} {fi : SIw} {g : SG} {b : SS} {ti : TI} {tg : TG} {tb : TS} {ws : List Nat} {pos : Pos}
theorem SSok.forW (hP : ∀ i ∈ ws, P i) (hi : TIokW G ws ti fi) (hg : SGok G P tg g) (hb : SSok G W P tb b) (hout : ∀ Pp : Prop, Pp → True) : SSok G W P (tFor ti tg tb) (ssForW ws fi g b) := fun D Z H σ env S gd p => by
  unfold ssForW at p
  have h1 := hi Z H σ env S (fun J H1 => ∃ W' : Nat → Nat → L2.St → Hp → Prop, (∃ m, W' 0 m σ H1) ∧ ∀ i m σ H, W' i m σ H →
      (J.stop i H ∧ D.nx σ H) ∨ (J.go i H ∧ ∃ N : L2.St → Hp → Prop, (∀ σ' H', N σ' H' → ∃ m', m' < m ∧ W' (i + 1) m' σ' H') ∧ ∀ x H', J.yld i H x H' → tg x σ H' fun σ2 H2 => tb { D with nx := N, ct := N, bk := D.nx } σ2 H2)) gd
  cases e : fi env with
  | bad => rw [e] at p; exact p.elim
  | exc x e1 => rw [e] at p; exact p.elim
  | ok xs =>
    rw [e] at p h1
    refine h1 fun J hY => ?_
    refine ⟨fun i m σ' H' => m = xs.length - i ∧ i ≤ xs.length ∧ ∃ env' Z' S', Good G Z' H' σ' env' S' ∧ Same Z Z' ∧ Fix P σ σ' ∧ SPost G W P D Z' H' (U S') σ' (flw ws env g b (xs.drop i) env'), ⟨xs.length, by simp, Nat.zero_le _, env, Z, S, gd, Same.refl _, Fix.refl, by simpa using p⟩, ?_⟩
    rintro i m σ1 H1 ⟨rfl, hi', env1, Z1, S1, g1, z1, f1, p1⟩
    by_cases hlt : i < xs.length
    · refine .inr ?_
      rw [List.drop_eq_getElem_cons hlt] at p1
      unfold flw at p1
      by_cases hw : wOk ws env env1
      case neg => rw [if_neg hw] at p1; exact p1.elim
      rw [if_pos hw] at p1
      have wt : Wt ws σ env σ1 env1 := fun k hk => ⟨f1.1 k (hP k hk), hw k hk⟩
      obtain ⟨go, yl⟩ := hY.item Z1 H1 σ1 env1 S1 i xs[i] g1 z1 wt (List.getElem?_eq_getElem hlt)
      refine ⟨go, fun σ' H' => ∃ env' Z' S', Good G Z' H' σ' env' S' ∧ Same Z Z' ∧ Fix P σ σ' ∧ SPost G W P D Z' H' (U S') σ' (flw ws env g b (xs.drop (i + 1)) env'), fun σ' H' h => ⟨xs.length - (i + 1), by omega, rfl, hlt, h⟩, fun x H2 hy => ?_⟩
      obtain ⟨Z2, s2, rx⟩ := yl x H2 hy
      obtain ⟨g2, _⟩ := g1.move s2 fun _ _ z => z
      have s2' : Stp Z1 H1 (U S1) Z2 H2 (U S1) := ((s2.frame (U S1)).from fun a z => z.elim (fun z => z.elim) id).weak fun a z => .inr z
      have hh := fun Q => hg Z2 H2 σ1 env1 S1 (.d xs[i]) (fun _ => False) x Q g2 (Hld.data rx)
      cases e1 : g (.d xs[i]) env1 with
      | exc x e2 => rw [e1] at p1; exact p1.elim
      | bad => rw [e1] at p1; exact p1.elim
      | ok e2 =>
        simp only [e1] at p1 hh
        refine hh _ fun σ3 S3 fx3 g3 u3 => ?_
        have s3 : Stp Z1 H1 (U S1) Z2 H2 (U S3) := s2'.weak fun a z => (u3 a z).elim id fun z => z.elim
        have p3 := p1.shift s3 fx3
        refine hb _ Z2 H2 σ3 e2 S3 g3 ?_
        cases e4 : b e2 with
        | exc x e5 => rw [e4] at p3; exact p3
        | bad => rw [e4] at p3; exact p3.elim
        | ok q2 =>
          obtain ⟨f', e5⟩ := q2
          rw [e4] at p3
          cases f' with
          | nx => exact fun σ4 Z4 H4 S4 f4 s4 g4 => ⟨e5, Z4, S4, g4, (z1.trans s3.z).trans s4.z, (f1.trans fx3).trans f4, p3.shift s4 f4⟩
          | ct => exact fun σ4 Z4 H4 S4 f4 s4 g4 => ⟨e5, Z4, S4, g4, (z1.trans s3.z).trans s4.z, (f1.trans fx3).trans f4, p3.shift s4 f4⟩
          | brk => exact fun σ4 Z4 H4 S4 f4 s4 g4 => p3 σ4 Z4 H4 S4 f4 s4 g4
          | ret m => exact fun v σ4 Z4 H4 S4 T f4 s4 g4 h => p3 v σ4 Z4 H4 S4 T f4 s4 g4 h
    · have e : i = xs.length := by omega
      rw [e, List.drop_length] at p1
      unfold flw at p1
      by_cases hw : wOk ws env env1
      case neg => rw [if_neg hw] at p1; exact p1.elim
      rw [if_pos hw] at p1
      have wt : Wt ws σ env σ1 env1 := fun k hk => ⟨f1.1 k (hP k hk), hw k hk⟩
      exact .inl ⟨hY.stop Z1 H1 σ1 env1 S1 i g1 z1 wt (by omega), p1 σ1 Z1 H1 S1 Fix.refl (Stp.refl g1.zh) g1⟩
theorem SPost.more {P' : Px} {D : Ends} {Z H : Hp} {R : Rg} {σ : L2.St} {r : Res (Fl × Env)} (h : ∀ i, P i → P' i) (p : SPost G W P D Z H R σ r) : SPost G W P' D Z H R σ r := by
  have fx : ∀ {a b : L2.St}, Fix P' a b → Fix P a b := fun f => ⟨fun i hi => f.1 i (h i hi), f.2⟩
  cases r with
  | bad => exact p.elim
  | exc x e => exact fun cls d σ' Z' H' S' hx f s g => p cls d σ' Z' H' S' hx (fx f) s g
  | ok q =>
    obtain ⟨f', e⟩ := q
    cases f' with
    | nx => exact fun σ' Z' H' S' f s g => p σ' Z' H' S' (fx f) s g
    | brk => exact fun σ' Z' H' S' f s g => p σ' Z' H' S' (fx f) s g
    | ct => exact fun σ' Z' H' S' f s g => p σ' Z' H' S' (fx f) s g
    | ret m => exact fun v σ' Z' H' S' T f s g l => p v σ' Z' H' S' T (fx f) s g l
theorem xs_forW {te ie : Expr} {body : List Stmt} (hp : PassesOwn (model X.prog X.w) X.A X.env X.xe) (hc : X.calm = true) (hi : PIw G X ws te ie fi) (hg : PGs' G X (fun k => P k ∨ k ∈ ws) te g) (hb : PSs' G X W (fun k => P k ∨ k ∈ ws) body b)
    (hs : ∀ x, foldedSetIterable ie X.env x = pure x := by intro _; rfl) : PS' G X W P (.For te ie body [] pos) (ssForW ws fi g b) := by
  obtain ⟨t, p, hi⟩ := hi.ex
  obtain ⟨u, q, hg⟩ := hg.ex
  obtain ⟨v, r, hb⟩ := hb.ex
  have h := SSok.forW (P := fun k => P k ∨ k ∈ ws) (fun i hi => .inr hi) hi hg hb fun _ _ => trivial
  exact ⟨_, ps_for hp hc p q r hs, fun D Z H σ env S gd p => h D Z H σ env S gd (p.more fun i => .inl)⟩
end
end FL

set_option maxHeartbeats 2000000
/-! FLY: comprehensions over lists that stay; copies. -/
namespace FL
open PySem L2 Classical
noncomputable def lclw (own ws : List Nat) (env0 : Env) (g : SG) (c : SB) (f : SE) : List D → List M → Env → Res (List M × Env)
  | [], acc, env => if wOk ws env0 env then .ok (acc, env) else .bad
  | x :: xs, acc, env => if wOk ws env0 env then (match g (.d x) env with
    | .ok e1 => match c e1 with
      | .ok (true, e2) => match f e2 with
        | .ok (m, e3) => lclw own ws env0 g c f xs (acc ++ [m]) (killAll own e3)
        | _ => .bad
      | .ok (false, e2) => lclw own ws env0 g c f xs acc (killAll own e2)
      | _ => .bad
    | _ => .bad) else .bad
noncomputable def sLcW (own ws : List Nat) (fi : SIw) (g : SG) (c : SB) (f : SE) : SE := fun env => match fi env with
  | .ok xs => if xs.length ≤ sizeLine ∧ ∀ i ∈ ws, i ∉ own then (match lclw own ws env g c f xs [] (killAll own env) with
    | .ok (ms, e2) => .ok (.lst ms, e2)
    | _ => .bad) else .bad
  | _ => .bad
section
variable {G : Gx} {X : Cx} {W : WX'} {fi : SIw} {g : SG} {c : SB} {f : SE} {ti : TI} {own ws : List Nat}
theorem SEok.lcW {tg : TG} {tt : TT} {te : TE} (hi : TIokW G ws ti fi) (hg : SGok G (fun i => i ∉ own) tg g) (hc : SBok G W0 tt c) (he : SEok G W0 te f) : SEok G W (tLc ti tg tt te own) (sLcW own ws fi g c f) := fun Z H σ env S Q gd => by
  unfold sLcW
  have h1 := fun R => hi Z H σ env S R gd
  cases e1 : fi env with
  | bad => trivial
  | exc x e2 => trivial
  | ok xs =>
    simp only [e1] at h1
    simp only
    by_cases hl : xs.length ≤ sizeLine ∧ ∀ i ∈ ws, i ∉ own
    case neg => rw [if_neg hl]; trivial
    rw [if_pos hl]
    obtain ⟨hl, hwo⟩ := hl
    cases e2 : lclw own ws env g c f xs [] (killAll own env) with
    | exc _ _ => trivial
    | bad => trivial
    | ok r2 =>
      obtain ⟨ms, env2⟩ := r2
      intro q
      refine h1 _ fun J hY D0 hD => ?_
      have g1 := gd
      have s1 : Stp Z H (U S) Z H (U S) := Stp.refl gd.zh
      obtain ⟨S2, g2, u2⟩ := g1.wipe own
      have st0 := Stp.new (o := HO.lst []) g1.zh hD (U S2)
      have gS := (g2.move (Stp.new (o := HO.lst []) g1.zh hD (fun _ => False)) fun _ _ z => z)
      have hl0 : Hld G Z (upd H D0 (.lst [])) (U S2) (.lst []) (fun a => False ∨ a = D0) (.ref D0) :=
        lst_new (ms := []) (vs := []) (T := fun _ => False) g1.zh (by simp [RepMs]) (fun _ z => z.elim) (fun _ z => z.elim) (fun _ z => z.elim) hD (fun z => g2.al' _ z hD)
      -- the word: behind i turns what is made so far is in the hand, the rest of the turns ends in ms
      refine ⟨fun i m H' => m = xs.length - i ∧ i ≤ xs.length ∧ ∃ acc e' Z' S' T, Same Z Z' ∧ Good G Z' H' (wipe σ own) e' S' ∧ Hld G Z' H' (U S') (.lst acc) T (.ref D0) ∧ acc.length ≤ i ∧
          Stp Z H (U S) Z' H' (fun a => U S' a ∨ T a) ∧ lclw own ws env g c f (xs.drop i) acc e' = .ok (ms, env2),
        ⟨xs.length, by simp, Nat.zero_le _, [], _, Z, S2, _, Same.refl _, gS.1, hl0, by simp, ?_, by simpa using e2⟩, ?_⟩
      · refine (s1.trans (Stp.new (o := HO.lst []) g1.zh hD (U S))).weak fun a z => ?_
        rcases z with z | z | z
        · exact .inl (u2 a z)
        · exact z.elim
        · exact .inr z
      · rintro i m H2 ⟨rfl, hi', acc, e', Z2, S3, T, hZ, g3, l3, hacc, s3, e3⟩
        by_cases hlt : i < xs.length
        case neg =>
          have e : i = xs.length := by omega
          rw [e, List.drop_length] at e3
          unfold lclw at e3
          split at e3
          case isFalse => cases e3
          rename_i hw
          cases e3
          refine .inl ⟨hY.stop Z2 H2 (wipe σ own) _ S3 i g3 hZ (fun k hk => ⟨wipe_get (hwo k hk), hw k hk⟩) (by omega), ?_⟩
          exact q _ Z2 H2 S3 T s3 g3.unwipe l3
        refine .inr ?_
        rw [List.drop_eq_getElem_cons hlt] at e3
        unfold lclw at e3
        split at e3
        case isFalse => cases e3
        rename_i hw
        obtain ⟨go, yl⟩ := hY.item Z2 H2 (wipe σ own) _ S3 i xs[i] g3 hZ (fun k hk => ⟨wipe_get (hwo k hk), hw k hk⟩) (List.getElem?_eq_getElem hlt)
        refine ⟨go, fun H' => ∃ acc e' Z' S' T, Same Z Z' ∧ Good G Z' H' (wipe σ own) e' S' ∧ Hld G Z' H' (U S') (.lst acc) T (.ref D0) ∧ acc.length ≤ i + 1 ∧
          Stp Z H (U S) Z' H' (fun a => U S' a ∨ T a) ∧ lclw own ws env g c f (xs.drop (i + 1)) acc e' = .ok (ms, env2), fun H' h => ⟨xs.length - (i + 1), by omega, rfl, hlt, h⟩, fun x H3 hy => ?_⟩
        obtain ⟨Z3, s4, rx⟩ := yl x H3 hy
        have g4 := (g3.move s4 fun _ _ z => z).1
        have l4 := l3.step ((s4.frame (U S3)).from fun a z => z.elim (fun z => z.elim) id)
        have s4' : Stp Z H (U S) Z3 H3 (fun a => U S3 a ∨ T a) := (s3.trans ((s4.frame (fun a => U S3 a ∨ T a)).from fun a z => z.elim (fun z => z.elim) id)).weak fun a z => .inr z
        have l4' : Hld G Z3 H3 (U S3) (.lst acc) T (.ref D0) := ⟨l4.rep, l4.al, l4.zf, l3.dj⟩
        cases eg : g (.d xs[i]) e' with
        | exc _ _ => rw [eg] at e3; cases e3
        | bad => rw [eg] at e3; cases e3
        | ok e4 =>
          rw [eg] at e3
          simp only at e3
          have hh := fun Q => hg Z3 H3 (wipe σ own) e' S3 (.d xs[i]) (fun _ => False) x Q g4 (Hld.data rx)
          simp only [eg] at hh
          refine hh _ fun σ5 S5 fx5 g5 u5 => ⟨wipe_fix fx5, ?_⟩
          have u5' : ∀ a, U S5 a → U S3 a := fun a z => (u5 a z).elim id fun z => z.elim
          have l5 : Hld G Z3 H3 (U S5) (.lst acc) T (.ref D0) := ⟨l4'.rep, l4'.al, l4'.zf, fun a z w => l4'.dj a z (u5' a w)⟩
          have s5 : Stp Z H (U S) Z3 H3 (fun a => U S5 a ∨ T a) := s4'.weak fun a z => z.elim (fun z => .inl (u5' a z)) .inr
          have hc1 := fun Q => hc Z3 H3 σ5 e4 S5 Q g5
          cases ec : c e4 with
          | exc _ _ => rw [ec] at e3; cases e3
          | bad => rw [ec] at e3; cases e3
          | ok rc =>
            obtain ⟨k, e5⟩ := rc
            rw [ec] at e3
            simp only [ec] at hc1
            refine hc1 _ fun Z6 H6 S6 s6 g6 => ?_
            have l6 := l5.step s6
            have s6' : Stp Z H (U S) Z6 H6 (fun a => U S6 a ∨ T a) := s5.trans (s6.frame T)
            have z6 : Same Z Z6 := (hZ.trans s4.z).trans s6.z
            cases k with
            | false =>
              simp only at e3
              rw [if_neg Bool.false_ne_true]
              obtain ⟨S7, g7, u7⟩ := g6.wipe own
              rw [wipe_fix fx5] at g7
              exact ⟨acc, _, Z6, S7, T, z6, g7, ⟨l6.rep, l6.al, l6.zf, fun a z w => l6.dj a z (u7 a w)⟩, by omega, s6'.weak fun a z => z.elim (fun z => .inl (u7 a z)) .inr, e3⟩
            | true =>
              simp only at e3
              rw [if_pos rfl]
              have he1 := fun Q => he Z6 H6 σ5 e5 S6 Q g6
              cases ee : f e5 with
              | exc _ _ => rw [ee] at e3; cases e3
              | bad => rw [ee] at e3; cases e3
              | ok re =>
                obtain ⟨m, e6⟩ := re
                rw [ee] at e3
                simp only [ee] at he1
                simp only at e3
                refine he1 _ fun y Z7 H7 S7 Ty s7 g7 ly => ?_
                have l7 := l6.step s7
                have rep7 := l7.rep
                simp only [RepM] at rep7
                obtain ⟨a0, vs0, T0, ea, sa, ta, ts, ho, rr⟩ := rep7
                cases ea
                have hlen : vs0.length = acc.length := rr.len.symm
                refine ⟨vs0, ho, by rw [hlen]; omega, ?_⟩
                have tyD : ¬ Ty D0 := fun z => l7.dj D0 sa (.inr z)
                have dT : ∀ a, T a → ¬ Ty a := fun a z w => l7.dj a z (.inr w)
                have upz : Same Z7 (upd H7 D0 (.lst (vs0 ++ [y]))) := fun a u e => by
                  have ne : a ≠ D0 := fun z => by rw [z, l7.zf D0 sa] at e; cases e
                  rw [upd_ne ne]; exact g7.zh a u e
                have stU : Stp Z7 H7 (fun a => a = D0) Z7 (upd H7 D0 (.lst (vs0 ++ [y]))) (fun a => a = D0) := ⟨Same.refl _, upz, fun b u e h => by rw [upd_ne h]; exact e, fun a z => .inl z, fun a z => .inl z⟩
                obtain ⟨g8, _⟩ := g7.move stU fun a z w => l7.dj D0 sa (.inl (by rw [← w]; exact z))
                have ryy : RepMs G Z7 (upd H7 D0 (.lst (vs0 ++ [y]))) [m] Ty [y] := by
                  simp only [RepMs]
                  exact ⟨y, [], Ty, fun _ => False, rfl, fun _ z => z, fun _ z => z.elim, fun _ _ z => z, RepM.mono (Same.refl _) _ _ _ _ (fun _ z => z) (fun a o z e => by rw [upd_ne (fun w => tyD (by rw [← w]; exact z))]; exact e) ly.rep, rfl⟩
                have rr' : RepMs G Z7 (upd H7 D0 (.lst (vs0 ++ [y]))) acc T0 vs0 := RepMs.mono (Same.refl _) _ _ _ _ (fun _ z => z) (fun a o z e => by rw [upd_ne (fun w => ta (by rw [← w]; exact z))]; exact e) rr
                obtain ⟨S8, g9, u9⟩ := g8.wipe own
                rw [wipe_fix fx5] at g9
                refine ⟨acc ++ [m], _, Z7, S8, fun a => T a ∨ Ty a, z6.trans s7.z, g9, ⟨?_, fun a z => ?_, fun a z => z.elim (l7.zf a) (ly.zf a), fun a z w => ?_⟩, by rw [List.length_append]; simp; omega, ?_, e3⟩
                · simp only [RepM]
                  exact ⟨D0, vs0 ++ [y], fun a => T0 a ∨ Ty a, rfl, .inl sa, fun z => z.elim ta tyD, fun b z => z.elim (fun z => .inl (ts b z)) .inr, upd_same, RepMs.app rr' ryy (fun _ z => .inl z) (fun _ z => .inr z) (fun b z => dT b (ts b z))⟩
                · by_cases w : a = D0
                  · rw [w, upd_same]; exact fun z => nomatch z
                  · rw [upd_ne w]; exact z.elim (l7.al a) (ly.al a)
                · exact z.elim (fun z => l7.dj a z (.inl (u9 a w))) fun z => ly.dj a z (u9 a w)
                · have s7' : Stp Z H (U S) Z7 H7 (fun a => (U S7 a ∨ Ty a) ∨ T a) := s6'.trans (s7.frame T)
                  have st8 : Stp Z H (U S) Z7 (upd H7 D0 (.lst (vs0 ++ [y]))) (fun a => a = D0 ∨ ((U S7 a ∨ Ty a) ∨ T a)) := s7'.trans ((stU.frame (fun a => (U S7 a ∨ Ty a) ∨ T a)).from fun a z => z.elim (fun w => .inr (by rw [w]; exact sa)) id)
                  refine st8.weak fun a z => ?_
                  rcases z with z | z | z
                  · exact .inr (.inl (.inl (u9 a z)))
                  · exact .inr (.inr z)
                  · exact .inr (.inl (.inr z))
theorem sby_okW : SBok G W0 tYes sbYes := sby_ok
theorem xe_lcW {elt tg iter : Expr} {scope : Scope} {own : List (Str × Nat)} {pos : Pos} (hc : X.calm = true) (hN : X.N.Nodup) (ok : BlkOk X.N X.env.scope scope own) (hi : PIw G X ws tg iter fi)
    (hg : ∀ (s : Shared) (H : Hp) (C : Addr) (cl : List (Str × Addr)) (fp : List Addr), PGs' G (X.blk s H scope (compEnvC scope cl C X.env) fp) (fun i => i ∉ own.map (·.2)) tg g)
    (he : ∀ (s : Shared) (H : Hp) (C : Addr) (cl : List (Str × Addr)) (fp : List Addr), PEs G (X.blk s H scope (compEnvC scope cl C X.env) fp) W0 elt f) (hs : ∀ x, foldedSetIterable iter X.env x = pure x := by intro _; rfl) :
    PEs G X W (.ListComp elt [⟨tg, iter, [], 0⟩] scope pos) (sLcW (own.map (·.2)) ws fi g sbYes f) := by
  obtain ⟨ti, p, hi⟩ := hi.ex
  exact ⟨_, pe_lc hc hN p ok (fun s H C cl fp => (hg s H C cl fp).sem) (fun _ _ _ _ _ => pts_nil) (fun s H C cl fp => (he s H C cl fp).sem) hs, SEok.lcW hi GSem.ok sby_ok ESem.ok⟩
theorem xe_lcIfW {elt tg iter ce : Expr} {scope : Scope} {own : List (Str × Nat)} {pos : Pos} (hc : X.calm = true) (hN : X.N.Nodup) (ok : BlkOk X.N X.env.scope scope own) (hi : PIw G X ws tg iter fi)
    (hg : ∀ (s : Shared) (H : Hp) (C : Addr) (cl : List (Str × Addr)) (fp : List Addr), PGs' G (X.blk s H scope (compEnvC scope cl C X.env) fp) (fun i => i ∉ own.map (·.2)) tg g)
    (ht : ∀ (s : Shared) (H : Hp) (C : Addr) (cl : List (Str × Addr)) (fp : List Addr), PBs G (X.blk s H scope (compEnvC scope cl C X.env) fp) W0 ce c)
    (he : ∀ (s : Shared) (H : Hp) (C : Addr) (cl : List (Str × Addr)) (fp : List Addr), PEs G (X.blk s H scope (compEnvC scope cl C X.env) fp) W0 elt f) (hs : ∀ x, foldedSetIterable iter X.env x = pure x := by intro _; rfl) :
    PEs G X W (.ListComp elt [⟨tg, iter, [ce], 0⟩] scope pos) (sLcW (own.map (·.2)) ws fi g c f) := by
  obtain ⟨ti, p, hi⟩ := hi.ex
  exact ⟨_, pe_lc hc hN p ok (fun s H C cl fp => (hg s H C cl fp).sem) (fun s H C cl fp => pts_one (ht s H C cl fp).sem) (fun s H C cl fp => (he s H C cl fp).sem) hs, SEok.lcW hi GSem.ok BSem.ok ESem.ok⟩
/-- y = [..] -/
theorem xs_setLcW {P : Px} (i : Nat) {y : Str} {py : Pos} {elt tg iter : Expr} {scope : Scope} {own : List (Str × Nat)} {pos spos : Pos} (hc : X.calm = true) (hN : X.N.Nodup) (ok : BlkOk X.N X.env.scope scope own) (hi : PIw G X ws tg iter fi)
    (hg : ∀ (s : Shared) (H : Hp) (C : Addr) (cl : List (Str × Addr)) (fp : List Addr), PGs' G (X.blk s H scope (compEnvC scope cl C X.env) fp) (fun i => i ∉ own.map (·.2)) tg g)
    (he : ∀ (s : Shared) (H : Hp) (C : Addr) (cl : List (Str × Addr)) (fp : List Addr), PEs G (X.blk s H scope (compEnvC scope cl C X.env) fp) W0 elt f)
    (hsw : swapsWith (.ListComp elt [⟨tg, iter, [], 0⟩] scope pos) (some (.Name y py)) spos.line X.env = pure true) (hP : ¬ P i := by decide) (hy : X.N[i]? = some y := by rfl) (hyl : X.env.scope.names.lookup y = some .local := by rfl) (hs : ∀ x, foldedSetIterable iter X.env x = pure x := by intro _; rfl) :
    PS' G X W P (.Assign [.Name y py] (.ListComp elt [⟨tg, iter, [], 0⟩] scope pos) spos) (ssSet i (sLcW (own.map (·.2)) ws fi g sbYes f)) := by
  obtain ⟨ti, p, hi⟩ := hi.ex
  exact ⟨_, ps_setLc hc hN hy hyl hsw p ok (fun s H C cl fp => (hg s H C cl fp).sem) (fun _ _ _ _ _ => pts_nil) (fun s H C cl fp => (he s H C cl fp).sem) hs, SSok.set hP (SEok.lcW hi GSem.ok sby_ok ESem.ok)⟩
theorem xs_setLcIfW {P : Px} (i : Nat) {y : Str} {py : Pos} {elt tg iter ce : Expr} {scope : Scope} {own : List (Str × Nat)} {pos spos : Pos} (hc : X.calm = true) (hN : X.N.Nodup) (ok : BlkOk X.N X.env.scope scope own) (hi : PIw G X ws tg iter fi)
    (hg : ∀ (s : Shared) (H : Hp) (C : Addr) (cl : List (Str × Addr)) (fp : List Addr), PGs' G (X.blk s H scope (compEnvC scope cl C X.env) fp) (fun i => i ∉ own.map (·.2)) tg g)
    (ht : ∀ (s : Shared) (H : Hp) (C : Addr) (cl : List (Str × Addr)) (fp : List Addr), PBs G (X.blk s H scope (compEnvC scope cl C X.env) fp) W0 ce c)
    (he : ∀ (s : Shared) (H : Hp) (C : Addr) (cl : List (Str × Addr)) (fp : List Addr), PEs G (X.blk s H scope (compEnvC scope cl C X.env) fp) W0 elt f)
    (hsw : swapsWith (.ListComp elt [⟨tg, iter, [ce], 0⟩] scope pos) (some (.Name y py)) spos.line X.env = pure true) (hP : ¬ P i := by decide) (hy : X.N[i]? = some y := by rfl) (hyl : X.env.scope.names.lookup y = some .local := by rfl) (hs : ∀ x, foldedSetIterable iter X.env x = pure x := by intro _; rfl) :
    PS' G X W P (.Assign [.Name y py] (.ListComp elt [⟨tg, iter, [ce], 0⟩] scope pos) spos) (ssSet i (sLcW (own.map (·.2)) ws fi g c f)) := by
  obtain ⟨ti, p, hi⟩ := hi.ex
  exact ⟨_, ps_setLc hc hN hy hyl hsw p ok (fun s H C cl fp => (hg s H C cl fp).sem) (fun s H C cl fp => pts_one (ht s H C cl fp).sem) (fun s H C cl fp => (he s H C cl fp).sem) hs, SSok.set hP (SEok.lcW hi GSem.ok BSem.ok ESem.ok)⟩
end
/-! ### copies by a look -/
def sListV (g : VE) : SE := fun env => match g env with
  | .ok m => match brw m with
    | some (_, xs) => .ok (.lst (xs.map .d), env)
    | none => .bad
  | _ => .bad
def sTupV (g : VE) : SE := fun env => match g env with
  | .ok m => match brw m with
    | some (_, xs) => .ok (.d (.tup xs), env)
    | none => .bad
  | _ => .bad
section
variable {G : Gx} {X : Cx} {W : WX'} {e : Expr} {g : VE} {p pos : Pos}
theorem xe_listV (hK : G.K = X.K) (hm : X.mg "list" = none) (ha : PVs G X e g) (hv : bootBuiltins "list" = some (.type "list") := by decide +kernel) (hg : Gl X "list" := by rfl) (hst : starEach [e] X.env = (false, eval e X.env) :: starEach [] X.env := by rfl) (hpl : (backTo pos (starEach [] X.env)).any (·.1) = false := by rfl) :
    PEs G X W (.Call (.Name "list" p) [e] [] pos) (sListV g) := by
  obtain ⟨t, q, h⟩ := ha.ex
  refine ⟨_, pe_callTy call_list_of hg hm hv (pa_cons q pa_nil hst) (by decide) (by decide) hst hpl, SEok.mk' fun Z H σ env S Q gd k => ?_⟩
  unfold sListV at k
  have h1 := h Z H σ env S (fun x H1 => ∃ p ys, [x] = [V.ref p] ∧ (SqL X.K H1 p ys ∨ SqT X.K H1 p ys) ∧ ∀ l, H1 l = none → Q (.ref l) (upd H1 l (.lst ys))) gd
  cases e1 : g env with
  | bad => rw [e1] at k; exact k.elim
  | exc x e' => rw [e1] at k; exact k.elim
  | ok m =>
    rw [e1] at k h1
    simp only at k h1
    cases e3 : brw m with
    | none => rw [e3] at k; exact k.elim
    | some q1 =>
      obtain ⟨b1, xs⟩ := q1
      rw [e3] at k
      refine h1 fun v T _ r => ?_
      obtain ⟨a, us, rfl, rr, sq⟩ := brw_rep gd.zh r e3
      obtain ⟨s1, s2⟩ := sq Z H (Same.refl _) gd.zh fun _ _ _ z => z
      have hq : SqL X.K H a us ∨ SqT X.K H a us := by
        rw [← hK]
        cases b1 with
        | false => exact .inl (s2 rfl)
        | true => exact .inr (s1 rfl)
      refine ⟨a, us, rfl, hq, fun p hp => ?_⟩
      have pS : ¬ U S p := fun z => gd.al' p z hp
      exact k (.ref p) _ _ S (fun a => a = p) (Stp.new (o := .lst us) gd.zh hp (U S)) (gd.move (Stp.new (o := .lst us) gd.zh hp (fun _ => False)) fun _ _ z => z).1 (lst_newD gd.zh rr hp pS)
theorem xe_tupV (hK : G.K = X.K) (hm : X.mg "tuple" = none) (ha : PVs G X e g) (hv : bootBuiltins "tuple" = some (.type "tuple") := by decide +kernel) (hg : Gl X "tuple" := by rfl) (hst : starEach [e] X.env = (false, eval e X.env) :: starEach [] X.env := by rfl) (hpl : (backTo pos (starEach [] X.env)).any (·.1) = false := by rfl) :
    PEs G X W (.Call (.Name "tuple" p) [e] [] pos) (sTupV g) := by
  obtain ⟨t, q, h⟩ := ha.ex
  refine ⟨_, pe_callTy call_tuple_of hg hm hv (pa_cons q pa_nil hst) (by decide) (by decide) hst hpl, SEok.mk' fun Z H σ env S Q gd k => ?_⟩
  unfold sTupV at k
  have h1 := h Z H σ env S (fun x H1 => ∃ p ys, [x] = [V.ref p] ∧ ((SqL X.K H1 p ys ∧ ∀ l, H1 l = none → Q (.ref l) (upd H1 l (.tup ys))) ∨ (SqT X.K H1 p ys ∧ Q (.ref p) H1))) gd
  cases e1 : g env with
  | bad => rw [e1] at k; exact k.elim
  | exc x e' => rw [e1] at k; exact k.elim
  | ok m =>
    rw [e1] at k h1
    simp only at k h1
    cases e3 : brw m with
    | none => rw [e3] at k; exact k.elim
    | some q1 =>
      obtain ⟨b1, xs⟩ := q1
      rw [e3] at k
      refine h1 fun v T _ r => ?_
      have r0 := r
      obtain ⟨a, us, rfl, rr, sq⟩ := brw_rep gd.zh r e3
      obtain ⟨s1, s2⟩ := sq Z H (Same.refl _) gd.zh fun _ _ _ z => z
      refine ⟨a, us, rfl, ?_⟩
      cases b1 with
      | false =>
        refine .inl ⟨by rw [← hK]; exact s2 rfl, fun p hp => ?_⟩
        have st := Stp.newZ (o := .tup us) gd.zh hp (U S)
        refine k (.ref p) _ _ S (fun _ => False) (st.weak fun _ z => z.elim (fun z => z) fun z => z.elim) (gd.move (Stp.newZ (o := .tup us) gd.zh hp (fun _ => False)) fun _ _ z => z).1 (Hld.data ?_)
        simp only [RepD]
        exact ⟨p, us, rfl, SqT.of upd_same, RepDs.mono st.z _ _ rr⟩
      | true =>
        refine .inr ⟨by rw [← hK]; exact s1 rfl, ?_⟩
        have hd : ∃ x, m = .d x ∧ itemsLT x = some (true, xs) := by
          cases m with
          | d x => exact ⟨x, rfl, e3⟩
          | lst ms => simp only [brw] at e3; split at e3 <;> cases e3
          | _ => cases e3
        obtain ⟨x, rfl, ex⟩ := hd
        simp only [RepM] at r0
        refine k (.ref a) _ _ S (fun _ => False) ((Stp.refl gd.zh).weak fun _ z => z.elim (fun z => z) fun z => z.elim) gd (Hld.data ?_)
        cases x with
        | tup ys => simp only [itemsLT] at ex; cases ex; exact r0
        | lst ys => simp [itemsLT] at ex
        | scr ys => simp [itemsLT] at ex
        | _ => simp [itemsLT] at ex
end
end FL

set_option maxHeartbeats 2000000
/-! FLZ: sorted(xs), any data; indices by values; max, min of a list. -/
namespace FL
open PySem L2 Classical

theorem vals_each {ps : List (PyData × V)} : ∀ {us : List Value}, Vals (ps.map (·.2)) us → PySem.W.EachIs (fun u (p : PyData × V) => RelV p.2 u) us ps := by
  induction ps with
  | nil => intro us r; cases r; exact .nil
  | cons p ps ih => intro us r; cases r with | cons a b => exact .cons a (ih b)
theorem each_vals {ps : List (PyData × V)} : ∀ {us : List Value}, PySem.W.EachIs (fun u (p : PyData × V) => RelV p.2 u) us ps → Vals (ps.map (·.2)) us := by
  induction ps with
  | nil => intro us r; cases r; exact .nil
  | cons p ps ih => intro us r; cases r with | cons a b => exact .cons a (ih b)
def rSrt (K : PySem.W.Frag) : List V → Hp → VK → Prop := fun vs H Q => ∃ (a : Addr) (ps : List (PyData × V)), vs = [.ref a] ∧ SqL K H a (ps.map (·.2)) ∧ (∀ p ∈ ps, Dp K H p.2 p.1 ∧ p.1.depth ≤ 60) ∧ PySem.W.AllAlike (ps.map (·.1)) ∧ PySem.W.Sortable (ps.map (·.1)) ∧
  ∀ q, H q = none → Q (.ref q) (upd H q (.lst ((ps.mergeSort (PySem.W.dataLe false (fun p : PyData × V => p.1))).map (·.2))))
theorem cr_srt {X : Cx} (hu : X.A.units + 64 < cLine) : CallR X (.builtin "sorted") (rSrt X.K) := by
  intro pins s σ H vs us Q I r h
  obtain ⟨a, ps, rfl, hs, hd, hal, hk, q⟩ := h
  obtain ⟨its, rv, hl, hz⟩ := I.list hs
  rw [Vals.ref1 r]
  have e := vals_each rv
  have er : PySem.W.EachIs (fun v (p : PyData × V) => ∃ as, Reads s.heap v p.1 as) its ps := by
    have key : ∀ {us : List Value} {qs : List (PyData × V)}, PySem.W.EachIs (fun u (p : PyData × V) => RelV p.2 u) us qs → (∀ p ∈ qs, Dp X.K H p.2 p.1) → PySem.W.EachIs (fun v (p : PyData × V) => ∃ as, Reads s.heap v p.1 as) us qs := by
      intro us qs e'
      induction e' with
      | nil => intro _; exact .nil
      | cons a b ih => intro hh; exact .cons (Dp.reads I _ _ _ (hh _ (by simp)) a) (ih fun p hp => hh p (by simp [hp]))
    exact key e fun p hp => (hd p hp).1
  refine PySem.W.sorted_data (enc := fun p : PyData × V => p.1) hl.isList e er hal hk (by simpa using hz) (fun p hp => by have := (hd p hp).2; omega) fun out hlen hE => ?_
  obtain ⟨ep, he'⟩ := PyProof.Rows.sortedAll_at s.heap its out.toArray
  have hv := each_vals hE
  have hlen2 : ((ps.mergeSort (PySem.W.dataLe false (fun p : PyData × V => p.1))).map (·.2)).length ≤ sizeLine := by
    rw [List.length_map, List.length_mergeSort]
    simpa using hz
  exact ⟨.ref _, upd H (s.heap.objs.size + 1) (.lst ((ps.mergeSort (PySem.W.dataLe false (fun p : PyData × V => p.1))).map (·.2))), I.laid (t' := s.toks) (fun _ _ => PyProof.Rows.sortedAll_old) (Nat.le_succ _) ⟨hlen2, out, ep, hv, he'⟩, rfl, q _ (I.hok.fresh (Nat.le_succ _))⟩
/-- data that sorted takes -/
def SrtOk (xs : List D) : Prop := (∀ x ∈ xs, (toPy x).plain = true ∧ (toPy x).depth ≤ 60) ∧ PySem.W.AllAlike (xs.map toPy) ∧ PySem.W.Sortable (xs.map toPy)
noncomputable def srtD (xs : List D) : List D := xs.mergeSort (PySem.W.dataLe false toPy)
noncomputable def sSorted (f : SE) : SE := fun env => match f env with
  | .ok (m, e) => match itemsLT (fz m) with
    | some (false, xs) => if SrtOk xs then .ok (.lst ((srtD xs).map .d), e) else .bad
    | _ => .bad
  | .exc x e => .exc x e
  | .bad => .bad
noncomputable def sSortedV (g : VE) : SE := fun env => match g env with
  | .ok m => match brw m with
    | some (false, xs) => if SrtOk xs then .ok (.lst ((srtD xs).map .d), env) else .bad
    | _ => .bad
  | _ => .bad
theorem zip_fst {α β : Type} : ∀ {xs : List α} {ys : List β}, xs.length = ys.length → (List.zip xs ys).map (·.1) = xs
  | [], [], _ => rfl
  | x :: xs, y :: ys, h => by simp [zip_fst (xs := xs) (ys := ys) (by simpa using h)]
theorem zip_snd {α β : Type} : ∀ {xs : List α} {ys : List β}, xs.length = ys.length → (List.zip xs ys).map (·.2) = ys
  | [], [], _ => rfl
  | x :: xs, y :: ys, h => by simp [zip_snd (xs := xs) (ys := ys) (by simpa using h)]
theorem repDs_zip {G : Gx} {Z : Hp} : ∀ {xs : List D} {vs : List V}, RepDs G Z xs vs → ∀ p ∈ List.zip xs vs, RepD G Z p.1 p.2
  | [], _, _, p, hp => by simp at hp
  | x :: xs, _, r, p, hp => by
    simp only [RepDs] at r
    obtain ⟨v, r', rfl, q, r⟩ := r
    simp only [List.zip_cons_cons, List.mem_cons] at hp
    rcases hp with rfl | hp
    · exact q
    · exact repDs_zip r p hp
theorem repDs_of {G : Gx} {Z : Hp} : ∀ {ps : List (D × V)}, (∀ p ∈ ps, RepD G Z p.1 p.2) → RepDs G Z (ps.map (·.1)) (ps.map (·.2))
  | [], _ => by simp [RepDs]
  | p :: ps, h => by
    simp only [List.map_cons, RepDs]
    exact ⟨_, _, rfl, h p (by simp), repDs_of fun q hq => h q (by simp [hq])⟩
/-- what the rule gives, told in data -/
theorem srt_data {G : Gx} {Z H : Hp} {a : Addr} {xs : List D} {us : List V} {Q : VK} (zh : Same Z H) (hs : SqL G.K H a us) (rr : RepDs G Z xs us) (ok : SrtOk xs) (q : ∀ p ws, H p = none → RepDs G Z (srtD xs) ws → Q (.ref p) (upd H p (.lst ws))) : rSrt G.K [.ref a] H Q := by
  have hl := rr.len
  have e1 := zip_fst hl
  have e2 := zip_snd hl
  have hr := repDs_zip rr
  let ps : List (PyData × V) := (List.zip xs us).map fun p => (toPy p.1, p.2)
  have p1 : ps.map (·.1) = xs.map toPy := by
    show ((List.zip xs us).map fun p => (toPy p.1, p.2)).map (·.1) = _
    have h := congrArg (List.map toPy) e1
    rw [List.map_map] at h ⊢
    exact h
  have p2 : ps.map (·.2) = us := by
    show ((List.zip xs us).map fun p => (toPy p.1, p.2)).map (·.2) = _
    rw [List.map_map]
    exact e2
  refine ⟨a, ps, rfl, by rw [p2]; exact hs, fun p hp => ?_, by rw [p1]; exact ok.2.1, by rw [p1]; exact ok.2.2, fun b hb => ?_⟩
  · obtain ⟨w, hw, rfl⟩ := List.mem_map.mp hp
    have hx : w.1 ∈ xs := by rw [← e1]; exact List.mem_map_of_mem hw
    have := ok.1 _ hx
    exact ⟨RepD.dp zh _ _ this.1 (hr w hw), this.2⟩
  · have m1 : (ps.mergeSort (PySem.W.dataLe false (fun p : PyData × V => p.1))) = ((List.zip xs us).mergeSort (PySem.W.dataLe false fun p : D × V => toPy p.1)).map fun p => (toPy p.1, p.2) := by
      rw [List.map_mergeSort]
      intro a _ b _
      rfl
    have m2 : srtD xs = ((List.zip xs us).mergeSort (PySem.W.dataLe false fun p : D × V => toPy p.1)).map (·.1) := by
      have h : srtD xs = srtD ((List.zip xs us).map (·.1)) := by rw [e1]
      rw [h]
      unfold srtD
      rw [List.map_mergeSort]
      intro a _ b _
      rfl
    rw [m1, List.map_map]
    have hq : ∀ p ∈ (List.zip xs us).mergeSort (PySem.W.dataLe false fun p : D × V => toPy p.1), RepD G Z p.1 p.2 := fun p hp => hr p ((List.mergeSort_perm _ _).mem_iff.mp hp)
    have := repDs_of hq
    rw [← m2] at this
    exact q b _ hb this
section
variable {G : Gx} {X : Cx} {W : WX'} {e : Expr} {g : VE} {f : SE} {p pos : Pos}
theorem xe_sortedV (hu : X.A.units + 64 < cLine) (hK : G.K = X.K) (hm : X.mg "sorted" = none) (ha : PVs G X e g) (hv : bootBuiltins "sorted" = some (.builtin "sorted") := by decide +kernel) (hg : Gl X "sorted" := by rfl) (hst : starEach [e] X.env = (false, eval e X.env) :: starEach [] X.env := by rfl) (hpl : (backTo pos (starEach [] X.env)).any (·.1) = false := by rfl) :
    PEs G X W (.Call (.Name "sorted" p) [e] [] pos) (sSortedV g) := by
  obtain ⟨t, q, h⟩ := ha.ex
  refine ⟨_, pe_callB (cr_srt hu) hg hm hv (pa_cons q pa_nil hst) (by decide) (by decide) hst hpl, SEok.mk' fun Z H σ env S Q gd k => ?_⟩
  unfold sSortedV at k
  have h1 := h Z H σ env S (fun x H1 => rSrt X.K [x] H1 Q) gd
  cases e1 : g env with
  | bad => rw [e1] at k; exact k.elim
  | exc x e' => rw [e1] at k; exact k.elim
  | ok m =>
    rw [e1] at k h1
    simp only at k h1
    cases e3 : brw m with
    | none => rw [e3] at k; exact k.elim
    | some q1 =>
      obtain ⟨b1, xs⟩ := q1
      rw [e3] at k
      cases b1 with
      | true => exact k.elim
      | false =>
        simp only at k
        by_cases ok : SrtOk xs
        case neg => rw [if_neg ok] at k; exact k.elim
        rw [if_pos ok] at k
        refine h1 fun v T _ r => ?_
        obtain ⟨a, us, rfl, rr, sq⟩ := brw_rep gd.zh r e3
        obtain ⟨_, s2⟩ := sq Z H (Same.refl _) gd.zh fun _ _ _ z => z
        rw [← hK]
        refine srt_data gd.zh (s2 rfl) rr ok fun b ws hb rw' => ?_
        have pS : ¬ U S b := fun z => gd.al' b z hb
        exact k (.ref b) _ _ S (fun a => a = b) (Stp.new (o := .lst ws) gd.zh hb (U S)) (gd.move (Stp.new (o := .lst ws) gd.zh hb (fun _ => False)) fun _ _ z => z).1 (lst_newD gd.zh rw' hb pS)
theorem xe_sorted (hu : X.A.units + 64 < cLine) (hK : G.K = X.K) (hm : X.mg "sorted" = none) (ha : PEs G X W e f) (hv : bootBuiltins "sorted" = some (.builtin "sorted") := by decide +kernel) (hg : Gl X "sorted" := by rfl) (hst : starEach [e] X.env = (false, eval e X.env) :: starEach [] X.env := by rfl) (hpl : (backTo pos (starEach [] X.env)).any (·.1) = false := by rfl) :
    PEs G X W (.Call (.Name "sorted" p) [e] [] pos) (sSorted f) := by
  obtain ⟨t, q, h⟩ := ha.ex
  refine ⟨_, pe_callB (cr_srt hu) hg hm hv (pa_cons q pa_nil hst) (by decide) (by decide) hst hpl, SEok.mk' fun Z H σ env S Q gd k => ?_⟩
  unfold sSorted at k
  refine h.use gd ?_
  cases e1 : f env with
  | bad => rw [e1] at k; exact k.elim
  | exc x e' => rw [e1] at k; exact k
  | ok pr =>
    obtain ⟨m, env1⟩ := pr
    rw [e1] at k
    simp only at k
    cases e3 : itemsLT (fz m) with
    | none => rw [e3] at k; exact k.elim
    | some q1 =>
      obtain ⟨b1, xs⟩ := q1
      rw [e3] at k
      cases b1 with
      | true => exact k.elim
      | false =>
        simp only at k
        by_cases ok : SrtOk xs
        case neg => rw [if_neg ok] at k; exact k.elim
        rw [if_pos ok] at k
        intro v Z' H' S' T s' g' l
        obtain ⟨rz, sz⟩ := l.frozen g'.zh
        have sT : Stp Z' H' T (Fzp Z' H' T) H' T := ⟨sz.z, sz.zh, fun _ _ e _ => e, fun _ z => .inl z, fun a z => by
          by_cases ta : T a
          · exact .inr (.inl ta)
          · rw [frz_out ta] at z; exact .inl z⟩
        have g2 := (g'.move sT fun a z w => l.dj a w z).1
        obtain ⟨a, us, rfl, t1, l1, rr⟩ := itemsLT_rep g2.zh rz e3
        show rSrt X.K [.ref a] H' Q
        rw [← hK]
        refine srt_data g2.zh (g2.zh.seq (l1 rfl)) rr ok fun b ws hb rw' => ?_
        have pS : ¬ U S' b := fun z => g2.al' b z hb
        exact k (.ref b) _ _ S' (fun a => a = b) (s'.trans (sz.trans (Stp.new (o := .lst ws) g2.zh hb (U S')))) (g2.move (Stp.new (o := .lst ws) g2.zh hb (fun _ => False)) fun _ _ z => z).1 (lst_newD g2.zh rw' hb pS)
/-- a[b], both values -/
theorem xe_ix {a b : Expr} {fa fb : SE} {r : R2} {op : DOp} (ho : IxR X r) (h : VOP G r op) (ha : PEs G X W a fa) (hb : PEs G X W b fb) (hs : PlainIx b := by exact fun _ _ => rfl) : PEs G X W (.Subscript a b pos) (s2 op fa fb) := by
  obtain ⟨ta, pa, ha⟩ := ha.ex
  obtain ⟨tb, pb, hb⟩ := hb.ex
  exact ⟨_, pe_ix ho pa pb hs, SEok.bin h ha hb⟩
/-- name[b], b a value: the name is looked at before and behind -/
theorem xe_ixN {b : Expr} {fb : SE} {r : R2} {op : DOp} {x : Str} {p1 : Pos} (i : Nat) (ho : IxR X r) (h : VOP G r op) (hb : PEs G X W b fb) (hN : X.N[i]? = some x := by rfl) (hv : Vis X.env.scope x := by first | exact Or.inl rfl | exact Or.inr (Or.inl rfl) | exact Or.inr (Or.inr rfl))
    (hd : (x == ("__debug__" : Str)) = false := by decide) (hcd : (x == ("__classdict__" : Str)) = false := by decide) (hs : PlainIx b := by exact fun _ _ => rfl) : PEs G X W (.Subscript (.Name x p1) b pos) (s2n op i fb) := by
  obtain ⟨tb, pb, hb⟩ := hb.ex
  exact ⟨_, pe_ix ho (pe_var hN hv hd hcd) pb hs, SEok.binN h hb⟩
end
end FL
namespace FL
open PySem L2 Classical
def maxI : List Int → Int
  | [] => 0
  | [x] => x
  | x :: y :: r => if x < maxI (y :: r) then maxI (y :: r) else x
def minI : List Int → Int
  | [] => 0
  | [x] => x
  | x :: y :: r => if minI (y :: r) < x then minI (y :: r) else x
theorem maxI_spec : ∀ {xs : List Int}, xs ≠ [] → maxI xs ∈ xs ∧ ∀ y ∈ xs, y ≤ maxI xs
  | [x], _ => by simp [maxI]
  | x :: y :: r, _ => by
    obtain ⟨h1, h2⟩ := maxI_spec (xs := y :: r) (by simp)
    unfold maxI
    split
    · rename_i h
      refine ⟨List.mem_cons_of_mem x h1, fun z hz => ?_⟩
      rcases List.mem_cons.mp hz with rfl | hz
      · omega
      · exact h2 z hz
    · rename_i h
      refine ⟨by simp, fun z hz => ?_⟩
      rcases List.mem_cons.mp hz with rfl | hz
      · omega
      · have := h2 z hz; omega
theorem minI_spec : ∀ {xs : List Int}, xs ≠ [] → minI xs ∈ xs ∧ ∀ y ∈ xs, minI xs ≤ y
  | [x], _ => by simp [minI]
  | x :: y :: r, _ => by
    obtain ⟨h1, h2⟩ := minI_spec (xs := y :: r) (by simp)
    unfold minI
    split
    · rename_i h
      refine ⟨List.mem_cons_of_mem x h1, fun z hz => ?_⟩
      rcases List.mem_cons.mp hz with rfl | hz
      · omega
      · exact h2 z hz
    · rename_i h
      refine ⟨by simp, fun z hz => ?_⟩
      rcases List.mem_cons.mp hz with rfl | hz
      · omega
      · have := h2 z hz; omega
def bMaxL : LOp
  | [m] => match m.seq with
    | some (false, ms) => match intsOf ms with
      | some (n :: ns) => .ok (.int (maxI (n :: ns)))
      | _ => .bad
    | _ => .bad
  | _ => .bad
def bMinL : LOp
  | [m] => match m.seq with
    | some (false, ms) => match intsOf ms with
      | some (n :: ns) => .ok (.int (minI (n :: ns)))
      | _ => .bad
    | _ => .bad
  | _ => .bad
theorem bop_maxL {G : Gx} : BOP G (rMax G.K) bMaxL := fun Z H ms vs Q zh r => by
  unfold bMaxL
  cases r with
  | nil => trivial
  | cons h t =>
    rename_i m v ms' vs'
    cases t with
    | cons _ _ => trivial
    | nil =>
      obtain ⟨T, h⟩ := h
      simp only
      cases e : m.seq with
      | none => trivial
      | some p =>
        obtain ⟨b, xs⟩ := p
        cases b with
        | true => trivial
        | false =>
          simp only
          cases e2 : intsOf xs with
          | none => trivial
          | some ns =>
            cases ns with
            | nil => trivial
            | cons n ns =>
              intro q
              obtain ⟨a, us, rfl, h1, h2, h3⟩ := h.seq zh e
              have hu := intsOf_rep h3 e2
              refine ⟨a, n :: ns, rfl, by rw [← hu]; exact h2 rfl, by simp, fun k hk hk2 => ?_⟩
              obtain ⟨g1, g2⟩ := maxI_spec (xs := n :: ns) (by simp)
              have : k = maxI (n :: ns) := by have := hk2 _ g1; have := g2 _ hk; omega
              rw [this]
              exact q _ intD
theorem bop_minL {G : Gx} : BOP G (rMin G.K) bMinL := fun Z H ms vs Q zh r => by
  unfold bMinL
  cases r with
  | nil => trivial
  | cons h t =>
    rename_i m v ms' vs'
    cases t with
    | cons _ _ => trivial
    | nil =>
      obtain ⟨T, h⟩ := h
      simp only
      cases e : m.seq with
      | none => trivial
      | some p =>
        obtain ⟨b, xs⟩ := p
        cases b with
        | true => trivial
        | false =>
          simp only
          cases e2 : intsOf xs with
          | none => trivial
          | some ns =>
            cases ns with
            | nil => trivial
            | cons n ns =>
              intro q
              obtain ⟨a, us, rfl, h1, h2, h3⟩ := h.seq zh e
              have hu := intsOf_rep h3 e2
              refine ⟨a, n :: ns, rfl, by rw [← hu]; exact h2 rfl, by simp, fun k hk hk2 => ?_⟩
              obtain ⟨g1, g2⟩ := minI_spec (xs := n :: ns) (by simp)
              have : k = minI (n :: ns) := by have := hk2 _ g1; have := g2 _ hk; omega
              rw [this]
              exact q _ intD
/-- a def that promises nothing -/
theorem fnA_bad {P : Program} {w : World} {mg : Str → Option Value} {base : Heap} {G : Gx} {x : Str} {st : Stmt} {f : Addr} {fd : FuncData} {N ps : List Str} {k n : Nat} (F : Fun G.K x x st f fd) (hm : mg x = some (.ref f)) (hb : Binds G.K fd ps []) (S : FnScope N ps (defScope st)) (hn : ps.length = n) (hk : 1 ≤ k) : FnA P w G mg base k x n (fun _ => .bad) := by
  obtain ⟨j, rfl⟩ : ∃ j, k = j + 1 := ⟨k - 1, by omega⟩
  have h := fnA_mk (P := P) (w := w) (base := base) (k := j) (b := fun _ => .bad) [] F hm hb S hn fun cdv A outer s H E hr tk hp => ⟨_, ⟨fun pins s σ H D I (h : False) => h.elim⟩, fun D Z H σ env S gd p => p.elim⟩
  exact h
end FL

set_option maxHeartbeats 2000000
/-! FLWA: plain law: watched loops, fractions added up, outcomes. -/
namespace FL
open PySem L2 Classical
theorem flw_all {ws : List Nat} {env0 : Env} {g : SG} {b : SS} {α : Type} (dd : α → D) (I : List α → Env → Prop) (hw : ∀ xs env, I xs env → wOk ws env0 env) (h : ∀ x rest env, I (x :: rest) env → ∃ e1 e2 t, g (.d (dd x)) env = .ok e1 ∧ b e1 = .ok (t, e2) ∧ (t = .nx ∨ t = .ct) ∧ I rest e2) :
    ∀ (xs : List α) (env : Env), I xs env → ∃ e', flw ws env0 g b (xs.map dd) env = .ok (.nx, e') ∧ I [] e'
  | [], env, i => ⟨env, by simp only [List.map_nil, flw]; rw [if_pos (hw _ _ i)], i⟩
  | x :: xs, env, i => by
    obtain ⟨e1, e2, t, h1, h2, h3, h4⟩ := h x xs env i
    obtain ⟨e', h5, h6⟩ := flw_all dd I hw h xs e2 h4
    refine ⟨e', ?_, h6⟩
    rw [List.map_cons]
    unfold flw
    rw [if_pos (hw _ _ i)]
    simp only [h1, h2]
    rcases h3 with rfl | rfl
    · exact h5
    · exact h5
theorem flw_or {ws : List Nat} {env0 : Env} {g : SG} {b : SS} {α : Type} (dd : α → D) (I : List α → Env → Prop) (R : M → Env → Prop) (hw : ∀ xs env, I xs env → wOk ws env0 env)
    (h : ∀ x rest env, I (x :: rest) env → ∃ e1, g (.d (dd x)) env = .ok e1 ∧ ((∃ e2 t, b e1 = .ok (t, e2) ∧ (t = .nx ∨ t = .ct) ∧ I rest e2) ∨ ∃ m e2, b e1 = .ok (.ret m, e2) ∧ R m e2)) :
    ∀ (xs : List α) (env : Env), I xs env → (∃ e', flw ws env0 g b (xs.map dd) env = .ok (.nx, e') ∧ I [] e') ∨ ∃ m e', flw ws env0 g b (xs.map dd) env = .ok (.ret m, e') ∧ R m e'
  | [], env, i => .inl ⟨env, by simp only [List.map_nil, flw]; rw [if_pos (hw _ _ i)], i⟩
  | x :: xs, env, i => by
    obtain ⟨e1, h1, ⟨e2, t, h2, h3, h4⟩ | ⟨m, e2, h2, h3⟩⟩ := h x xs env i
    · have e : flw ws env0 g b ((x :: xs).map dd) env = flw ws env0 g b (xs.map dd) e2 := by
        rw [List.map_cons]
        conv => lhs; unfold flw
        rw [if_pos (hw _ _ i)]
        simp only [h1, h2]
        rcases h3 with rfl | rfl <;> rfl
      rw [e]
      exact flw_or dd I R hw h xs e2 h4
    · refine .inr ⟨m, e2, ?_, h3⟩
      rw [List.map_cons]
      unfold flw
      rw [if_pos (hw _ _ i)]
      simp only [h1, h2]
theorem lclw_map {own ws : List Nat} {env0 : Env} {g : SG} {c : SB} {f : SE} {env : Env} {α : Type} (dd : α → D) (φ : α → M) (hw : wOk ws env0 env) : ∀ (xs : List α) (acc : List M),
    (∀ x ∈ xs, ∃ e1 e2 e3, g (.d (dd x)) env = .ok e1 ∧ c e1 = .ok (true, e2) ∧ f e2 = .ok (φ x, e3) ∧ killAll own e3 = env) → lclw own ws env0 g c f (xs.map dd) acc env = .ok (acc ++ xs.map φ, env)
  | [], acc, _ => by simp only [List.map_nil, lclw]; rw [if_pos hw]; simp
  | x :: xs, acc, h => by
    obtain ⟨e1, e2, e3, h1, h2, h3, h4⟩ := h x (by simp)
    rw [List.map_cons]
    unfold lclw
    rw [if_pos hw]
    simp only [h1, h2, h3, h4]
    rw [lclw_map dd φ hw xs (acc ++ [φ x]) fun y hy => h y (by simp [hy])]
    simp
/-- with a test: the items that stand it -/
theorem lclw_if {own ws : List Nat} {env0 : Env} {g : SG} {c : SB} {f : SE} {env : Env} {α : Type} (dd : α → D) (φ : α → M) (p : α → Bool) (hw : wOk ws env0 env) : ∀ (xs : List α) (acc : List M),
    (∀ x ∈ xs, ∃ e1 e2 e3, g (.d (dd x)) env = .ok e1 ∧ c e1 = .ok (p x, e2) ∧ (p x = true → f e2 = .ok (φ x, e3) ∧ killAll own e3 = env) ∧ (p x = false → killAll own e2 = env)) → lclw own ws env0 g c f (xs.map dd) acc env = .ok (acc ++ (xs.filter p).map φ, env)
  | [], acc, _ => by simp only [List.map_nil, lclw]; rw [if_pos hw]; simp
  | x :: xs, acc, h => by
    obtain ⟨e1, e2, e3, h1, h2, h3, h4⟩ := h x (by simp)
    rw [List.map_cons]
    unfold lclw
    rw [if_pos hw]
    simp only [h1, h2]
    cases hp : p x with
    | true =>
      obtain ⟨h5, h6⟩ := h3 hp
      simp only [h5, h6]
      rw [lclw_if dd φ p hw xs (acc ++ [φ x]) fun y hy => h y (by simp [hy])]
      simp [hp]
    | false =>
      simp only [h4 hp]
      rw [lclw_if dd φ p hw xs acc fun y hy => h y (by simp [hy])]
      simp [hp]
/-! ### fractions over one bottom, added up -/
theorem low_add {w v C : Int} (hC : 0 < C) : lowT (lowT w C * lowB v C + lowT v C * lowB w C) (lowB w C * lowB v C) = lowT (w + v) C ∧ lowB (lowT w C * lowB v C + lowT v C * lowB w C) (lowB w C * lowB v C) = lowB (w + v) C := by
  have h1 := lowB_pos (t := w) hC
  have h2 := lowB_pos (t := v) hC
  have c1 := low_cross (t := w) (b := C)
  have c2 := low_cross (t := v) (b := C)
  refine low_eq (Int.mul_pos h1 h2) hC ?_
  generalize lowT w C = a at *
  generalize lowB w C = b at *
  generalize lowT v C = c at *
  generalize lowB v C = d at *
  clear h1 h2 hC
  grind
theorem low_over {w W C : Int} (hC : 0 < C) (hW : 0 < W) : 0 < lowB w C * lowT W C ∧ lowT (lowT w C * lowB W C) (lowB w C * lowT W C) = lowT w W ∧ lowB (lowT w C * lowB W C) (lowB w C * lowT W C) = lowB w W := by
  have h1 := lowB_pos (t := w) hC
  have h2 := lowB_pos (t := W) hC
  have c1 := low_cross (t := w) (b := C)
  have c2 := low_cross (t := W) (b := C)
  have h3 : 0 < lowT W C := by
    refine Int.not_le.mp fun q => ?_
    have a1 : lowT W C * C ≤ 0 := Int.mul_nonpos_of_nonpos_of_nonneg q (Int.le_of_lt hC)
    have a2 : 0 < W * lowB W C := Int.mul_pos hW h2
    omega
  refine ⟨Int.mul_pos h1 h3, low_eq (Int.mul_pos h1 h3) hW ?_⟩
  have key : (lowT w C * lowB W C * W) * C = (w * (lowB w C * lowT W C)) * C := by
    generalize lowT w C = a at *
    generalize lowB w C = b at *
    generalize lowT W C = c at *
    generalize lowB W C = d at *
    clear h1 h2 h3 hC hW
    grind
  exact Int.eq_of_mul_eq_mul_right (by omega) key
theorem low_self {W : Int} (hW : 0 < W) : lowT W W = 1 ∧ lowB W W = 1 := by
  have e : gI W W = W := by
    unfold gI
    rw [Int.gcd_self]
    omega
  unfold lowT lowB
  rw [e]
  exact ⟨Int.ediv_self (by omega), Int.ediv_self (by omega)⟩
theorem low_zero {C : Int} (hC : 0 < C) : lowT 0 C = 0 ∧ lowB 0 C = 1 := by
  have e : gI 0 C = C := by
    unfold gI
    rw [Int.gcd_zero_left]
    omega
  unfold lowT lowB
  rw [e]
  exact ⟨Int.zero_ediv _, Int.ediv_self (by omega)⟩
theorem lowT_pos {w C : Int} (hC : 0 < C) (hw : 0 < w) : 0 < lowT w C := by
  have c2 := low_cross (t := w) (b := C)
  have h2 := lowB_pos (t := w) hC
  refine Int.not_le.mp fun q => ?_
  have a1 : lowT w C * C ≤ 0 := Int.mul_nonpos_of_nonpos_of_nonneg q (Int.le_of_lt hC)
  have a2 : 0 < w * lowB w C := Int.mul_pos hw h2
  omega

/-! ### outcomes: None, a number, a record -/
def rowD (p : List Nat × Int) : D := .tup [.str (sl p.1), .int p.2]
inductive Out : D → Prop where
  | non : Out .non
  | int (i : Int) : Out (.int i)
  | rcd (rs : List (List Nat × Int)) : Out (.tup (rs.map rowD))
theorem rows_plain : ∀ rs : List (List Nat × Int), PyData.plainAll (toPys (rs.map rowD)) = true ∧ PyData.depthAll (toPys (rs.map rowD)) ≤ 1
  | [] => by simp [toPys, PyData.plainAll, PyData.depthAll]
  | r :: rs => by
    obtain ⟨h1, h2⟩ := rows_plain rs
    simp only [List.map_cons, toPys, PyData.plainAll, PyData.depthAll, h1, rowD, toPy, PyData.plain, PyData.depth]
    simp
    omega
theorem Out.pl {x : D} (h : Out x) : (toPy x).plain = true ∧ (toPy x).depth ≤ 2 := by
  cases h with
  | non => simp [toPy, PyData.plain, PyData.depth]
  | int i => simp [toPy, PyData.plain, PyData.depth]
  | rcd rs =>
    obtain ⟨h1, h2⟩ := rows_plain rs
    simp only [toPy, PyData.plain, PyData.depth, h1, true_and]
    omega
theorem rows_eqv : ∀ rs : List (List Nat × Int), PyData.eqvAll (toPys (rs.map rowD)) (toPys (rs.map rowD)) = true
  | [] => by simp [toPys, PyData.eqvAll]
  | r :: rs => by simp [toPys, PyData.eqvAll, rows_eqv rs, rowD, toPy, PyData.eqv]
theorem Out.eqv {x : D} (h : Out x) : PyData.eqv (toPy x) (toPy x) = true := by
  cases h with
  | non => simp [toPy, PyData.eqv]
  | int i => simp [toPy, PyData.eqv]
  | rcd rs => simp only [toPy, PyData.eqv]; exact rows_eqv rs
theorem Out.pl60 {x : D} (h : Out x) : Pl 60 x := ⟨h.pl.1, by have := h.pl.2; omega⟩
theorem oEq_out {x y : D} (hx : Out x) (hy : Out y) : oEq (.d x) (.d y) = .ok (.bl (eqD x y)) := oEq_pl hx.pl60 hy.pl60
theorem oNe_out {x y : D} (hx : Out x) (hy : Out y) : oNe (.d x) (.d y) = .ok (.bl (!eqD x y)) := oNe_pl hx.pl60 hy.pl60
theorem Out.eqD {x : D} (h : Out x) : eqD x x = true := h.eqv
theorem srt_rows (rs : List (List Nat × Int)) : SrtOk (rs.map rowD) ∧ ∃ qs : List (List Nat × Int), srtD (rs.map rowD) = qs.map rowD := by
  refine ⟨⟨fun x hx => ?_, ?_, ?_⟩, ?_⟩
  · obtain ⟨r, _, rfl⟩ := List.mem_map.mp hx
    simp [rowD, toPy, toPys, PyData.plain, PyData.plainAll, PyData.depth, PyData.depthAll]
  · rw [List.map_map]
    exact PySem.W.AllAlike.of fun a b => by simp [rowD, toPy, toPys, PySem.W.alike, PySem.W.alikeAll]
  · rw [List.map_map]
    exact PySem.W.Sortable.tuples fun a => ⟨.str (sl a.1), [.int a.2], by simp only [Function.comp, rowD, toPy, toPys]⟩
  · refine ⟨rs.mergeSort (PySem.W.dataLe false fun r => toPy (rowD r)), ?_⟩
    unfold srtD
    rw [List.map_mergeSort]
    intro a _ b _
    rfl
end FL

set_option maxHeartbeats 2000000
/-! FLWB: a def that tells a key (no loop, nothing changed), read at the concrete heap; sorted by it. -/
namespace FL
open PySem L2 Classical PySem.Spec PyProof.Rows

/-- all objects stay -/
def Kp (h h' : Heap) : Prop := ∀ b o, h.get? b = some o → h'.get? b = some o
theorem Kp.rfl {h : Heap} : Kp h h := fun _ _ e => e
theorem Kp.trans {h h' h'' : Heap} (a : Kp h h') (b : Kp h' h'') : Kp h h'' := fun c o e => b c o (a c o e)

/-- the place a key def's body runs at -/
structure KCx where
  P : Program
  w : World
  K : PySem.W.Frag
  mg : Str → Option Value
  base : Heap
  A : Around
  env : PySem.Env
  m : Str → Option Value
  s1 : Shared
structure KCx.Ok (C : KCx) : Prop where
  mod : Mod C.K C.mg C.base
  bs : Kp C.base C.s1.heap
  kind : C.env.scope.kind = .function
  glob : C.env.globals = mainGlobals
  blt : C.env.builtins = builtinsNs
  ns : C.s1.heap.Ns C.env.locals C.m
abbrev KCx.st (C : KCx) (h : Heap) (tk : Nat) : Shared := { C.s1 with heap := h, toks := tk }

structure KE (C : KCx) (e : Expr) (d : PyData) : Prop where
  run : ∀ (h : Heap) (tk : Nat) (Q : Value → Shared → Prop) (E : Value → Shared → Prop), Kp C.s1.heap h →
    (∀ u h' tk', Kp h h' → Reads h' u d [] → Q u (C.st h' tk')) → wpAny (model C.P C.w) C.A (eval e C.env) Q E (C.st h tk)
structure KA (C : KCx) (es : List Expr) (ds : List PyData) : Prop where
  run : ∀ (pos : Pos) (h : Heap) (tk : Nat) (Q : List Value → Shared → Prop) (E : Value → Shared → Prop), Kp C.s1.heap h →
    (∀ us h' tk', Kp h h' → ReadsAll h' us ds [] → Q us (C.st h' tk')) → wpAny (model C.P C.w) C.A (spliced (backTo pos (starEach es C.env))) Q E (C.st h tk)
structure KT (C : KCx) (e : Expr) (b : Bool) : Prop where
  run : ∀ (h : Heap) (tk : Nat) (Q : Bool → Shared → Prop) (E : Value → Shared → Prop), Kp C.s1.heap h →
    (∀ h' tk', Kp h h' → Q b (C.st h' tk')) → wpAny (model C.P C.w) C.A (isTrue e C.env (eval e C.env)) Q E (C.st h tk)
structure KSs (C : KCx) (sts : List Stmt) (d : PyData) : Prop where
  run : ∀ (h : Heap) (tk : Nat) (Q : Flow → Shared → Prop) (E : Value → Shared → Prop), Kp C.s1.heap h →
    (∀ u h' tk', Kp h h' → Reads h' u d [] → Q (.ret u) (C.st h' tk')) → wpAny (model C.P C.w) C.A (execs sts C.env) Q E (C.st h tk)

theorem readsAll_app0 {h : Heap} {v : Value} {vs : List Value} {d : PyData} {ds : List PyData} (a : Reads h v d []) (b : ReadsAll h vs ds []) : ReadsAll h (v :: vs) (d :: ds) [] := by
  have := ReadsAll.cons a b
  simpa using this
section
variable {C : KCx} {e a : Expr} {b : Bool} {es : List Expr} {d : PyData} {ds : List PyData} {pos : Pos} {x : Str} {u : Value}
theorem ke_int {i : Int} {j} : KE C (.Constant (.int i) j pos) (.int i) := ⟨fun h tk Q E _ q => wpAny_Constant_int (q _ h _ Kp.rfl (.int i _))⟩
theorem ke_var (ok : C.Ok) (hl : C.env.scope.names.lookup x = some .local) (hm : C.m x = some u) (r : Reads C.s1.heap u d []) (hd : (x == ("__debug__" : Str)) = false := by decide) : KE C (.Name x pos) d :=
  ⟨fun h tk Q E k q => wpAny_Name (wpAny_loadName_local ok.kind hl (ok.ns.keeps k) hm (q u h tk Kp.rfl (PyProof.Rows.Reads.keeps k r))) hd⟩
theorem ka_nil : KA C [] [] := ⟨fun pos h tk Q E k q => Calls.spliced_nil (q [] h tk Kp.rfl .nil)⟩
theorem ka_cons (ha : KE C e d) (hr : KA C es ds) (hs : starEach (e :: es) C.env = (false, eval e C.env) :: starEach es C.env) : KA C (e :: es) (d :: ds) := by
  refine ⟨fun pos h tk Q E k q => ?_⟩
  rw [hs]
  show wpAny _ _ (spliced ((false, eval e C.env) :: backTo pos (starEach es C.env))) _ _ _
  refine Calls.spliced_cons (ha.run h tk _ E k fun u h1 tk1 k1 r1 => ?_)
  refine hr.run pos h1 tk1 _ E (k.trans k1) fun us h2 tk2 k2 r2 => ?_
  exact q _ h2 tk2 (k1.trans k2) (readsAll_app0 (PyProof.Rows.Reads.keeps k2 r1) r2)
theorem readsAll_len {h : Heap} : ∀ {us : List Value} {ds : List PyData} {as : List Addr}, ReadsAll h us ds as → us.length = ds.length := by
  intro us ds
  induction ds generalizing us with
  | nil => intro as r; cases r; simp
  | cons d ds ih => intro as r; cases r with | cons a b => simp [ih b]
theorem ke_tup {x1} (ha : KA C es ds) (hz : ds.length ≤ 60) : KE C (.Tuple es x1 pos) (.tuple ds) := by
  refine ⟨fun h tk Q E k q => ?_⟩
  refine wpAny_Tuple_spliced (ha.run pos h tk _ E k fun us h1 tk1 k1 r1 => ⟨?_, ?_⟩)
  · rw [readsAll_len r1, sizeLine_eq]; omega
  · refine q _ _ _ (fun b o e => Heap.get?_push_of_some _ (k1 b o e)) ?_
    refine .tuple (Heap.get?_push_size _ rfl) rfl rfl (n := 0) (vs := us.toArray) ?_
    have : ReadsAll (h1.push { cls := .type "tuple", data := .seq us.toArray }) us ds [] := by
      have key : ∀ {us : List Value} {ds : List PyData} {as : List Addr} {g g' : Heap}, Kp g g' → ReadsAll g us ds as → ReadsAll g' us ds as := by
        intro us ds
        induction ds generalizing us with
        | nil => intro as g g' _ r; cases r; exact .nil
        | cons d ds ih => intro as g g' k r; cases r with | cons a b => exact .cons (PyProof.Rows.Reads.keeps k a) (ih k b)
      exact key (fun b o e => Heap.get?_push_of_some _ e) r1
    simpa using this
/-- is None -/
theorem kt_isN {j pos'} (ha : KE C a d) (hb : ∀ h u, Reads h u d [] → (u == Value.none) = b) : KT C (.Compare a [.Is] [.Constant .none j pos'] pos) b := by
  refine ⟨fun h tk Q E k q => ?_⟩
  refine wpAny_isTrue_Compare1 (ha.run h tk _ E k fun u h1 tk1 k1 r1 => ?_) (nomark _)
  refine Constant_none (is_none_gen ?_)
  rw [hb h1 u r1]
  exact wpAny_truthy_bool (q h1 tk1 k1)
/-- isinstance(a, int) -/
theorem kt_isi {p p2 : Pos} {T : Str} {t : String} (ok : C.Ok) (ha : KE C a d) (hm : C.mg "isinstance" = none) (hmt : C.mg T = none) (hv : bootBuiltins T = some (.type t))
    (hg : C.env.kindOf "isinstance" = some .globalImplicit) (hgt : C.env.kindOf T = some .globalImplicit) (hn : T ≠ "__name__") (hdt : (T == ("__debug__" : Str)) = false)
    (hs : starEach [a, .Name T p2] C.env = (false, eval a C.env) :: starEach [.Name T p2] C.env) (hs2 : starEach [.Name T p2] C.env = (false, eval (.Name T p2) C.env) :: starEach [] C.env)
    (hpl : (backTo pos (starEach [.Name T p2] C.env)).any (·.1) = false)
    (he : ∀ whole, isTrue (.Call (.Name "isinstance" p) [a, .Name T p2] [] pos) C.env whole = (do let v ← whole; standAt (Expr.pos (.Call (.Name "isinstance" p) [a, .Name T p2] [] pos)); holding [v] (truthy v)))
    (hb : ∀ (s : Shared) u (Q : Value → Shared → Prop) E, C.K.In s.heap → Reads s.heap u d [] → (∀ tk, Q (.bool b) { s with toks := tk }) → wpAny (model C.P C.w) C.A (call (.builtin "isinstance") [u, .type t]) Q E s) :
    KT C (.Call (.Name "isinstance" p) [a, .Name T p2] [] pos) b := by
  have blt : ∀ {x : Str} {u : Value} {ps : Pos} {h : Heap} {tk : Nat} {Q : Value → Shared → Prop} {E}, Kp C.s1.heap h → C.env.kindOf x = some .globalImplicit → C.mg x = none → bootBuiltins x = some u → x ≠ "__name__" → (x == ("__debug__" : Str)) = false → Q u (C.st h tk) →
      wpAny (model C.P C.w) C.A (eval (.Name x ps) C.env) Q E (C.st h tk) := by
    intro x u ps h tk Q E k hg hm hv hn hd q
    obtain ⟨mb, h1, h2⟩ := ok.mod.blt
    have kb : Kp C.base h := ok.bs.trans k
    exact Calls.Name_function_global ok.kind hg (Calls.loadGlobal_builtin (by rw [ok.glob]; exact ok.mod.glob.keeps kb) hm (by rw [ok.blt]; exact h1.keeps kb) ((h2 x hn).trans hv) q) hd
  refine ⟨fun h tk Q E k q => ?_⟩
  refine isTrue_plain ?_ (he _)
  refine wpAny_Call_Name_kw (blt k hg hm PyProof.Rows.boot_isinstance (by decide) (by decide) ?_)
  refine PyProof.Rows.callWith_builtin1 ?_ hs hpl
  rw [hs]
  show wpAny _ _ (spliced ((false, eval a C.env) :: backTo pos (starEach [.Name T p2] C.env))) _ _ _
  refine Calls.spliced_cons (ha.run h tk _ _ k fun u h1 tk1 k1 r1 => ?_)
  rw [hs2]
  show wpAny _ _ (spliced ((false, eval (.Name T p2) C.env) :: backTo pos (starEach [] C.env))) _ _ _
  refine Calls.spliced_cons (blt (k.trans k1) hgt hmt hv hn hdt (Calls.spliced_nil ?_))
  refine hb _ u _ _ (ok.mod.kin.keeps (ok.bs.trans (k.trans k1))) r1 fun tk2 => ?_
  exact wpAny_truthy_bool (q h1 tk2 k1)
/-- isinstance(a, int) of a number, of a tuple -/
theorem kt_int {p p2 : Pos} (ok : C.Ok) (ha : KE C a d) (hd : (∃ i, d = .int i ∧ b = true) ∨ (∃ xs, d = .tuple xs ∧ b = false)) (hm : C.mg "isinstance" = none) (hmt : C.mg "int" = none)
    (hg : C.env.kindOf "isinstance" = some .globalImplicit := by rfl) (hgt : C.env.kindOf "int" = some .globalImplicit := by rfl)
    (hs : starEach [a, .Name "int" p2] C.env = (false, eval a C.env) :: starEach [.Name "int" p2] C.env := by rfl) (hs2 : starEach [.Name "int" p2] C.env = (false, eval (.Name "int" p2) C.env) :: starEach [] C.env := by rfl)
    (hpl : (backTo pos (starEach [.Name "int" p2] C.env)).any (·.1) = false := by rfl)
    (he : ∀ whole, isTrue (.Call (.Name "isinstance" p) [a, .Name "int" p2] [] pos) C.env whole = (do let v ← whole; standAt (Expr.pos (.Call (.Name "isinstance" p) [a, .Name "int" p2] [] pos)); holding [v] (truthy v)) := by intro _; rfl) :
    KT C (.Call (.Name "isinstance" p) [a, .Name "int" p2] [] pos) b := by
  refine kt_isi (t := "int") ok ha hm hmt (by decide +kernel) hg hgt (by decide) (by decide) hs hs2 hpl he fun s u Q E hK r q => ?_
  rcases hd with ⟨i, rfl, rfl⟩ | ⟨xs, rfl, rfl⟩
  · cases r
    exact PySem.W.kia_one PySem.W.kitx_int hK True.intro (kit_is (a := "int") (b := "int") (by decide) (by decide)) (fun z => nomatch z) q
  · cases r with
    | tuple h1 h2 h3 h4 => exact PySem.W.kia_one PySem.W.kitx_tuple hK ⟨_, h1, h2⟩ (kit_is (a := "tuple") (b := "int") (by decide) (by decide)) (fun z => nomatch z) q
theorem kss_ret {rest : List Stmt} (ha : KE C e d) : KSs C (.Return (some e) pos :: rest) d :=
  ⟨fun h tk Q E k q => wpAny_execs_cons (wpAny_Return_some (ha.run h tk _ E k fun u h1 tk1 k1 r1 => q u h1 tk1 k1 r1))⟩
theorem kss_yes {c : Expr} {xs ys rest : List Stmt} (hc : KT C c true) (hx : KSs C xs d) : KSs C (.If c xs ys pos :: rest) d :=
  ⟨fun h tk Q E k q => wpAny_execs_cons (wpAny_If (hc.run h tk _ E k fun h1 tk1 k1 => hx.run h1 tk1 _ E (k.trans k1) fun u h2 tk2 k2 r2 => q u h2 tk2 (k1.trans k2) r2))⟩
theorem kss_no {c : Expr} {xs rest : List Stmt} (hc : KT C c false) (hx : KSs C rest d) : KSs C (.If c xs [] pos :: rest) d :=
  ⟨fun h tk Q E k q => wpAny_execs_cons (wpAny_If (hc.run h tk _ E k fun h1 tk1 k1 => wpAny_execs_nil (hx.run h1 tk1 _ E (k.trans k1) fun u h2 tk2 k2 r2 => q u h2 tk2 (k1.trans k2) r2)))⟩
end

/-! ### the def's entry -/
def KeyT (P : Program) (w : World) (K : PySem.W.Frag) (mg : Str → Option Value) (base : Heap) (k : Nat) (f : Addr) (kd : PyData → PyData → Prop) : Prop :=
  ∀ (A : Around) (outer : List PySem.Env) (s : Shared) (v : Value) (x key : PyData) (E : Value → Shared → Prop), Mod K mg base → Room k A → Kp base s.heap → Reads s.heap v x [] → kd x key → wpAny (model P w) A (call (.ref f) [v]) (PySem.W.KeyPure key s) E s
abbrev kcx (P : Program) (w : World) (K : PySem.W.Frag) (mg : Str → Option Value) (base : Heap) (px qual : Str) (sc : Scope) (f : Addr) (cd : Value) (A : Around) (s s1 : Shared) (u : Value) : KCx where
  P := P
  w := w
  K := K
  mg := mg
  base := base
  A := A.deeper (envOfC qual sc s.heap.objs.size f cd)
  env := envOfC qual sc s.heap.objs.size f cd
  m := bindL (envOfC qual sc s.heap.objs.size f cd).kindOf ([px].zip [u]) fun _ => none
  s1 := s1
theorem key_fn {P : Program} {w : World} {K : PySem.W.Frag} {mg : Str → Option Value} {base : Heap} {x px : Str} {st : Stmt} {f : Addr} {fd : FuncData} {k : Nat} {kd : PyData → PyData → Prop} (F : Fun K x x st f fd) (S : FnScope [px] [px] (defScope st)) (hl : (defScope st).names.lookup px = some .local) (hb : Binds K fd [px] [])
    (hbody : ∀ (cd : Value) (A : Around) (s s1 : Shared) (u : Value) (d key : PyData), kd d key → (kcx P w K mg base px x (defScope st) f cd A s s1 u).Ok → Reads s1.heap u d [] → (kcx P w K mg base px x (defScope st) f cd A s s1 u).m px = some u → KSs (kcx P w K mg base px x (defScope st) f cd A s s1 u) (defBody st) key) :
    KeyT P w K mg base (k + 1) f kd := by
  intro A outer s v d key E mod hr kb hr0 hkd
  obtain ⟨oc, od, kV, doc, pm, an, cdv, ct, osl, rfl, lk, hcd⟩ := F.ex
  have KX : K.In s.heap := mod.kin.keeps kb
  have lim : s.heap.NoLimit := mod.nolimit.keeps kb
  refine wpAny_call (codeAny_mono (R := fun r s' => match r with | .ok (.ret u) => PySem.W.KeyPure key s u s' | .ok _ => False | .error _ => False) ?_ fun r s' hq => ?_)
  · refine codeAny_call_function hr.depth (KX _ _ lk) rfl S.co S.gen rfl (PySem.W.codeRec_of KX hcd) (hb s [v] KX (by simp) _ _ _ _ ?_)
    refine wpAny_newFunctionEnv_cells S.kind (fun y hy => ?_) fun env he s1 ic => ?_
    · have : y = (px, v) := by simpa using hy
      subst this
      exact .inl hl
    subst he
    refine ⟨lim.keeps ic.toInCall.keep, codeAny_func ?_⟩
    obtain ⟨h1, tk, rfl, hk⟩ := id ic.done
    have kk : Kp s.heap h1 := hk
    have ok : (kcx P w K mg base px x (defScope st) f cdv A s { s with heap := h1, toks := tk } v).Ok := ⟨mod, kb.trans kk, S.kind, rfl, rfl, ic.toInCall.ns⟩
    have hm : (kcx P w K mg base px x (defScope st) f cdv A s { s with heap := h1, toks := tk } v).m px = some v := bindL_get (kindOf := (envOfC x (defScope st) s.heap.objs.size f cdv).kindOf) (P := [px]) (vs := [v]) (i := 0) (by simp) rfl rfl hl
    have hrun := (hbody cdv A s { s with heap := h1, toks := tk } v d key hkd ok (PyProof.Rows.Reads.keeps kk hr0) hm).run h1 tk
    refine hrun _ _ Kp.rfl fun u h' tk' k' r' => ?_
    exact ⟨h', tk', rfl, kk.trans k', r'⟩
  · cases r with
    | error e => exact hq.elim
    | ok fl => cases fl with
      | ret u => exact hq
      | next => exact hq.elim
      | brk => exact hq.elim
      | cont => exact hq.elim

mutual
/-- no list in it -/
def noL : PyData → Bool
  | .none => true
  | .bool _ => true
  | .int _ => true
  | .str _ => true
  | .tuple xs => noLs xs
  | _ => false
def noLs : List PyData → Bool
  | [] => true
  | x :: xs => noL x && noLs xs
end
mutual
theorem reads_nil {h : Heap} : ∀ (d : PyData) (v : Value) (as : List Addr), Reads h v d as → noL d = true → as = []
  | .none, _, _, r, _ => by cases r; rfl
  | .bool _, _, _, r, _ => by cases r; rfl
  | .int _, _, _, r, _ => by cases r; rfl
  | .str _, _, _, r, _ => by cases r; rfl
  | .tuple xs, _, _, r, n => by
    cases r with
    | tuple h1 h2 h3 h4 => exact readsAll_nil xs _ _ h4 (by simpa [noL] using n)
  | .list _, _, _, _, n => by simp [noL] at n
  | .dict _, _, _, _, n => by simp [noL] at n
theorem readsAll_nil {h : Heap} : ∀ (ds : List PyData) (vs : List Value) (as : List Addr), ReadsAll h vs ds as → noLs ds = true → as = []
  | [], _, _, r, _ => by cases r; rfl
  | d :: ds, _, _, r, n => by
    cases r with
    | cons a b =>
      rw [noLs, Bool.and_eq_true] at n
      rw [reads_nil d _ _ a n.1, readsAll_nil ds _ _ b n.2]
      rfl
end

/-! ### sorted(xs, key=f) -/
structure KItem where
  x : PyData
  key : PyData
  v : V
theorem items_each : ∀ {ps : List KItem} {us : List Value}, Vals (ps.map (·.v)) us → PySem.W.EachIs (fun u (p : KItem) => RelV p.v u) us ps := by
  intro ps
  induction ps with
  | nil => intro us r; cases r; exact .nil
  | cons p ps ih => intro us r; cases r with | cons a b => exact .cons a (ih b)
theorem each_items : ∀ {ps : List KItem} {us : List Value} {R : Value → KItem → Prop}, PySem.W.EachIs R us ps → (∀ u p, R u p → RelV p.v u) → Vals (ps.map (·.v)) us := by
  intro ps us R e
  induction e with
  | nil => intro _; exact .nil
  | cons a b ih => intro hh; exact .cons (hh _ _ a) (ih hh)
def rSrtK (K : PySem.W.Frag) (f : Addr) (kd : PyData → PyData → Prop) : List V → List V → Hp → VK → Prop := fun vs zs H Q => ∃ (a : Addr) (ps : List KItem), vs = [.ref a] ∧ zs = [.ref f] ∧ SqL K H a (ps.map (·.v)) ∧
  (∀ p ∈ ps, Dp K H p.v p.x ∧ noL p.x = true ∧ kd p.x p.key ∧ p.key.depth ≤ 60) ∧ PySem.W.AllAlike (ps.map (·.key)) ∧ PySem.W.Sortable (ps.map (·.key)) ∧
  ∀ q, H q = none → Q (.ref q) (upd H q (.lst ((ps.mergeSort (PySem.W.dataLe false (fun p : KItem => p.key))).map (·.v))))
theorem cr_srtK {X : Cx} {k : Nat} {f : Addr} {kd : PyData → PyData → Prop} (T : KeyT X.prog X.w X.K X.mg X.base k f kd) (hr : Room (k + 2) X.A) : CallRK X (.builtin "sorted") [Str.ofString "key"] (rSrtK X.K f kd) := by
  intro pins s σ H vs zs us ws Q I r rz h
  obtain ⟨a, ps, rfl, rfl, hs, hd, hal, hk, q⟩ := h
  obtain ⟨its, rv, hl, hz⟩ := I.list hs
  rw [Vals.ref1 r]
  obtain ⟨w1, rfl, e1⟩ := vals1 rz
  obtain rfl : w1 = Value.ref f := e1
  have hun : X.A.units + 66 < cLine := by have := hr.un; omega
  have e : PySem.W.EachIs (fun v (p : KItem) => RelV p.v v ∧ Reads s.heap v p.x [] ∧ kd p.x p.key) its ps := by
    have key : ∀ {us : List Value} {qs : List KItem}, PySem.W.EachIs (fun u (p : KItem) => RelV p.v u) us qs → (∀ p ∈ qs, Dp X.K H p.v p.x ∧ noL p.x = true ∧ kd p.x p.key ∧ p.key.depth ≤ 60) → PySem.W.EachIs (fun v (p : KItem) => RelV p.v v ∧ Reads s.heap v p.x [] ∧ kd p.x p.key) us qs := by
      intro us qs e'
      induction e' with
      | nil => intro _; exact .nil
      | cons a b ih =>
        intro hh
        rename_i b0 _ _
        have h0 := hh b0 (by simp)
        obtain ⟨as, r0⟩ := Dp.reads I _ _ _ h0.1 a
        have := reads_nil _ _ _ r0 h0.2.1
        subst this
        exact .cons ⟨a, r0, h0.2.2.1⟩ (ih fun p hp => hh p (by simp [hp]))
    exact key (items_each rv) hd
  refine PySem.W.sorted_key_data (b := false) (kw := [(Str.ofString "key", Value.ref f)]) (fun p : KItem => p.key) hl.isList e hal hk (by simpa using hz) (fun p hp => by have := (hd p hp).2.2.2; omega) (PyProof.Rows.ksk_s1 _ _) (fun _ => PyProof.Rows.ksk_l1 _ _) (fun _ => PyProof.Rows.ksk_t1 _ _)
    (fun v p ⟨_, hrd, hkd⟩ _ h tk kp => T X.A.in1.in1 X.stack _ v p.x p.key _ I.mod hr.in1.in1 (Kp.trans (show Kp X.base s.heap from I.bk) kp) (PyProof.Rows.Reads.keeps kp hrd) hkd) fun out c h' tk kp hfr hD hlen eo => ?_
  have hv := each_items eo fun _ _ z => z.1
  have hlen2 : ((ps.mergeSort (PySem.W.dataLe false (fun p : KItem => p.key))).map (·.v)).length ≤ sizeLine := by
    rw [List.length_map, List.length_mergeSort]
    simpa using hz
  exact ⟨.ref _, upd H (s.heap.objs.size + 1) (.lst ((ps.mergeSort (PySem.W.dataLe false (fun p : KItem => p.key))).map (·.v))), I.laid (t' := tk) kp (Nat.le_succ _) ⟨hlen2, out, c, hv, hD⟩, rfl, q _ (I.hok.fresh (Nat.le_succ _))⟩

/-- the key by the item -/
noncomputable def keyOf (kf : PyData → Option PyData) (x : D) : PyData := (kf (toPy x)).getD .none
def SrtKOk (kf : PyData → Option PyData) (xs : List D) : Prop :=
  (∀ x ∈ xs, (toPy x).plain = true ∧ noL (toPy x) = true ∧ (kf (toPy x)).isSome = true ∧ (keyOf kf x).depth ≤ 60) ∧ PySem.W.AllAlike (xs.map (keyOf kf)) ∧ PySem.W.Sortable (xs.map (keyOf kf))
noncomputable def srtK (kf : PyData → Option PyData) (xs : List D) : List D := xs.mergeSort (PySem.W.dataLe false (keyOf kf))
noncomputable def sSortedK (kf : PyData → Option PyData) (g : VE) : SE := fun env => match g env with
  | .ok m => match brw m with
    | some (false, xs) => if SrtKOk kf xs then .ok (.lst ((srtK kf xs).map .d), env) else .bad
    | _ => .bad
  | _ => .bad
structure KeyA (P : Program) (w : World) (G : Gx) (mg : Str → Option Value) (base : Heap) (k : Nat) (nm : Str) (kf : PyData → Option PyData) : Prop where
  ex : ∃ f : Addr, KeyT P w G.K mg base k f (fun x y => kf x = some y) ∧ mg nm = some (.ref f)
/-- what the rule gives, told in data -/
theorem srtK_data {G : Gx} {Z H : Hp} {a f : Addr} {kf : PyData → Option PyData} {xs : List D} {us : List V} {Q : VK} (zh : Same Z H) (hs : SqL G.K H a us) (rr : RepDs G Z xs us) (ok : SrtKOk kf xs) (q : ∀ p ws, H p = none → RepDs G Z (srtK kf xs) ws → Q (.ref p) (upd H p (.lst ws))) :
    rSrtK G.K f (fun x y => kf x = some y) [.ref a] [.ref f] H Q := by
  have hl := rr.len
  have e1 := zip_fst hl
  have e2 := zip_snd hl
  have hr := repDs_zip rr
  let mk : D × V → KItem := fun p => ⟨toPy p.1, keyOf kf p.1, p.2⟩
  let ps : List KItem := (List.zip xs us).map mk
  have p1 : ps.map (·.key) = xs.map (keyOf kf) := by
    show ((List.zip xs us).map mk).map (·.key) = _
    have h := congrArg (List.map (keyOf kf)) e1
    rw [List.map_map] at h ⊢
    exact h
  have p2 : ps.map (·.v) = us := by
    show ((List.zip xs us).map mk).map (·.v) = _
    rw [List.map_map]
    exact e2
  refine ⟨a, ps, rfl, rfl, by rw [p2]; exact hs, fun p hp => ?_, by rw [p1]; exact ok.2.1, by rw [p1]; exact ok.2.2, fun b hb => ?_⟩
  · obtain ⟨w, hw, rfl⟩ := List.mem_map.mp hp
    have hx : w.1 ∈ xs := by rw [← e1]; exact List.mem_map_of_mem hw
    have h0 := ok.1 _ hx
    refine ⟨RepD.dp zh _ _ h0.1 (hr w hw), h0.2.1, ?_, h0.2.2.2⟩
    obtain ⟨y, hy⟩ := Option.isSome_iff_exists.mp h0.2.2.1
    show kf (toPy w.1) = some (keyOf kf w.1)
    unfold keyOf
    rw [hy]; rfl
  · have m1 : ps.mergeSort (PySem.W.dataLe false (fun p : KItem => p.key)) = ((List.zip xs us).mergeSort (PySem.W.dataLe false fun p : D × V => keyOf kf p.1)).map mk := by
      show ((List.zip xs us).map mk).mergeSort _ = _
      rw [List.map_mergeSort]
      intro a _ b _
      rfl
    have m2 : srtK kf xs = ((List.zip xs us).mergeSort (PySem.W.dataLe false fun p : D × V => keyOf kf p.1)).map (·.1) := by
      have h : srtK kf xs = srtK kf ((List.zip xs us).map (·.1)) := by rw [e1]
      rw [h]
      unfold srtK
      rw [List.map_mergeSort]
      intro a _ b _
      rfl
    rw [m1, List.map_map]
    have hq : ∀ p ∈ (List.zip xs us).mergeSort (PySem.W.dataLe false fun p : D × V => keyOf kf p.1), RepD G Z p.1 p.2 := fun p hp => hr p ((List.mergeSort_perm _ _).mem_iff.mp hp)
    have := repDs_of hq
    rw [← m2] at this
    exact q b _ hb this
section
variable {G : Gx} {X : Cx} {W : WX'} {e : Expr} {g : VE} {p p2 kp pos : Pos} {k k' : Nat} {nm : Str} {kf : PyData → Option PyData}
theorem xe_sortedK (T : KeyA X.prog X.w G X.mg X.base k nm kf) (hr : Room k' X.A) (hk : k + 2 ≤ k') (hK : G.K = X.K) (hm : X.mg "sorted" = none) (ha : PVs G X e g) (hgk : Gl X nm := by rfl) (hdk : (nm == ("__debug__" : Str)) = false := by decide) (hv : bootBuiltins "sorted" = some (.builtin "sorted") := by decide +kernel) (hg : Gl X "sorted" := by rfl) (hst : starEach [e] X.env = (false, eval e X.env) :: starEach [] X.env := by rfl) (hpl : (backTo pos (starEach [e] X.env)).any (·.1) = false := by rfl)
    (hall : (backToKw pos (keywordEach [⟨some "key", .Name nm p2, kp⟩] X.env)).all (·.1.isSome) = true := by rfl) (hnone : (backToKw pos (keywordEach [⟨some "key", .Name nm p2, kp⟩] X.env)).any (·.1.isNone) = false := by rfl) (hks : (backToKw pos (keywordEach [⟨some "key", .Name nm p2, kp⟩] X.env)).filterMap (·.1) = [Str.ofString "key"] := by rfl) :
    PEs G X W (.Call (.Name "sorted" p) [e] [⟨some "key", .Name nm p2, kp⟩] pos) (sSortedK kf g) := by
  obtain ⟨t, q, h⟩ := ha.ex
  obtain ⟨f, T, hf⟩ := T.ex
  rw [hK] at T
  refine ⟨_, pe_callBK (cr_srtK T (hr.mono hk)) hg hm hv (pa_cons q pa_nil hst) (pk_cons (pe_glob (v := .ref f) hgk hf rfl hdk) pk_nil) (by decide) (by decide) (by rw [hst]; rfl) hpl hall hnone hks, SEok.mk' fun Z H σ env S Q gd k => ?_⟩
  unfold sSortedK at k
  have h1 := h Z H σ env S (fun x H1 => rSrtK X.K f (fun x y => kf x = some y) [x] [.ref f] H1 Q) gd
  cases e1 : g env with
  | bad => rw [e1] at k; exact k.elim
  | exc x e' => rw [e1] at k; exact k.elim
  | ok m =>
    rw [e1] at k h1
    simp only at k h1
    cases e3 : brw m with
    | none => rw [e3] at k; exact k.elim
    | some q1 =>
      obtain ⟨b1, xs⟩ := q1
      rw [e3] at k
      cases b1 with
      | true => exact k.elim
      | false =>
        simp only at k
        by_cases ok : SrtKOk kf xs
        case neg => rw [if_neg ok] at k; exact k.elim
        rw [if_pos ok] at k
        refine h1 fun v T _ r => ?_
        obtain ⟨a, us, rfl, rr, sq⟩ := brw_rep gd.zh r e3
        obtain ⟨_, s2⟩ := sq Z H (Same.refl _) gd.zh fun _ _ _ z => z
        rw [← hK]
        refine srtK_data gd.zh (s2 rfl) rr ok fun b ws hb rw' => ?_
        have pS : ¬ U S b := fun z => gd.al' b z hb
        exact k (.ref b) _ _ S (fun a => a = b) (Stp.new (o := .lst ws) gd.zh hb (U S)) (gd.move (Stp.new (o := .lst ws) gd.zh hb (fun _ => False)) fun _ _ z => z).1 (lst_newD gd.zh rw' hb pS)
end
/-- None, numbers, tuples: the key of a rank -/
def rankK : PyData → Option PyData
  | .none => some (.tuple [.int 0, .int 0, .tuple []])
  | .int i => some (.tuple [.int 1, .int i, .tuple []])
  | .tuple xs => some (.tuple [.int 2, .int 0, .tuple xs])
  | _ => none
end FL

set_option maxHeartbeats 2000000
/-! FLWC: list(reversed(xs)). -/
namespace FL
open PySem L2 Classical PySem.Spec PyProof.Rows RT
section
variable {prog : Program} {w : World} {A : Around} {E : Value → Shared → Prop} {s : Shared}
theorem ext_rev {it l S : Addr} {its : Array Value} {c : Nat} {R : Result → Shared → Prop} (hh : A.handled = none) (hi : s.heap.IsRevIter it l ((its.size : Int) - 1)) (hl : s.heap.IsList l its) (ne : l ≠ it) (sz : its.size ≤ sizeLine) (nS : S ∉ [it, l])
    (oS : s.heap.get? S = some { cls := .type "list", data := .seq #[] c })
    (k : ∀ s2 acc c2, Moved [S, it] (fun a b => b = a) s s2 → s2.heap.get? S = some { cls := .type "list", dict := none, data := .seq acc c2, slots := #[] } → ItemsOf (fun i v => its[its.size - 1 - i]? = some v) acc its.size → R (.ok (.ret .none)) s2) :
    wpAny (model prog w) A.in1 (Builtin.List.listExtendWith (.ref S) (.ref it) .none)
      (fun fin s' => match fin with | .done f => R (.ok f) s' | .again c' => c'.quiet = true ∧ codeAny (model prog w) A c' R s') (fun e s' => R (.error e) s') s := by
  have W := (Walks.listRev (prog := prog) (w := w) (A := A.in1) hh it l ne its).toS
  have nSi : S ≠ it := fun z => nS (by simp [z])
  have ty : s.TypeIs (.ref it) "list_reverseiterator" := hi.typeIs
  unfold Builtin.List.listExtendWith
  refine wpAny_bind (wpAny_typeOf ty ?_)
  have h1 : Builtin.List.listSameRef (.ref S) (.ref it) = false := by simp [Builtin.List.listSameRef, nSi]
  rw [if_neg (by rw [h1]; decide)]
  refine wpAny_bind (wpAny_pyIter_revIter hi ?_)
  refine wpAny_bind (wpAny_holding ?_)
  unfold Builtin.List.listLengthHint
  refine wpAny_bind (wpAny_specialOf ty nolen_lri ?_)
  show wpAny _ A.in1 (specialOf (Value.ref it) (Str.ofString "__length_hint__") >>= _) _ _ _
  refine wpAny_bind (wpAny_specialOf ty hint_lri ?_)
  generalize hid : ("list_reverseiterator.__length_hint__" : String) = id0
  wp_delta
  rw [show splitId id0 = some ("list_reverseiterator", "__length_hint__") from by subst hid; decide +kernel]
  subst hid
  refine wpAny_bind (wpAny_isInstance (b := true) ty (by rw [isSubtype_type]; kernel_rfl) ?_)
  refine wpAny_pure ?_
  rw [if_neg (by decide)]
  have e0 : ((its.size : Nat) : Int) - 1 - ((0 : Nat) : Int) = (its.size : Int) - 1 := by omega
  exact wpAny_pure ⟨plainId_quiet F.plain_extend_loop _, codeAny_extend_loopS W sz _ nS _ its.size 0 _ _ _ rfl (Nat.zero_le _) ⟨Nat.zero_le _, by rw [e0]; exact hi, hl⟩ oS (ItemsOf.nil _) fun s2 acc c2 hm hS' hacc => k s2 acc c2 hm hS' hacc⟩
theorem init_rev {it l S : Addr} {its : Array Value} {R : Result → Shared → Prop} (hh : A.handled = none) (hi : s.heap.IsRevIter it l ((its.size : Int) - 1)) (hl : s.heap.IsList l its) (ne : l ≠ it) (sz : its.size ≤ sizeLine) (nS : S ∉ [it, l])
    (oS : s.heap.get? S = some { cls := .type "list", data := .seq #[] })
    (k : ∀ h' tk acc c2, (∀ b o, b ≠ it → b ≠ S → s.heap.get? b = some o → h'.get? b = some o) → h'.get? S = some { cls := .type "list", dict := none, data := .seq acc c2, slots := #[] } → ItemsOf (fun i v => its[its.size - 1 - i]? = some v) acc its.size → R (.ok (.ret .none)) { s with heap := h', toks := tk }) :
    wpAny (model prog w) A.in1 (Builtin.«list.__init__» ⟨[.ref S, .ref it], []⟩)
      (fun fin s' => match fin with | .done f => R (.ok f) s' | .again c' => c'.quiet = true ∧ codeAny (model prog w) A c' R s') (fun e s' => R (.error e) s') s := by
  show wpAny _ A.in1 (Builtin.List.listItems (.ref S) >>= fun old => Builtin.List.listUpdate (.ref S) (fun _ => #[]) >>= fun _ => letGo old.toList.reverse >>= fun _ => Builtin.List.listExtendWith (.ref S) (.ref it) .none) _ _ s
  refine wpAny_bind ?_
  unfold Builtin.List.listItems
  refine wpAny_bind (wpAny_seqItems oS rfl (wpAny_pure ?_))
  show wpAny _ A.in1 (updateSeq S (fun _ => #[]) >>= fun _ => letGo (#[] : Array Value).toList.reverse >>= fun _ => Builtin.List.listExtendWith (.ref S) (.ref it) .none) _ _ s
  refine wpAny_bind (wpAny_updateSeq oS rfl ?_)
  have o2 := Heap.get?_update_self (Obj.mapSeq (fun _ => (#[] : Array Value))) oS rfl
  have nSi : S ≠ it := fun z => nS (by simp [z])
  have nSl : S ≠ l := fun z => nS (by simp [z])
  have oth : ∀ b o, b ≠ S → s.heap.get? b = some o → (s.heap.update S (Obj.mapSeq (fun _ => (#[] : Array Value)))).get? b = some o := fun b o hb e => by
    rw [← e]; exact Heap.get?_update_other _ _ (Ne.symm hb)
  refine wpAny_bind (wpAny_letGo ?_)
  have hl2 : (s.heap.update S (Obj.mapSeq (fun _ => (#[] : Array Value)))).IsList l its := hl.at fun o e => oth l o (Ne.symm nSl) e
  refine ext_rev (s := { s with heap := s.heap.update S (Obj.mapSeq (fun _ => (#[] : Array Value))) }) hh (hi.at fun o e => oth it o (Ne.symm nSi) e) hl2 ne sz nS o2 fun s2 acc c2 hm hS ha => ?_
  rw [Moved.eq_with hm]
  refine k _ _ acc c2 (fun b o h1 h2 e => hm.heap b o (by simp [h1, h2]) (oth b o h2 e)) hS ha
theorem call_list_rev {it l : Addr} {its : Array Value} {Q : Value → Shared → Prop} (hh : A.handled = none) (hi : s.heap.IsRevIter it l ((its.size : Int) - 1)) (hl : s.heap.IsList l its) (ne : l ≠ it) (sz : its.size ≤ sizeLine)
    (k : ∀ h' tk acc c2, (∀ b o, b ≠ it → s.heap.get? b = some o → h'.get? b = some o) → h'.get? s.heap.objs.size = some { cls := .type "list", dict := none, data := .seq acc c2, slots := #[] } → ItemsOf (fun i v => its[its.size - 1 - i]? = some v) acc its.size → Q (.ref s.heap.objs.size) { s with heap := h', toks := tk }) :
    wpAny (model prog w) A (call (.type "list") [.ref it]) Q E s := by
  obtain ⟨oi, hoi, _⟩ := id hi
  obtain ⟨ol, hol, _⟩ := id hl
  have n1 : s.heap.objs.size ≠ it := Nat.ne_of_gt (Heap.lt_size hoi)
  have n2 : s.heap.objs.size ≠ l := Nat.ne_of_gt (Heap.lt_size hol)
  refine callType_codes (Q₁ := fun obj s₁ => obj = .ref s.heap.objs.size ∧ s₁ = { s with heap := s.heap.push { cls := .type "list", data := .seq #[] } }) F.called_list (F.typeCall_list_1 _) F.entry_list_init (code_list_new _ ⟨rfl, rfl⟩) fun obj s₁ h₁ => ?_
  obtain ⟨rfl, rfl⟩ := h₁
  have oS : (s.heap.push { cls := .type "list", data := .seq #[] }).get? s.heap.objs.size = some { cls := .type "list", data := .seq #[] } := Heap.get?_push_size _ rfl
  refine ⟨⟨_, oS, rfl⟩, F.args_list_init_2 _ _, ?_⟩
  refine init_rev (A := A.in1) (s := { s with heap := s.heap.push { cls := .type "list", data := .seq #[] } }) hh (hi.at fun o e => Heap.get?_push_of_some _ e) (hl.push _) ne sz (by simp [n1, n2]) oS fun h' tk acc c2 kp hS ha => ⟨rfl, ?_⟩
  exact k h' tk acc c2 (fun b o hb e => kp b o hb (Nat.ne_of_lt (Heap.lt_size e)) (Heap.get?_push_of_some _ e)) hS ha
end
/-- list(reversed(x)), x a list -/
def tLstRev (K : PySem.W.Frag) (te : TE) : TE := fun σ H Q => te σ H fun v H1 => ∃ (a : Addr) (xs : List V), v = .ref a ∧ SqL K H1 a xs ∧ ∀ q, H1 q = none → Q (.ref q) (upd H1 q (.lst xs.reverse))
section
variable {X : Cx} {e : Expr} {te : TE} {p p2 pos pos2 : Pos}
theorem pe_lstRev (hc : X.calm = true) (hg : Gl X "list") (hm : X.mg "list" = none) (hv : bootBuiltins "list" = some (.type "list")) (hg2 : Gl X "reversed") (hm2 : X.mg "reversed" = none) (he : PE X e te)
    (hs : starEach [e] X.env = (false, eval e X.env) :: starEach [] X.env) (hs2 : starEach [.Call (.Name "reversed" p2) [e] [] pos2] X.env = (false, eval (.Call (.Name "reversed" p2) [e] [] pos2) X.env) :: starEach [] X.env) :
    PE X (.Call (.Name "list" p) [.Call (.Name "reversed" p2) [e] [] pos2] [] pos) (tLstRev X.K te) := by
  refine ⟨fun pins s σ H Q I h => ?_⟩
  refine Call_ (ld_blt I hg hm hv (PyProof.Rows.callWith_type1 (args_cons (Call_ (ld_blt I hg2 hm2 PyProof.Rows.boot_reversed (PyProof.Rows.callWith_type1 (args_cons (thn (he.run pins s σ H _ I h) fun u s1 ⟨v, H1, I1, r1, q1⟩ => args_nil ?_) hs) hs rfl))) hs2) hs2 rfl))
  obtain ⟨a, xs, ev, hq, q⟩ := q1
  subst ev
  obtain rfl : u = Value.ref a := r1
  obtain ⟨its, rv, pl, hz⟩ := I1.list hq
  refine call_reversed_list pl.isList (args_nil ?_)
  obtain ⟨ol, hol, _⟩ := id pl.isList
  have ne : a ≠ s1.heap.objs.size := Nat.ne_of_lt (Heap.lt_size hol)
  have sz : its.toArray.size ≤ sizeLine := by rw [List.size_toArray, ← rv.length]; exact hz
  refine call_list_rev (s := { s1 with heap := s1.heap.push (revObj a ((its.toArray.size : Int) - 1)) }) (I1.ok.hd hc) ⟨_, Heap.get?_push_size _ rfl, rfl, rfl⟩ (pl.isList.push _) ne sz fun h' tk acc c2 kp hS ha => ?_
  have e0 : (s1.heap.push (revObj a ((its.toArray.size : Int) - 1))).objs.size = s1.heap.objs.size + 1 := size_push' _ _
  have hn : H1 (s1.heap.push (revObj a ((its.toArray.size : Int) - 1))).objs.size = none := I1.hok.fresh (by rw [e0]; exact Nat.le_succ _)
  refine ⟨.ref _, upd H1 (s1.heap.push (revObj a ((its.toArray.size : Int) - 1))).objs.size (.lst xs.reverse), I1.laid (t' := tk) (fun b o e => kp b o (Nat.ne_of_lt (Heap.lt_size e)) (Heap.get?_push_of_some _ e)) (by rw [e0]; exact Nat.le_succ _) (show ObjOk X.prog X.w _ _ _ (.lst xs.reverse) from ⟨by rw [List.length_reverse]; exact hz, acc.toList, c2, vals_rev rv ha, ?_⟩), rfl, q _ hn⟩
  rw [Array.toArray_toList]
  exact hS
end
theorem RepDs.rev {G : Gx} {Z : Hp} : ∀ {xs : List D} {vs : List V}, RepDs G Z xs vs → RepDs G Z xs.reverse vs.reverse
  | [], _, r => by simp only [RepDs] at r; subst r; simp [RepDs]
  | x :: xs, _, r => by
    simp only [RepDs] at r
    obtain ⟨v, r', rfl, q, r⟩ := r
    rw [List.reverse_cons, List.reverse_cons]
    exact RepDs.app (RepDs.rev r) (by simp only [RepDs]; exact ⟨v, [], rfl, q, rfl⟩)
def sLstRev (g : VE) : SE := fun env => match g env with
  | .ok m => match brw m with
    | some (false, xs) => .ok (.lst (xs.reverse.map .d), env)
    | _ => .bad
  | _ => .bad
section
variable {G : Gx} {X : Cx} {W : WX'} {e : Expr} {g : VE} {p p2 pos pos2 : Pos}
theorem xe_lstRev (hc : X.calm = true) (hK : G.K = X.K) (hm : X.mg "list" = none) (hm2 : X.mg "reversed" = none) (ha : PVs G X e g) (hv : bootBuiltins "list" = some (.type "list") := by decide +kernel) (hg : Gl X "list" := by rfl) (hg2 : Gl X "reversed" := by rfl)
    (hs : starEach [e] X.env = (false, eval e X.env) :: starEach [] X.env := by rfl) (hs2 : starEach [.Call (.Name "reversed" p2) [e] [] pos2] X.env = (false, eval (.Call (.Name "reversed" p2) [e] [] pos2) X.env) :: starEach [] X.env := by rfl) :
    PEs G X W (.Call (.Name "list" p) [.Call (.Name "reversed" p2) [e] [] pos2] [] pos) (sLstRev g) := by
  obtain ⟨t, q, h⟩ := ha.ex
  refine ⟨_, pe_lstRev hc hg hm hv hg2 hm2 q hs hs2, SEok.mk' fun Z H σ env S Q gd k => ?_⟩
  unfold sLstRev at k
  have h1 := h Z H σ env S (fun v H1 => ∃ (a : Addr) (xs : List V), v = .ref a ∧ SqL X.K H1 a xs ∧ ∀ q, H1 q = none → Q (.ref q) (upd H1 q (.lst xs.reverse))) gd
  cases e1 : g env with
  | bad => rw [e1] at k; exact k.elim
  | exc x e' => rw [e1] at k; exact k.elim
  | ok m =>
    rw [e1] at k h1
    simp only at k h1
    cases e3 : brw m with
    | none => rw [e3] at k; exact k.elim
    | some q1 =>
      obtain ⟨b1, xs⟩ := q1
      rw [e3] at k
      cases b1 with
      | true => exact k.elim
      | false =>
        refine h1 fun v T _ r => ?_
        obtain ⟨a, us, rfl, rr, sq⟩ := brw_rep gd.zh r e3
        obtain ⟨_, s2⟩ := sq Z H (Same.refl _) gd.zh fun _ _ _ z => z
        refine ⟨a, us, rfl, by rw [← hK]; exact s2 rfl, fun b hb => ?_⟩
        have pS : ¬ U S b := fun z => gd.al' b z hb
        exact k (.ref b) _ _ S (fun a => a = b) (Stp.new (o := .lst us.reverse) gd.zh hb (U S)) (gd.move (Stp.new (o := .lst us.reverse) gd.zh hb (fun _ => False)) fun _ _ z => z).1 (lst_newD gd.zh rr.rev hb pS)
end
end FL

set_option maxHeartbeats 2000000
/-! FLDA: a dict whose keys are None, numbers, texts and tuples of these, all mixed, read at the concrete heap. -/
namespace FL
open PySem
section
variable {prog : Program} {w : World} {A : Around} {E : Value → Shared → Prop} {s : Shared}
/-- entry e has the key x -/
abbrev EntK (w : World) (h : Heap) (x : NestedKey) (e : DictEntry) : Prop := e.hash = x.hash w ∧ NestedIs h x e.key ∧ x.depth ≤ 8
theorem eq_mix {x k : NestedKey} {u v : Value} {Q : Bool → Shared → Prop} (hu : A.units + 8 < cLine) (hx : NestedIs s.heap x u) (dx : x.depth ≤ 8) (hk : NestedIs s.heap k v) (q : Q (decide (x = k)) s) : wpAny (model prog w) A (eqBool u v) Q E s :=
  eqAt_key x k A s u v hx hk (by omega) prog w E Q (by rw [← NestedKey.decide_eq]; exact q)
theorem places_nodup (n : Nat) (f : Nat → Option Int) (h : Int) : (placesWithHash n f h).Nodup := by
  unfold placesWithHash
  exact List.Nodup.sublist List.filter_sublist List.nodup_range
theorem mem_places {n : Nat} {f : Nat → Option Int} {h : Int} {i : Nat} : i ∈ placesWithHash n f h ↔ i < n ∧ (f i == some h) = true := by
  unfold placesWithHash
  rw [List.mem_filter, List.mem_range]
theorem get_unique {xs : List NestedKey} (hn : xs.Nodup) {i j : Nat} {k : NestedKey} (hi : xs[i]? = some k) (hj : xs[j]? = some k) : i = j :=
  (List.getElem?_inj (List.getElem?_eq_some_iff.mp hi).1 hn).mp (hi.trans hj.symm)
theorem may_tell {k : NestedKey} {v : Value} {stored : List Value} {Q : Bool → Shared → Prop} (hk : NestedIs s.heap k v) (dk : k.depth ≤ 8)
    (hst : ∀ u ∈ stored, ∃ x, NestedIs s.heap x u ∧ x.depth ≤ 8) (q : Q false s) : wpAny (model prog w) A (tableMayTell v stored) Q E s := by
  unfold tableMayTell
  split
  · exact wpAny_pure q
  refine wpAny_bind (quiet_key k v 8 s hk dk A E _ ?_)
  simp only [Bool.not_true, Bool.false_eq_true, if_false]
  refine wpAny_bind (wpAny_forIn_list _ (fun rest r s2 => s2 = s ∧ r = (none, ()) ∧ ∀ u ∈ rest, ∃ x, NestedIs s.heap x u ∧ x.depth ≤ 8) _ ?_ ?_ _ _ ⟨rfl, rfl, hst⟩)
  · rintro u rest r s2 ⟨rfl, rfl, hr⟩
    obtain ⟨x, hx, dx⟩ := hr u (by simp)
    refine wpAny_bind (quiet_key x u 8 _ hx dx A E _ ?_)
    simp only [Bool.not_true, Bool.false_eq_true, if_false]
    exact wpAny_pure ⟨rfl, rfl, fun u hu => hr u (by simp [hu])⟩
  · rintro r s2 ⟨rfl, rfl, _⟩
    exact wpAny_pure q
theorem walk_plain {d : Addr} {v : Value} {o : Obj} {es : Array DictEntry} {ep : Nat} {xs : List NestedKey} {k : NestedKey} {Q : Option Nat → Shared → Prop} (hu : A.units + 8 < cLine) (hk : NestedIs s.heap k v) (ho : s.heap.get? d = some o) (hd : o.data = .dict es ep)
    (hl : xs.length = es.size) (hx : ∀ (i : Nat) (x : NestedKey) (e : DictEntry), xs[i]? = some x → es[i]? = some e → EntK w s.heap x e) (hn : xs.Nodup) (hnone : k ∉ xs → Q none s) (hsome : ∀ j : Nat, xs[j]? = some k → Q (some j) s) :
    wpAny (model prog w) A (dictWalkPlain d v (k.hash w) es (placesWithHash es.size (fun i => es[i]?.map (·.hash)) (k.hash w))) Q E s := by
  unfold dictWalkPlain
  refine wpAny_bind (wpAny_forIn_list _ (fun rest r s2 => s2 = s ∧ r = (none, ()) ∧ (∀ i ∈ rest, i < es.size ∧ ((es[i]?.map (·.hash)) == some (k.hash w)) = true) ∧ (k ∉ xs ∨ ∃ j, xs[j]? = some k ∧ j ∈ rest)) _ ?_ ?_ _ _ ⟨rfl, rfl, fun i hi => mem_places.mp hi, ?_⟩)
  · rintro i rest r s2 ⟨rfl, rfl, hr, hh⟩
    obtain ⟨hi, hhi⟩ := hr i (by simp)
    have he : es[i]? = some es[i] := Array.getElem?_eq_getElem hi
    obtain ⟨x, hxi⟩ : ∃ x, xs[i]? = some x := ⟨_, List.getElem?_eq_getElem (by omega)⟩
    obtain ⟨e1, e2, e3⟩ := hx i x _ hxi he
    rw [he] at hhi ⊢
    simp only [Option.map_some, beq_iff_eq, Option.some.injEq] at hhi
    dsimp only
    rw [if_pos (by rw [hhi]; simp)]
    refine wpAny_bind (wpAny_dictEpoch ho hd (wpAny_bind (eq_mix (x := x) (k := k) hu e2 e3 hk (wpAny_bind (wpAny_dictEpoch ho hd ?_)))))
    show wpAny _ _ (if (ep != ep) = true then _ else _) _ E _
    rw [if_neg (by simp)]
    by_cases q : x = k
    · subst q
      simp only [decide_true, if_true]
      exact wpAny_bind (wpAny_rule (wpAny_pure (wpAny_pure (hsome i hxi))))
    · simp only [q, decide_false, Bool.false_eq_true, if_false]
      refine wpAny_bind (wpAny_rule (wpAny_pure ⟨rfl, rfl, fun j hj => hr j (by simp [hj]), ?_⟩))
      rcases hh with h | ⟨j, hj, hm⟩
      · exact .inl h
      · refine .inr ⟨j, hj, ?_⟩
        rcases List.mem_cons.mp hm with e | e
        · subst e; rw [hj] at hxi; cases hxi; exact absurd rfl q
        · exact e
  · rintro r s2 ⟨rfl, rfl, _, hh⟩
    rcases hh with h | ⟨j, hj, hm⟩
    · exact wpAny_pure (hnone h)
    · exact absurd hm (by simp)
  · by_cases q : k ∈ xs
    · obtain ⟨j, hj⟩ := List.mem_iff_getElem?.mp q
      refine .inr ⟨j, hj, mem_places.mpr ?_⟩
      have hlt : j < es.size := by rw [← hl]; exact (List.getElem?_eq_some_iff.mp hj).1
      have he : es[j]? = some es[j] := Array.getElem?_eq_getElem hlt
      refine ⟨hlt, ?_⟩
      rw [he]
      have := (hx j k _ hj he).1
      simp [this]
    · exact .inl q
theorem find_mix {d : Addr} {v : Value} {o : Obj} {es : Array DictEntry} {ep : Nat} {xs : List NestedKey} {k : NestedKey} {Q : Option Nat → Shared → Prop} (hu : A.units + 8 < cLine) (hk : NestedIs s.heap k v) (dk : k.depth ≤ 8) (ho : s.heap.get? d = some o) (hd : o.data = .dict es ep)
    (hl : xs.length = es.size) (hx : ∀ (i : Nat) (x : NestedKey) (e : DictEntry), xs[i]? = some x → es[i]? = some e → EntK w s.heap x e) (hn : xs.Nodup) (hnone : k ∉ xs → Q none s) (hsome : ∀ j : Nat, xs[j]? = some k → Q (some j) s) :
    wpAny (model prog w) A (dictFind d v (k.hash w)) Q E s := by
  have entOf : ∀ e ∈ es, ∃ i x, xs[i]? = some x ∧ es[i]? = some e := fun e he => by
    obtain ⟨i, hi⟩ := Array.mem_iff_getElem?.mp he
    have hlt : i < es.size := (Array.getElem?_eq_some_iff.mp hi).1
    exact ⟨i, _, List.getElem?_eq_getElem (by omega), hi⟩
  obtain ⟨pl, hpl⟩ : ∃ pl, pl = placesWithHash es.size (fun i => es[i]?.map (·.hash)) (k.hash w) := ⟨_, rfl⟩
  have hst : ∀ u ∈ pl.filterMap (fun i => es[i]?.map (·.key)), ∃ x, NestedIs s.heap x u ∧ x.depth ≤ 8 := by
    intro u hu
    obtain ⟨i, _, hi⟩ := List.mem_filterMap.mp hu
    cases hei : es[i]? with
    | none => rw [hei] at hi; cases hi
    | some e =>
      rw [hei] at hi
      obtain rfl : e.key = u := by simpa using hi
      have hlt : i < es.size := (Array.getElem?_eq_some_iff.mp hei).1
      obtain ⟨e1, e2, e3⟩ := hx i _ e (List.getElem?_eq_getElem (by omega)) hei
      exact ⟨_, e2, e3⟩
  have hpm : ∀ i ∈ pl, i < es.size ∧ ((es[i]?.map (·.hash)) == some (k.hash w)) = true := fun i hi => by rw [hpl] at hi; exact mem_places.mp hi
  have hpn : pl.Nodup := by rw [hpl]; exact places_nodup _ _ _
  have hpk : k ∉ xs ∨ ∃ j, xs[j]? = some k ∧ j ∈ pl := by
    by_cases q : k ∈ xs
    · obtain ⟨j, hj⟩ := List.mem_iff_getElem?.mp q
      refine .inr ⟨j, hj, ?_⟩
      rw [hpl]
      refine mem_places.mpr ?_
      have hlt : j < es.size := by rw [← hl]; exact (List.getElem?_eq_some_iff.mp hj).1
      have he : es[j]? = some es[j] := Array.getElem?_eq_getElem hlt
      refine ⟨hlt, ?_⟩
      rw [he]
      have := (hx j k _ hj he).1
      simp [this]
    · exact .inl q
  have plain := walk_plain (prog := prog) (A := A) (E := E) (d := d) hu hk ho hd hl hx hn hnone hsome
  rw [← hpl] at plain
  have hk0 := hk
  have turn : ∀ (stored : List Value) (i : Nat) (rest : List Nat) (hit : Option Nat), i < es.size → ((es[i]?.map (·.hash)) == some (k.hash w)) = true → (i :: rest).Nodup → (∀ j ∈ rest, j < es.size ∧ ((es[j]?.map (·.hash)) == some (k.hash w)) = true) →
      ((k ∉ xs ∧ hit = none) ∨ ∃ j, xs[j]? = some k ∧ ((hit = none ∧ j ∈ i :: rest) ∨ (hit = some j ∧ j ∉ i :: rest))) →
      ∃ x, xs[i]? = some x ∧ ∃ e, es[i]? = some e ∧ (e.hash == k.hash w) = true ∧ NestedIs s.heap x e.key ∧ x.depth ≤ 8 ∧
        (x = k → hit = none ∧ ((k ∉ xs ∧ some i = none) ∨ ∃ j, xs[j]? = some k ∧ ((some i = none ∧ j ∈ rest) ∨ (some i = some j ∧ j ∉ rest)))) ∧
        (x ≠ k → ((k ∉ xs ∧ hit = none) ∨ ∃ j, xs[j]? = some k ∧ ((hit = none ∧ j ∈ rest) ∨ (hit = some j ∧ j ∉ rest)))) := by
    intro stored i rest hit hi hhi hnd hr hh
    have he : es[i]? = some es[i] := Array.getElem?_eq_getElem hi
    obtain ⟨x, hxi⟩ : ∃ x, xs[i]? = some x := ⟨_, List.getElem?_eq_getElem (by omega)⟩
    obtain ⟨e1, e2, e3⟩ := hx i x _ hxi he
    rw [he] at hhi
    simp only [Option.map_some, beq_iff_eq, Option.some.injEq] at hhi
    refine ⟨x, hxi, _, he, by rw [hhi]; simp, e2, e3, fun q => ?_, fun q => ?_⟩
    · subst q
      have hnr := (List.nodup_cons.mp hnd).1
      rcases hh with ⟨h, _⟩ | ⟨j, hj, hm⟩
      · exact absurd (List.mem_of_getElem? hxi) h
      · have := get_unique hn hxi hj
        subst this
        rcases hm with ⟨h, _⟩ | ⟨_, h⟩
        · exact ⟨h, .inr ⟨i, hxi, .inr ⟨rfl, hnr⟩⟩⟩
        · exact absurd (List.mem_cons_self) h
    · rcases hh with h | ⟨j, hj, hm⟩
      · exact .inl h
      · have hji : j ≠ i := fun z => by subst z; rw [hj] at hxi; cases hxi; exact q rfl
        refine .inr ⟨j, hj, ?_⟩
        rcases hm with ⟨h, h2⟩ | ⟨h, h2⟩
        · exact .inl ⟨h, (List.mem_cons.mp h2).resolve_left hji⟩
        · exact .inr ⟨h, fun z => h2 (List.mem_cons_of_mem _ z)⟩
  have fin : ∀ hit : Option Nat, ((k ∉ xs ∧ hit = none) ∨ ∃ j, xs[j]? = some k ∧ ((hit = none ∧ j ∈ ([] : List Nat)) ∨ (hit = some j ∧ j ∉ ([] : List Nat)))) → Q hit s := by
    intro hit hh
    rcases hh with ⟨h, rfl⟩ | ⟨j, hj, ⟨_, h⟩ | ⟨rfl, _⟩⟩
    · exact hnone h
    · simp at h
    · exact hsome j hj
  have byText : ∀ (y : Str) (t : Tok), v = .str y t → (es.all fun e => isExactStrKey e.key) = true → wpAny (model prog w) A (foundByValue d v es y) Q E s := by
    intro y t hv hall
    subst hv
    have hky : k = .text y := by cases hk0; rfl
    subst hky
    have his : ∀ (u : Value) (x : NestedKey), NestedIs s.heap x u → (u.isStr y = true ↔ x = .text y) := fun u x hx => by
      cases hx <;> simp_all [Value.isStr]
    unfold foundByValue
    cases hf : es.findIdx? (fun e => e.key.isStr y) with
    | none =>
      dsimp only
      refine wpAny_pure (hnone fun hm => ?_)
      obtain ⟨j, hj⟩ := List.mem_iff_getElem?.mp hm
      have hlt : j < es.size := by rw [← hl]; exact (List.getElem?_eq_some_iff.mp hj).1
      have he : es[j]? = some es[j] := Array.getElem?_eq_getElem hlt
      have h1 := (his _ _ (hx j _ _ hj he).2.1).mpr rfl
      have h2 := Array.findIdx?_eq_none_iff.mp hf es[j] (Array.getElem_mem hlt)
      rw [h1] at h2
      cases h2
    | some i =>
      obtain ⟨hlt, h1, _⟩ := Array.findIdx?_eq_some_iff_getElem.mp hf
      have he : es[i]? = some es[i] := Array.getElem?_eq_getElem hlt
      obtain ⟨x, hxi⟩ : ∃ x, xs[i]? = some x := ⟨_, List.getElem?_eq_getElem (by omega)⟩
      obtain ⟨e1, e2, e3⟩ := hx i x _ hxi he
      have hxy := (his _ _ e2).mp h1
      subst hxy
      dsimp only
      rw [he]
      dsimp only
      refine wpAny_bind (wpAny_dictEpoch ho hd (wpAny_bind (eq_mix (x := .text y) hu e2 e3 hk0 (wpAny_bind (wpAny_dictEpoch ho hd ?_)))))
      show wpAny _ _ (if (ep != ep) = true then _ else _) _ E _
      rw [if_neg (by simp)]
      simp only [decide_true, if_true]
      exact wpAny_bind (wpAny_rule (wpAny_pure (hsome i hxi)))
  unfold dictFind
  try with_reducible refine wpAny_holding ?_
  refine wpAny_bind (wpAny_dictEntries ho hd ?_)
  dsimp only
  cases hk with
  | none =>
    dsimp only
    rw [← hpl]
    by_cases hall : ((Value.none :: pl.filterMap (fun i => es[i]?.map (·.key))).all carriedByValue) = true
    · rw [if_pos hall]
      exact plain
    rw [if_neg hall]
    by_cases hone : (pl.filterMap (fun i => es[i]?.map (·.key)) == [Value.none]) = true <;>
    (first | rw [if_pos hone] | rw [if_neg hone]) <;> (first | refine wpAny_bind (wpAny_pure ?_) | refine wpAny_bind (may_tell hk0 dk hst ?_)) <;> (
      rw [if_neg (by simp)]
      refine wpAny_bind (wpAny_forIn_list _ (fun rest r s2 => s2 = s ∧ ∃ hit, r = (none, hit) ∧ rest.Nodup ∧ (∀ i ∈ rest, i < es.size ∧ ((es[i]?.map (·.hash)) == some (NestedKey.none.hash w)) = true) ∧ ((NestedKey.none ∉ xs ∧ hit = none) ∨ ∃ j, xs[j]? = some NestedKey.none ∧ ((hit = none ∧ j ∈ rest) ∨ (hit = some j ∧ j ∉ rest)))) _ ?_ ?_ _ _ ⟨rfl, none, rfl, hpn, hpm, ?_⟩)
      · rintro i rest r s2 ⟨rfl, hit, rfl, hnd, hr, hh⟩
        obtain ⟨x, hxi, e, he, h1, h2, h3, h4, h5⟩ := turn [] i rest hit (hr i (by simp)).1 (hr i (by simp)).2 hnd (fun j hj => hr j (by simp [hj])) hh
        rw [he]
        dsimp only
        rw [if_pos h1]
        refine wpAny_bind (wpAny_dictEpoch ho hd (wpAny_bind (eq_mix (x := x) hu h2 h3 hk0 (wpAny_bind (wpAny_dictEpoch ho hd ?_)))))
        show wpAny _ _ (if (ep != ep) = true then _ else _) _ E _
        rw [if_neg (by simp)]
        by_cases q : x = NestedKey.none
        · obtain ⟨rfl, h6⟩ := h4 q
          rw [decide_eq_true q]
          simp only [Option.isSome_none, Bool.false_eq_true, if_false, if_true]
          refine wpAny_bind (wpAny_rule ?_)
          split
          · exact wpAny_pure (wpAny_pure (hsome i (q ▸ hxi)))
          · exact wpAny_pure ⟨rfl, some i, rfl, (List.nodup_cons.mp hnd).2, fun j hj => hr j (by simp [hj]), h6⟩
        · rw [decide_eq_false q]
          simp only [Bool.false_eq_true, if_false, Bool.false_and]
          refine wpAny_bind (wpAny_rule ?_)
          exact wpAny_pure ⟨rfl, hit, rfl, (List.nodup_cons.mp hnd).2, fun j hj => hr j (by simp [hj]), h5 q⟩
      · rintro r s2 ⟨rfl, hit, rfl, _, _, hh⟩
        exact wpAny_pure (fin hit hh)
      · rcases hpk with h | ⟨j, hj, hm⟩
        · exact .inl ⟨h, rfl⟩
        · exact .inr ⟨j, hj, .inl ⟨rfl, hm⟩⟩)
  | @bool c n hc =>
    dsimp only
    rw [← hpl]
    by_cases hall : (((Value.bool c) :: pl.filterMap (fun i => es[i]?.map (·.key))).all carriedByValue) = true
    · rw [if_pos hall]
      exact plain
    rw [if_neg hall]
    by_cases hone : (pl.filterMap (fun i => es[i]?.map (·.key)) == [(Value.bool c)]) = true <;>
    (first | rw [if_pos hone] | rw [if_neg hone]) <;> (first | refine wpAny_bind (wpAny_pure ?_) | refine wpAny_bind (may_tell hk0 dk hst ?_)) <;> (
      rw [if_neg (by simp)]
      refine wpAny_bind (wpAny_forIn_list _ (fun rest r s2 => s2 = s ∧ ∃ hit, r = (none, hit) ∧ rest.Nodup ∧ (∀ i ∈ rest, i < es.size ∧ ((es[i]?.map (·.hash)) == some ((NestedKey.num n).hash w)) = true) ∧ (((NestedKey.num n) ∉ xs ∧ hit = none) ∨ ∃ j, xs[j]? = some (NestedKey.num n) ∧ ((hit = none ∧ j ∈ rest) ∨ (hit = some j ∧ j ∉ rest)))) _ ?_ ?_ _ _ ⟨rfl, none, rfl, hpn, hpm, ?_⟩)
      · rintro i rest r s2 ⟨rfl, hit, rfl, hnd, hr, hh⟩
        obtain ⟨x, hxi, e, he, h1, h2, h3, h4, h5⟩ := turn [] i rest hit (hr i (by simp)).1 (hr i (by simp)).2 hnd (fun j hj => hr j (by simp [hj])) hh
        rw [he]
        dsimp only
        rw [if_pos h1]
        refine wpAny_bind (wpAny_dictEpoch ho hd (wpAny_bind (eq_mix (x := x) hu h2 h3 hk0 (wpAny_bind (wpAny_dictEpoch ho hd ?_)))))
        show wpAny _ _ (if (ep != ep) = true then _ else _) _ E _
        rw [if_neg (by simp)]
        by_cases q : x = (NestedKey.num n)
        · obtain ⟨rfl, h6⟩ := h4 q
          rw [decide_eq_true q]
          simp only [Option.isSome_none, Bool.false_eq_true, if_false, if_true]
          refine wpAny_bind (wpAny_rule ?_)
          split
          · exact wpAny_pure (wpAny_pure (hsome i (q ▸ hxi)))
          · exact wpAny_pure ⟨rfl, some i, rfl, (List.nodup_cons.mp hnd).2, fun j hj => hr j (by simp [hj]), h6⟩
        · rw [decide_eq_false q]
          simp only [Bool.false_eq_true, if_false, Bool.false_and]
          refine wpAny_bind (wpAny_rule ?_)
          exact wpAny_pure ⟨rfl, hit, rfl, (List.nodup_cons.mp hnd).2, fun j hj => hr j (by simp [hj]), h5 q⟩
      · rintro r s2 ⟨rfl, hit, rfl, _, _, hh⟩
        exact wpAny_pure (fin hit hh)
      · rcases hpk with h | ⟨j, hj, hm⟩
        · exact .inl ⟨h, rfl⟩
        · exact .inr ⟨j, hj, .inl ⟨rfl, hm⟩⟩)
  | int n t =>
    dsimp only
    rw [← hpl]
    by_cases hall : (((Value.int n t) :: pl.filterMap (fun i => es[i]?.map (·.key))).all carriedByValue) = true
    · rw [if_pos hall]
      exact plain
    rw [if_neg hall]
    by_cases hone : (pl.filterMap (fun i => es[i]?.map (·.key)) == [(Value.int n t)]) = true <;>
    (first | rw [if_pos hone] | rw [if_neg hone]) <;> (first | refine wpAny_bind (wpAny_pure ?_) | refine wpAny_bind (may_tell hk0 dk hst ?_)) <;> (
      rw [if_neg (by simp)]
      refine wpAny_bind (wpAny_forIn_list _ (fun rest r s2 => s2 = s ∧ ∃ hit, r = (none, hit) ∧ rest.Nodup ∧ (∀ i ∈ rest, i < es.size ∧ ((es[i]?.map (·.hash)) == some ((NestedKey.num n).hash w)) = true) ∧ (((NestedKey.num n) ∉ xs ∧ hit = none) ∨ ∃ j, xs[j]? = some (NestedKey.num n) ∧ ((hit = none ∧ j ∈ rest) ∨ (hit = some j ∧ j ∉ rest)))) _ ?_ ?_ _ _ ⟨rfl, none, rfl, hpn, hpm, ?_⟩)
      · rintro i rest r s2 ⟨rfl, hit, rfl, hnd, hr, hh⟩
        obtain ⟨x, hxi, e, he, h1, h2, h3, h4, h5⟩ := turn [] i rest hit (hr i (by simp)).1 (hr i (by simp)).2 hnd (fun j hj => hr j (by simp [hj])) hh
        rw [he]
        dsimp only
        rw [if_pos h1]
        refine wpAny_bind (wpAny_dictEpoch ho hd (wpAny_bind (eq_mix (x := x) hu h2 h3 hk0 (wpAny_bind (wpAny_dictEpoch ho hd ?_)))))
        show wpAny _ _ (if (ep != ep) = true then _ else _) _ E _
        rw [if_neg (by simp)]
        by_cases q : x = (NestedKey.num n)
        · obtain ⟨rfl, h6⟩ := h4 q
          rw [decide_eq_true q]
          simp only [Option.isSome_none, Bool.false_eq_true, if_false, if_true]
          refine wpAny_bind (wpAny_rule ?_)
          split
          · exact wpAny_pure (wpAny_pure (hsome i (q ▸ hxi)))
          · exact wpAny_pure ⟨rfl, some i, rfl, (List.nodup_cons.mp hnd).2, fun j hj => hr j (by simp [hj]), h6⟩
        · rw [decide_eq_false q]
          simp only [Bool.false_eq_true, if_false, Bool.false_and]
          refine wpAny_bind (wpAny_rule ?_)
          exact wpAny_pure ⟨rfl, hit, rfl, (List.nodup_cons.mp hnd).2, fun j hj => hr j (by simp [hj]), h5 q⟩
      · rintro r s2 ⟨rfl, hit, rfl, _, _, hh⟩
        exact wpAny_pure (fin hit hh)
      · rcases hpk with h | ⟨j, hj, hm⟩
        · exact .inl ⟨h, rfl⟩
        · exact .inr ⟨j, hj, .inl ⟨rfl, hm⟩⟩)
  | text y t =>
    dsimp only
    rw [← hpl]
    by_cases hstr : (es.all fun e => isExactStrKey e.key) = true
    · rw [if_pos hstr]
      exact byText y t rfl hstr
    rw [if_neg hstr]
    by_cases hall : (((Value.str y t) :: pl.filterMap (fun i => es[i]?.map (·.key))).all carriedByValue) = true
    · rw [if_pos hall]
      exact plain
    rw [if_neg hall]
    by_cases hone : (pl.filterMap (fun i => es[i]?.map (·.key)) == [(Value.str y t)]) = true <;>
    (first | rw [if_pos hone] | rw [if_neg hone]) <;> (first | refine wpAny_bind (wpAny_pure ?_) | refine wpAny_bind (may_tell hk0 dk hst ?_)) <;> (
      rw [if_neg (by simp)]
      refine wpAny_bind (wpAny_forIn_list _ (fun rest r s2 => s2 = s ∧ ∃ hit, r = (none, hit) ∧ rest.Nodup ∧ (∀ i ∈ rest, i < es.size ∧ ((es[i]?.map (·.hash)) == some ((NestedKey.text y).hash w)) = true) ∧ (((NestedKey.text y) ∉ xs ∧ hit = none) ∨ ∃ j, xs[j]? = some (NestedKey.text y) ∧ ((hit = none ∧ j ∈ rest) ∨ (hit = some j ∧ j ∉ rest)))) _ ?_ ?_ _ _ ⟨rfl, none, rfl, hpn, hpm, ?_⟩)
      · rintro i rest r s2 ⟨rfl, hit, rfl, hnd, hr, hh⟩
        obtain ⟨x, hxi, e, he, h1, h2, h3, h4, h5⟩ := turn [] i rest hit (hr i (by simp)).1 (hr i (by simp)).2 hnd (fun j hj => hr j (by simp [hj])) hh
        rw [he]
        dsimp only
        rw [if_pos h1]
        refine wpAny_bind (wpAny_dictEpoch ho hd (wpAny_bind (eq_mix (x := x) hu h2 h3 hk0 (wpAny_bind (wpAny_dictEpoch ho hd ?_)))))
        show wpAny _ _ (if (ep != ep) = true then _ else _) _ E _
        rw [if_neg (by simp)]
        by_cases q : x = (NestedKey.text y)
        · obtain ⟨rfl, h6⟩ := h4 q
          rw [decide_eq_true q]
          simp only [Option.isSome_none, Bool.false_eq_true, if_false, if_true]
          refine wpAny_bind (wpAny_rule ?_)
          split
          · exact wpAny_pure (wpAny_pure (hsome i (q ▸ hxi)))
          · exact wpAny_pure ⟨rfl, some i, rfl, (List.nodup_cons.mp hnd).2, fun j hj => hr j (by simp [hj]), h6⟩
        · rw [decide_eq_false q]
          simp only [Bool.false_eq_true, if_false, Bool.false_and]
          refine wpAny_bind (wpAny_rule ?_)
          exact wpAny_pure ⟨rfl, hit, rfl, (List.nodup_cons.mp hnd).2, fun j hj => hr j (by simp [hj]), h5 q⟩
      · rintro r s2 ⟨rfl, hit, rfl, _, _, hh⟩
        exact wpAny_pure (fin hit hh)
      · rcases hpk with h | ⟨j, hj, hm⟩
        · exact .inl ⟨h, rfl⟩
        · exact .inr ⟨j, hj, .inl ⟨rfl, hm⟩⟩)
  | @tup a o2 vs n ks g1 g2 g3 g4 =>
    dsimp only
    rw [← hpl]
    rw [if_neg (show ¬ ((Value.ref a :: pl.filterMap (fun i => es[i]?.map (·.key))).all carriedByValue) = true by simp [carriedByValue])]
    have hany : ¬ (es.any fun e => e.key == Value.ref a && e.hash != (NestedKey.tup ks).hash w) = true := by
      rw [← Array.any_toList, List.any_eq_true]
      rintro ⟨e, hin, hc⟩
      obtain ⟨i, x, hxi, hei⟩ := entOf e (Array.mem_toList_iff.mp hin)
      obtain ⟨e1, e2, e3⟩ := hx i x e hxi hei
      rw [Bool.and_eq_true, beq_iff_eq, bne_iff_ne] at hc
      rw [hc.1] at e2
      have := NestedIs.inj _ _ _ e2 hk0
      subst this
      exact hc.2 e1
    rw [if_neg hany]
    by_cases hone : (pl.filterMap (fun i => es[i]?.map (·.key)) == [(Value.ref a)]) = true <;>
    (first | rw [if_pos hone] | rw [if_neg hone]) <;> (first | refine wpAny_bind (wpAny_pure ?_) | refine wpAny_bind (may_tell hk0 dk hst ?_)) <;> (
      rw [if_neg (by simp)]
      refine wpAny_bind (wpAny_forIn_list _ (fun rest r s2 => s2 = s ∧ ∃ hit, r = (none, hit) ∧ rest.Nodup ∧ (∀ i ∈ rest, i < es.size ∧ ((es[i]?.map (·.hash)) == some ((NestedKey.tup ks).hash w)) = true) ∧ (((NestedKey.tup ks) ∉ xs ∧ hit = none) ∨ ∃ j, xs[j]? = some (NestedKey.tup ks) ∧ ((hit = none ∧ j ∈ rest) ∨ (hit = some j ∧ j ∉ rest)))) _ ?_ ?_ _ _ ⟨rfl, none, rfl, hpn, hpm, ?_⟩)
      · rintro i rest r s2 ⟨rfl, hit, rfl, hnd, hr, hh⟩
        obtain ⟨x, hxi, e, he, h1, h2, h3, h4, h5⟩ := turn [] i rest hit (hr i (by simp)).1 (hr i (by simp)).2 hnd (fun j hj => hr j (by simp [hj])) hh
        rw [he]
        dsimp only
        rw [if_pos h1]
        refine wpAny_bind (wpAny_dictEpoch ho hd (wpAny_bind (eq_mix (x := x) hu h2 h3 hk0 (wpAny_bind (wpAny_dictEpoch ho hd ?_)))))
        show wpAny _ _ (if (ep != ep) = true then _ else _) _ E _
        rw [if_neg (by simp)]
        by_cases q : x = (NestedKey.tup ks)
        · obtain ⟨rfl, h6⟩ := h4 q
          rw [decide_eq_true q]
          simp only [Option.isSome_none, Bool.false_eq_true, if_false, if_true]
          refine wpAny_bind (wpAny_rule ?_)
          split
          · exact wpAny_pure (wpAny_pure (hsome i (q ▸ hxi)))
          · exact wpAny_pure ⟨rfl, some i, rfl, (List.nodup_cons.mp hnd).2, fun j hj => hr j (by simp [hj]), h6⟩
        · rw [decide_eq_false q]
          simp only [Bool.false_eq_true, if_false, Bool.false_and]
          refine wpAny_bind (wpAny_rule ?_)
          exact wpAny_pure ⟨rfl, hit, rfl, (List.nodup_cons.mp hnd).2, fun j hj => hr j (by simp [hj]), h5 q⟩
      · rintro r s2 ⟨rfl, hit, rfl, _, _, hh⟩
        exact wpAny_pure (fin hit hh)
      · rcases hpk with h | ⟨j, hj, hm⟩
        · exact .inl ⟨h, rfl⟩
        · exact .inr ⟨j, hj, .inl ⟨rfl, hm⟩⟩)
/-- at d stands a dict with the entries es, whose keys are xs -/
def DX (w : World) (h : Heap) (d : Addr) (xs : List NestedKey) (es : Array DictEntry) : Prop :=
  ∃ o ep, h.get? d = some o ∧ o.ExactDict ∧ o.data = .dict es ep ∧ xs.length = es.size ∧ (∀ (i : Nat) (x : NestedKey) (e : DictEntry), xs[i]? = some x → es[i]? = some e → EntK w h x e) ∧ xs.Nodup
variable {d : Addr} {v : Value} {es : Array DictEntry} {xs : List NestedKey} {k : NestedKey}
theorem DX.typeIs (hm : DX w s.heap d xs es) : s.TypeIs (.ref d) "dict" := let ⟨o, _, ho, hc, _⟩ := hm; ⟨o, ho, hc.1⟩
theorem dictGet_mix {Q : Option Value → Shared → Prop} (hu : A.units + 8 < cLine) (hk : NestedIs s.heap k v) (dk : k.depth ≤ 8) (hm : DX w s.heap d xs es)
    (hnone : k ∉ xs → Q none { s with toks := s.toks + k.draws }) (hsome : ∀ (j : Nat) (e : DictEntry), xs[j]? = some k → es[j]? = some e → Q (some e.val) { s with toks := s.toks + k.draws }) :
    wpAny (model prog w) A (dictGet d v) Q E s := by
  obtain ⟨o, ep, ho, _, hd, hl, hx, hn⟩ := hm
  unfold dictGet
  try with_reducible refine wpAny_holding ?_
  refine wpAny_bind (pyHash_key k v A s _ hk (by omega) (wpAny_bind (find_mix (s := { s with toks := s.toks + k.draws }) hu hk dk ho hd hl hx hn (fun h => ?_) fun j hj => ?_)))
  · exact wpAny_pure (hnone h)
  · refine wpAny_bind (wpAny_dictEntries (s := { s with toks := s.toks + k.draws }) ho hd ?_)
    have hlt : j < es.size := by rw [← hl]; exact (List.getElem?_eq_some_iff.mp hj).1
    have he : es[j]? = some es[j] := Array.getElem?_eq_getElem hlt
    rw [he]
    exact wpAny_pure (hsome j _ hj he)
theorem dictSet_mix {u : Value} {Q : Unit → Shared → Prop} (hu : A.units + 8 < cLine) (hk : NestedIs s.heap k v) (dk : k.depth ≤ 8) (hm : DX w s.heap d xs es) (hz : es.size ≤ sizeLine)
    (hnone : k ∉ xs → ∀ h', (∃ o ep, h'.get? d = some o ∧ o.ExactDict ∧ o.data = .dict (es.push ⟨k.hash w, v, u⟩) ep) → Heap.SameBut d s.heap h' → Q () { s with heap := h', toks := s.toks + k.draws })
    (hsome : ∀ j : Nat, xs[j]? = some k → ∀ h', (∃ o ep, h'.get? d = some o ∧ o.ExactDict ∧ o.data = .dict (es.modify j fun e => { e with val := u }) ep) → Heap.SameBut d s.heap h' → Q () { s with heap := h', toks := s.toks + k.draws }) :
    wpAny (model prog w) A (dictSet d v u) Q E s := by
  obtain ⟨o, ep, ho, hc, hd, hl, hx, hn⟩ := hm
  unfold dictSet
  try with_reducible refine wpAny_holding ?_
  refine wpAny_bind (pyHash_key k v A s _ hk (by omega) ?_)
  unfold dictSetHashed
  try with_reducible refine wpAny_holding ?_
  refine wpAny_bind (find_mix (s := { s with toks := s.toks + k.draws }) hu hk dk ho hd hl hx hn (fun h => ?_) fun j hj => ?_)
  · exact wpAny_bind (wpAny_rule (wpAny_updateDictKeys (hz := hz) (s := { s with toks := s.toks + k.draws }) ho hd (hnone h _ ⟨_, ep + 1, Heap.get?_update_self _ ho (Obj.isFreed_of_dict (Obj.data_mapDictKeys hd _)), hc.mapDictKeys _, Obj.data_mapDictKeys hd _⟩ (Heap.SameBut.update ..))))
  · exact wpAny_bind (wpAny_rule (wpAny_bind (wpAny_updateDict (s := { s with toks := s.toks + k.draws }) ho hd (wpAny_point (hsome j hj _ ⟨_, ep, Heap.get?_update_self _ ho (Obj.isFreed_of_dict (Obj.data_mapDict hd _)), hc.mapDict _, Obj.data_mapDict hd _⟩ (Heap.SameBut.update ..))))))
/-- what dict.get tells -/
theorem meets_get1 (hd : (d == sysModules) = false) : MeetsIn prog w (Builtin.«dict.get» ⟨[.ref d, v], []⟩) (fun A R s => A.in1.units + 8 < cLine ∧ ∃ k xs es, NestedIs s.heap k v ∧ k.depth ≤ 8 ∧ DX w s.heap d xs es ∧
      (k ∉ xs → R (.ok (.ret .none)) { s with toks := s.toks + k.draws }) ∧ ∀ (j : Nat) (e : DictEntry), xs[j]? = some k → es[j]? = some e → R (.ok (.ret e.val)) { s with toks := s.toks + k.draws }) :=
  .of_wp fun A R s ⟨hu, k, xs, es, hk, dk, hm, h1, h2⟩ => by
    show wpAny _ _ (dictGet d v >>= _) _ _ s
    refine wpAny_bind (dictGet_mix hu hk dk hm (fun h => ?_) fun j e hj he => ?_)
    · show wpAny _ _ (Builtin.Dict.missed d v >>= _) _ _ _
      exact wpAny_bind (wpAny_missed_other hd (wpAny_pure ⟨.none, rfl, h1 h⟩))
    · exact wpAny_pure ⟨e.val, rfl, h2 j e hj he⟩
theorem meets_get2 {dflt : Value} (hd : (d == sysModules) = false) : MeetsIn prog w (Builtin.«dict.get» ⟨[.ref d, v, dflt], []⟩) (fun A R s => A.in1.units + 8 < cLine ∧ ∃ k xs es, NestedIs s.heap k v ∧ k.depth ≤ 8 ∧ DX w s.heap d xs es ∧
      (k ∉ xs → R (.ok (.ret dflt)) { s with toks := s.toks + k.draws }) ∧ ∀ (j : Nat) (e : DictEntry), xs[j]? = some k → es[j]? = some e → R (.ok (.ret e.val)) { s with toks := s.toks + k.draws }) :=
  .of_wp fun A R s ⟨hu, k, xs, es, hk, dk, hm, h1, h2⟩ => by
    show wpAny _ _ (dictGet d v >>= _) _ _ s
    refine wpAny_bind (dictGet_mix hu hk dk hm (fun h => ?_) fun j e hj he => ?_)
    · show wpAny _ _ (Builtin.Dict.missed d v >>= _) _ _ _
      exact wpAny_bind (wpAny_missed_other hd (wpAny_pure ⟨dflt, rfl, h1 h⟩))
    · exact wpAny_pure ⟨e.val, rfl, h2 j e hj he⟩
theorem in_mix {Q : Value → Shared → Prop} (hu : A.units + 16 < cLine) (hk : NestedIs s.heap k v) (dk : k.depth ≤ 8) (hd : (d == sysModules) = false) (hm : DX w s.heap d xs es)
    (q : Q (.bool (decide (k ∈ xs))) { s with toks := s.toks + k.draws }) : wpAny (model prog w) A (compareOp .In v (.ref d)) Q E s := by
  show wpAny _ _ (contains (.ref d) v >>= fun b => pure (.bool b)) Q E s
  refine wpAny_bind ?_
  unfold contains
  try with_reducible refine wpAny_holding ?_
  refine wpAny_bind (wpAny_specialOf hm.typeIs slot_dict_contains.lookup ?_)
  show wpAny _ _ (if (some (Value.builtin "dict.__contains__") == some Value.none) = true then _ else _) _ E s
  rw [if_neg (by rw [beq_builtin_none]; exact Bool.false_ne_true)]
  refine wpAny_bind (wpAny_callSpecialUnlessNone?_slot (name := Str.ofString "__contains__") hm.typeIs slot_dict_contains (wpAny_call_entry slot_dict_contains hm.typeIs entry_dict_contains ?_ (args_dict_contains _ _)))
  show wpAny _ _ (dictGet d v >>= _) _ _ s
  refine wpAny_bind (dictGet_mix (by simp only [Around.in1_units]; omega) hk dk hm (fun h => ?_) fun j e hj he => ?_)
  · rw [decide_eq_false h] at q
    show wpAny _ _ (Builtin.Dict.pendingKey? d v >>= _) _ _ _
    exact wpAny_bind (wpAny_pendingKey_other hd (wpAny_pure ⟨_, rfl, wpAny_truthy_bool (wpAny_pure q)⟩))
  · rw [decide_eq_true (List.mem_of_getElem? hj)] at q
    show wpAny _ _ (ret (.bool true)) _ _ _
    exact wpAny_pure ⟨_, rfl, wpAny_truthy_bool (wpAny_pure q)⟩
theorem getItem_mix {Q : Value → Shared → Prop} (hu : A.units + 16 < cLine) (hk : NestedIs s.heap k v) (dk : k.depth ≤ 8) (hm : DX w s.heap d xs es) {j : Nat} {e : DictEntry} (hj : xs[j]? = some k) (he : es[j]? = some e)
    (q : Q e.val { s with toks := s.toks + k.draws }) : wpAny (model prog w) A (getItem (.ref d) v) Q E s := by
  unfold getItem
  try with_reducible refine wpAny_holding ?_
  refine wpAny_bind (wpAny_sequenceKey hm.typeIs (by decide) ?_)
  refine wpAny_bind (wpAny_callSpecial?_slot (name := Str.ofString "__getitem__") hm.typeIs slot_dict_getitem (wpAny_call_entry slot_dict_getitem hm.typeIs entry_dict_getitem ?_ (args_dict_getitem _ _)))
  show wpAny _ _ (dictGet d v >>= _) _ _ s
  have hn : xs.Nodup := let ⟨_, _, _, _, _, _, _, hn⟩ := hm; hn
  refine wpAny_bind (dictGet_mix (by simp only [Around.in1_units]; omega) hk dk hm (fun h => absurd (List.mem_of_getElem? hj) h) fun i e2 hi he2 => ?_)
  have := get_unique hn hi hj
  subst this
  rw [he] at he2
  cases he2
  exact wpAny_pure ⟨e.val, rfl, wpAny_pure q⟩
theorem setItem_mix {u : Value} {Q : Unit → Shared → Prop} (hu : A.units + 16 < cLine) (hk : NestedIs s.heap k v) (dk : k.depth ≤ 8) (hm : DX w s.heap d xs es) (hz : es.size ≤ sizeLine)
    (hnone : k ∉ xs → ∀ h', (∃ o ep, h'.get? d = some o ∧ o.ExactDict ∧ o.data = .dict (es.push ⟨k.hash w, v, u⟩) ep) → Heap.SameBut d s.heap h' → Q () { s with heap := h', toks := s.toks + k.draws })
    (hsome : ∀ j : Nat, xs[j]? = some k → ∀ h', (∃ o ep, h'.get? d = some o ∧ o.ExactDict ∧ o.data = .dict (es.modify j fun e => { e with val := u }) ep) → Heap.SameBut d s.heap h' → Q () { s with heap := h', toks := s.toks + k.draws }) :
    wpAny (model prog w) A (setItem (.ref d) v u) Q E s := by
  unfold setItem
  try with_reducible refine wpAny_holding ?_
  refine wpAny_bind (wpAny_sequenceKey hm.typeIs (by decide) ?_)
  refine wpAny_bind (wpAny_callSpecial?_slot (name := Str.ofString "__setitem__") hm.typeIs slot_dict_setitem (wpAny_call_entry slot_dict_setitem hm.typeIs entry_dict_setitem ?_ (args_dict_setitem _ _ _)))
  show wpAny _ _ (Builtin.Dict.notOrdered "__setitem__" ⟨[.ref d, v, u], []⟩ >>= _) _ _ s
  refine wpAny_bind (wpAny_notOrdered_dict hm.typeIs ?_)
  show wpAny _ _ (dictSet d v u >>= _) _ _ s
  exact wpAny_bind (dictSet_mix (by simp only [Around.in1_units]; omega) hk dk hm hz (fun h h' hm' hs => wpAny_pure ⟨.none, rfl, wpAny_pure (hnone h h' hm' hs)⟩) fun j hj h' hm' hs => wpAny_pure ⟨.none, rfl, wpAny_pure (hsome j hj h' hm' hs)⟩)
end
end FL

set_option maxHeartbeats 2000000
/-! FLWD: dicts by values. -/
namespace FL
open PySem L2 Classical
mutual
theorem reads_key {h : Heap} : ∀ (k : NestedKey) (u : Value) (as : List Addr), Reads h u k.data as → NestedIs h k u
  | .none, _, _, r => by simp only [NestedKey.data] at r; cases r; exact .none
  | .num i, _, _, r => by simp only [NestedKey.data] at r; cases r; exact .int _ _
  | .text x, _, _, r => by simp only [NestedKey.data] at r; cases r; exact .text _ _
  | .tup ks, _, _, r => by
    simp only [NestedKey.data] at r
    cases r with
    | tuple h1 h2 h3 h4 => exact .tup h1 h2 h3 (reads_keys ks _ _ h4)
theorem reads_keys {h : Heap} : ∀ (ks : List NestedKey) (us : List Value) (as : List Addr), ReadsAll h us (NestedKey.datas ks) as → NestedAll h ks us
  | [], _, _, r => by simp only [NestedKey.datas] at r; cases r; exact .nil
  | k :: ks, _, _, r => by
    simp only [NestedKey.datas] at r
    cases r with
    | cons a b => exact .cons (reads_key k _ _ a) (reads_keys ks _ _ b)
end
mutual
theorem nk_data : ∀ (x : D) (k : NestedKey), nkD x = some k → toPy x = k.data ∧ (toPy x).plain = true
  | .non, _, e => by simp only [nkD] at e; cases e; exact ⟨rfl, rfl⟩
  | .int i, _, e => by simp only [nkD] at e; cases e; exact ⟨rfl, rfl⟩
  | .str i, _, e => by simp only [nkD] at e; cases e; exact ⟨rfl, rfl⟩
  | .tup xs, _, e => by
    simp only [nkD] at e
    cases h : nkDs xs with
    | none => rw [h] at e; cases e
    | some ks =>
      rw [h] at e
      cases e
      obtain ⟨a, b⟩ := nks_data xs ks h
      exact ⟨by simp only [toPy, NestedKey.data, a], by simp only [toPy, PyData.plain, b]⟩
  | .bl _, _, e => by simp [nkD] at e
  | .fn _, _, e => by simp [nkD] at e
  | .lst _, _, e => by simp [nkD] at e
  | .scr _, _, e => by simp [nkD] at e
  | .dic _ _, _, e => by simp [nkD] at e
  | .ins _ _ _, _, e => by simp [nkD] at e
  | .exc _, _, e => by simp [nkD] at e
theorem nks_data : ∀ (xs : List D) (ks : List NestedKey), nkDs xs = some ks → toPys xs = NestedKey.datas ks ∧ PyData.plainAll (toPys xs) = true
  | [], _, e => by simp only [nkDs] at e; cases e; exact ⟨rfl, rfl⟩
  | x :: xs, _, e => by
    simp only [nkDs] at e
    cases h1 : nkD x with
    | none => rw [h1] at e; cases e
    | some k =>
      cases h2 : nkDs xs with
      | none => rw [h1, h2] at e; cases e
      | some ks =>
        rw [h1, h2] at e
        cases e
        obtain ⟨a, b⟩ := nk_data x k h1
        obtain ⟨c, d⟩ := nks_data xs ks h2
        exact ⟨by simp only [toPys, NestedKey.datas, a, c], by simp only [toPys, PyData.plainAll, b, d, Bool.and_self]⟩
end
mutual
theorem nk_inj : ∀ (x y : D) (k : NestedKey), nkD x = some k → nkD y = some k → x = y
  | .non, y, _, e, f => by simp only [nkD] at e; cases e; cases y <;> simp [nkD] at f <;> first | rfl | (split at f <;> simp at f)
  | .int i, y, _, e, f => by simp only [nkD] at e; cases e; cases y <;> simp [nkD] at f <;> first | (subst f; rfl) | (split at f <;> simp at f)
  | .str i, y, _, e, f => by simp only [nkD] at e; cases e; cases y <;> simp [nkD] at f <;> first | (subst f; rfl) | (split at f <;> simp at f)
  | .tup xs, y, _, e, f => by
    simp only [nkD] at e
    cases h : nkDs xs with
    | none => rw [h] at e; cases e
    | some ks =>
      rw [h] at e
      cases e
      cases y with
      | tup ys =>
        simp only [nkD] at f
        cases h2 : nkDs ys with
        | none => rw [h2] at f; cases f
        | some ks2 =>
          rw [h2] at f
          cases f
          rw [nks_inj xs ys ks h h2]
      | _ => simp [nkD] at f
  | .bl _, _, _, e, _ => by simp [nkD] at e
  | .fn _, _, _, e, _ => by simp [nkD] at e
  | .lst _, _, _, e, _ => by simp [nkD] at e
  | .scr _, _, _, e, _ => by simp [nkD] at e
  | .dic _ _, _, _, e, _ => by simp [nkD] at e
  | .ins _ _ _, _, _, e, _ => by simp [nkD] at e
  | .exc _, _, _, e, _ => by simp [nkD] at e
theorem nks_inj : ∀ (xs ys : List D) (ks : List NestedKey), nkDs xs = some ks → nkDs ys = some ks → xs = ys
  | [], ys, _, e, f => by
    simp only [nkDs] at e; cases e
    cases ys with
    | nil => rfl
    | cons y ys => simp only [nkDs] at f; split at f <;> simp at f
  | x :: xs, ys, _, e, f => by
    simp only [nkDs] at e
    cases h1 : nkD x with
    | none => rw [h1] at e; cases e
    | some k =>
      cases h2 : nkDs xs with
      | none => rw [h1, h2] at e; cases e
      | some ks =>
        rw [h1, h2] at e
        cases e
        cases ys with
        | nil => simp [nkDs] at f
        | cons y ys =>
          simp only [nkDs] at f
          cases h3 : nkD y with
          | none => rw [h3] at f; cases f
          | some k2 =>
            cases h4 : nkDs ys with
            | none => rw [h3, h4] at f; cases f
            | some ks2 =>
              rw [h3, h4] at f
              cases f
              rw [nk_inj x y k h1 h3, nks_inj xs ys ks h2 h4]
end
theorem nkDs_len : ∀ {xs : List D} {ks : List NestedKey}, nkDs xs = some ks → xs.length = ks.length
  | [], _, e => by simp only [nkDs] at e; cases e; rfl
  | x :: xs, _, e => by
    simp only [nkDs] at e
    cases h1 : nkD x with
    | none => rw [h1] at e; cases e
    | some k =>
      cases h2 : nkDs xs with
      | none => rw [h1, h2] at e; cases e
      | some ks => rw [h1, h2] at e; cases e; simp [nkDs_len h2]
theorem nkDs_get : ∀ {xs : List D} {ks : List NestedKey} {i : Nat} {k : NestedKey}, nkDs xs = some ks → ks[i]? = some k → ∃ x, xs[i]? = some x ∧ nkD x = some k
  | [], _, i, k, e, h => by simp only [nkDs] at e; cases e; simp at h
  | x :: xs, _, i, k, e, h => by
    simp only [nkDs] at e
    cases h1 : nkD x with
    | none => rw [h1] at e; cases e
    | some k2 =>
      cases h2 : nkDs xs with
      | none => rw [h1, h2] at e; cases e
      | some ks =>
        rw [h1, h2] at e
        cases e
        cases i with
        | zero => simp at h; subst h; exact ⟨x, rfl, h1⟩
        | succ i => simpa using nkDs_get (i := i) h2 (by simpa using h)
theorem nkDs_app : ∀ {xs : List D} {ks : List NestedKey} {x : D} {k : NestedKey}, nkDs xs = some ks → nkD x = some k → nkDs (xs ++ [x]) = some (ks ++ [k])
  | [], _, x, k, e, h => by simp only [nkDs] at e; cases e; simp [nkDs, h]
  | y :: xs, _, x, k, e, h => by
    simp only [nkDs] at e
    cases h1 : nkD y with
    | none => rw [h1] at e; cases e
    | some k2 =>
      cases h2 : nkDs xs with
      | none => rw [h1, h2] at e; cases e
      | some ks =>
        rw [h1, h2] at e
        cases e
        simp only [List.cons_append, nkDs, h1, nkDs_app h2 h]
theorem KsOk.add {ks : List D} {nk : List NestedKey} {x : D} {k : NestedKey} (h : KsOk ks nk) (hx : nkD x = some k) (dk : k.depth ≤ 8) (hn : k ∉ nk) : KsOk (ks ++ [x]) (nk ++ [k]) := by
  refine ⟨nkDs_app h.eq hx, ?_, fun y hy => ?_⟩
  · rw [List.nodup_append]
    exact ⟨h.nd, by simp, fun a ha b hb => by simp at hb; subst hb; exact fun e => hn (e ▸ ha)⟩
  · rcases List.mem_append.mp hy with q | q
    · exact h.dp y q
    · simp at q; subst q; exact dk
/-! entries -/
theorem EntR.len {w : World} : ∀ {nk : List NestedKey} {kv : List (V × V)} {es : List DictEntry}, EntR w nk kv es → nk.length = kv.length ∧ nk.length = es.length
  | [], [], [], _ => ⟨rfl, rfl⟩
  | k :: nk, p :: kv, e :: es, r => by
    simp only [EntR] at r
    obtain ⟨a, b⟩ := r.2.2.2.len
    simp [← a, ← b]
  | [], _ :: _, _, r => by simp [EntR] at r
  | [], [], _ :: _, r => by simp [EntR] at r
  | _ :: _, [], _, r => by simp [EntR] at r
  | _ :: _, _ :: _, [], r => by simp [EntR] at r
theorem EntR.get {w : World} : ∀ {nk : List NestedKey} {kv : List (V × V)} {es : List DictEntry} {i : Nat} {k : NestedKey}, EntR w nk kv es → nk[i]? = some k → ∃ p e, kv[i]? = some p ∧ es[i]? = some e ∧ e.hash = k.hash w ∧ RelV p.1 e.key ∧ RelV p.2 e.val
  | [], [], [], i, k, _, h => by simp at h
  | k0 :: nk, p :: kv, e :: es, i, k, r, h => by
    simp only [EntR] at r
    cases i with
    | zero => simp at h; subst h; exact ⟨p, e, rfl, rfl, r.1, r.2.1, r.2.2.1⟩
    | succ i => simpa using EntR.get (i := i) r.2.2.2 (by simpa using h)
  | [], _ :: _, _, _, _, r, _ => by simp [EntR] at r
  | [], [], _ :: _, _, _, r, _ => by simp [EntR] at r
  | _ :: _, [], _, _, _, r, _ => by simp [EntR] at r
  | _ :: _, _ :: _, [], _, _, r, _ => by simp [EntR] at r
theorem EntR.add {w : World} {k0 : NestedKey} {p0 : V × V} {e0 : DictEntry} (h1 : e0.hash = k0.hash w) (h2 : RelV p0.1 e0.key) (h3 : RelV p0.2 e0.val) : ∀ {nk : List NestedKey} {kv : List (V × V)} {es : List DictEntry}, EntR w nk kv es → EntR w (nk ++ [k0]) (kv ++ [p0]) (es ++ [e0])
  | [], [], [], _ => ⟨h1, h2, h3, trivial⟩
  | k :: nk, p :: kv, e :: es, r => by
    simp only [EntR] at r
    exact ⟨r.1, r.2.1, r.2.2.1, r.2.2.2.add h1 h2 h3⟩
  | [], _ :: _, _, r => by simp [EntR] at r
  | [], [], _ :: _, r => by simp [EntR] at r
  | _ :: _, [], _, r => by simp [EntR] at r
  | _ :: _, _ :: _, [], r => by simp [EntR] at r
theorem EntR.put {w : World} {y : V} {u : Value} (hr : RelV y u) : ∀ {nk : List NestedKey} {kv : List (V × V)} {es : List DictEntry} (j : Nat), EntR w nk kv es → EntR w nk (kv.modify j fun p => (p.1, y)) (es.modify j fun e => { e with val := u })
  | [], [], [], j, _ => by simp [EntR]
  | k :: nk, p :: kv, e :: es, 0, r => by
    simp only [EntR] at r
    exact ⟨r.1, r.2.1, hr, r.2.2.2⟩
  | k :: nk, p :: kv, e :: es, j + 1, r => by
    simp only [EntR] at r
    exact ⟨r.1, r.2.1, r.2.2.1, r.2.2.2.put hr j⟩
  | [], _ :: _, _, _, r => by simp [EntR] at r
  | [], [], _ :: _, _, r => by simp [EntR] at r
  | _ :: _, [], _, _, r => by simp [EntR] at r
  | _ :: _, _ :: _, [], _, r => by simp [EntR] at r
/-- at a stands a dict whose keys are data -/
structure DcV (K : PySem.W.Frag) (w : World) (H : Hp) (a : Addr) (nk : List NestedKey) (kv : List (V × V)) : Prop where
  at_ : H a = some (DO w a nk kv)
  key : ∀ (i : Nat) (k : NestedKey) (p : V × V), nk[i]? = some k → kv[i]? = some p → Dp K H p.1 k.data
  nd : nk.Nodup
  dp : ∀ k ∈ nk, k.depth ≤ 8
section
variable {X : Cx} {pins : List (Addr × Obj)} {σ : L2.St} {H : Hp} {s : Shared} {a : Addr} {nk : List NestedKey} {kv : List (V × V)}
theorem key_is (I : L2.Inv X pins σ H s) {y : V} {u : Value} {k : NestedKey} (h : Dp X.K H y k.data) (r : RelV y u) : NestedIs s.heap k u :=
  let ⟨_, q⟩ := Dp.reads I _ _ _ h r; reads_key k u _ q
theorem DcV.dx (I : L2.Inv X pins σ H s) (h : DcV X.K X.w H a nk kv) : (a == sysModules) = false ∧ kv.length ≤ sizeLine ∧ ∃ es, DX X.w s.heap a nk es ∧ EntR X.w nk kv es.toList := by
  obtain ⟨⟨lo, hz, o, es, ep, ho, hx, hd, er⟩, _, _⟩ := (show ObjOk X.prog X.w H s.heap a (DO X.w a nk kv) from I.hok a _ h.at_)
  refine ⟨lo, hz, es, ⟨o, ep, ho, hx, hd, by rw [er.len.2, Array.length_toList], fun i k e hk he => ?_, h.nd⟩, er⟩
  obtain ⟨p, e2, h1, h2, h3, h4, h5⟩ := er.get hk
  rw [Array.getElem?_toList, he] at h2
  cases h2
  exact ⟨h3, key_is I (h.key i k p hk h1) h4, h.dp k (List.mem_of_getElem? hk)⟩
theorem DcV.put (I : L2.Inv X pins σ H s) (h : DcV X.K X.w H a nk kv) {h' : Heap} {nk' : List NestedKey} {kv' : List (V × V)} {es' : Array DictEntry} {t' : Nat} (ho : ∃ o ep, h'.get? a = some o ∧ o.ExactDict ∧ o.data = .dict es' ep) (hs : Heap.SameBut a s.heap h') (er : EntR X.w nk' kv' es'.toList) (hz : kv'.length ≤ sizeLine) :
    L2.Inv X pins σ (upd H a (DO X.w a nk' kv')) { s with heap := h', toks := t' } := by
  obtain ⟨lo, _, _⟩ := h.dx I
  obtain ⟨o, ep, h1, h2, h3⟩ := ho
  refine I.write (x := a) (e := a) (by rw [h.at_]; trivial) (.inl rfl) (fun b u hb q => (hs.2 b hb).trans q) ⟨o, h1⟩ ?_
  refine ⟨⟨lo, hz, o, es', ep, h1, h2, h3, er⟩, ⟨o, h1⟩, fun g1 g2 ⟨c1, c2, o1, e1, p1, c3, c4, c5, c6⟩ k => ⟨c1, c2, o1, e1, p1, k _ c3, c4, c5, c6⟩⟩
end
/-! ### the operations by values -/
def rDGet2 (K : PySem.W.Frag) (w : World) : V → List V → Hp → VK → Prop := fun x vs H Q => ∃ a nk kv y z k, x = .ref a ∧ vs = [y, z] ∧ DcV K w H a nk kv ∧ Dp K H y k.data ∧ k.depth ≤ 8 ∧ (k ∉ nk → Q z H) ∧ ∀ (j : Nat) (p : V × V), nk[j]? = some k → kv[j]? = some p → Q p.2 H
def rDGet1 (K : PySem.W.Frag) (w : World) : V → List V → Hp → VK → Prop := fun x vs H Q => ∃ a nk kv y k, x = .ref a ∧ vs = [y] ∧ DcV K w H a nk kv ∧ Dp K H y k.data ∧ k.depth ≤ 8 ∧ (k ∉ nk → Q .non H) ∧ ∀ (j : Nat) (p : V × V), nk[j]? = some k → kv[j]? = some p → Q p.2 H
def rDIx (K : PySem.W.Frag) (w : World) : R2 := fun x y H Q => ∃ (a : Addr) (nk : List NestedKey) (kv : List (V × V)) (k : NestedKey) (j : Nat) (p : V × V), x = .ref a ∧ DcV K w H a nk kv ∧ Dp K H y k.data ∧ k.depth ≤ 8 ∧ nk[j]? = some k ∧ kv[j]? = some p ∧ Q p.2 H
def rDIn (K : PySem.W.Frag) (w : World) : R2 := fun y x H Q => ∃ a nk kv k, x = .ref a ∧ DcV K w H a nk kv ∧ Dp K H y k.data ∧ k.depth ≤ 8 ∧ Q (.bl (decide (k ∈ nk))) H
def rDSet (K : PySem.W.Frag) (w : World) : TSet := fun o y v H Q => ∃ a nk kv k, o = .ref a ∧ DcV K w H a nk kv ∧ Dp K H y k.data ∧ k.depth ≤ 8 ∧ kv.length < sizeLine ∧
  (k ∉ nk → Q (upd H a (DO w a (nk ++ [k]) (kv ++ [(y, v)])))) ∧ ∀ j : Nat, nk[j]? = some k → Q (upd H a (DO w a nk (kv.modify j fun p => (p.1, v))))
def rDList (K : PySem.W.Frag) (w : World) : List V → Hp → VK → Prop := fun xs H Q => ∃ a nk kv, xs = [.ref a] ∧ DcV K w H a nk kv ∧ ∀ q, H q = none → Q (.ref q) (upd H q (.lst (kv.map fun p => p.1)))
section
variable {X : Cx}
theorem mt_dget2 (hu : X.A.units + 64 < cLine) : MtR X "dict.get" (rDGet2 X.K X.w) := by
  intro pins s σ H x xs v us Q I rx rs h
  obtain ⟨a, nk, kv, y, z, k, rfl, rfl, hd, hy, dk, q1, q2⟩ := h
  obtain rfl : v = Value.ref a := rx
  obtain ⟨u1, u2, rfl, r1, r2⟩ := vals2 rs
  obtain ⟨lo, hz, es, dx, er⟩ := hd.dx I
  refine call_meetsIn F.slot_dict_get dx.typeIs F.entry_dict_get (F.args_dict_get_3 _ _ _) (meets_get2 lo) ⟨by simp only [Around.in1_units]; omega, k, nk, es, key_is I hy r1, dk, dx, fun hn => ⟨z, H, I.tok _, r2, q1 hn⟩, fun j e hj he => ?_⟩
  obtain ⟨p, e2, h1, h2, h3, h4, h5⟩ := er.get hj
  rw [Array.getElem?_toList, he] at h2
  cases h2
  exact ⟨p.2, H, I.tok _, h5, q2 j p hj h1⟩
theorem mt_dget1 (hu : X.A.units + 64 < cLine) : MtR X "dict.get" (rDGet1 X.K X.w) := by
  intro pins s σ H x xs v us Q I rx rs h
  obtain ⟨a, nk, kv, y, k, rfl, rfl, hd, hy, dk, q1, q2⟩ := h
  obtain rfl : v = Value.ref a := rx
  obtain ⟨u1, rfl, r1⟩ := vals1 rs
  obtain ⟨lo, hz, es, dx, er⟩ := hd.dx I
  refine call_meetsIn F.slot_dict_get dx.typeIs F.entry_dict_get (F.args_dict_get_2 _ _) (meets_get1 lo) ⟨by simp only [Around.in1_units]; omega, k, nk, es, key_is I hy r1, dk, dx, fun hn => ⟨.non, H, I.tok _, rfl, q1 hn⟩, fun j e hj he => ?_⟩
  obtain ⟨p, e2, h1, h2, h3, h4, h5⟩ := er.get hj
  rw [Array.getElem?_toList, he] at h2
  cases h2
  exact ⟨p.2, H, I.tok _, h5, q2 j p hj h1⟩
theorem ix_dict (hu : X.A.units + 64 < cLine) : IxR X (rDIx X.K X.w) := by
  intro value slice pins s σ H x y v u Q I rx ry h hs
  obtain ⟨a, nk, kv, k, j, p, rfl, hd, hy, dk, hj, hp, q⟩ := h
  obtain rfl : v = Value.ref a := rx
  obtain ⟨lo, hz, es, dx, er⟩ := hd.dx I
  obtain ⟨p2, e2, h1, h2, h3, h4, h5⟩ := er.get hj
  rw [hp] at h1
  cases h1
  rw [Array.getElem?_toList] at h2
  exact PyProof.Rows.tail_any dx.typeIs slot_dict_getitem.lookup (getItem_mix (by omega) (key_is I hy ry) dk dx hj h2 ⟨p.2, H, I.tok _, h5, q⟩) hs
theorem op_inD (hu : X.A.units + 64 < cLine) : OpR X (compareOp .In) (rDIn X.K X.w) := by
  intro pins s σ H y x u v Q I ry rx h
  obtain ⟨a, nk, kv, k, rfl, hd, hy, dk, q⟩ := h
  obtain rfl : v = Value.ref a := rx
  obtain ⟨lo, hz, es, dx, er⟩ := hd.dx I
  exact in_mix (by omega) (key_is I hy ry) dk lo dx ⟨.bl _, H, I.tok _, rfl, q⟩
theorem set_dct (hu : X.A.units + 64 < cLine) : PSet X (rDSet X.K X.w) := by
  intro pins s σ H o y v ov iv u Q I ro ri rv h
  obtain ⟨a, nk, kv, k, rfl, hd, hy, dk, hz, q1, q2⟩ := h
  obtain rfl : ov = Value.ref a := ro
  obtain ⟨lo, _, es, dx, er⟩ := hd.dx I
  have hl := er.len
  refine setItem_mix (by omega) (key_is I hy ri) dk dx (by rw [← Array.length_toList]; omega) (fun hn h' ho hs => ?_) fun j hj h' ho hs => ?_
  · exact ⟨_, hd.put I (nk' := nk ++ [k]) (kv' := kv ++ [(y, v)]) ho hs (by rw [Array.toList_push]; exact er.add rfl ri rv) (by simp; omega), q1 hn⟩
  · refine ⟨_, hd.put I (nk' := nk) (kv' := kv.modify j fun p => (p.1, v)) ho hs ?_ (by rw [List.length_modify]; omega), q2 j hj⟩
    have := er.put rv j
    rw [Array.toList_modify]
    exact this
theorem call_dlist (hc : X.calm = true) : CallR X (.type "list") (rDList X.K X.w) := by
  intro pins s σ H xs us Q I r h
  obtain ⟨a, nk, kv, rfl, hd, q⟩ := h
  rw [Vals.ref1 r]
  obtain ⟨lo, hz, es, ⟨o, ep, ho, hx, hdd, hl, _, _⟩, er⟩ := hd.dx I
  have hlen := er.len
  have hes : es.size = kv.length := by rw [← hl, hlen.1]
  refine PySem.W.kdl_call (kdl_raw lo hx hdd) (I.ok.hd hc) ho (by rw [hes]; exact hz) fun h' tk acc' c' hkeep hS hacc => ?_
  refine ⟨.ref s.heap.objs.size, upd H s.heap.objs.size (.lst (kv.map fun p => p.1)), I.laid hkeep (Nat.le_refl _) (show ObjOk X.prog X.w _ _ _ (.lst (kv.map fun p => p.1)) from ⟨by rw [List.length_map]; exact hz, acc'.toList, c', ?_, by rw [Array.toArray_toList]; exact hS⟩), rfl, q _ (I.hok.fresh (Nat.le_refl _))⟩
  refine vals_of_at (by rw [List.length_map]; have := hacc.1; simp only [Array.length_toList]; omega) fun j x w h1 h2 => ?_
  obtain ⟨en, he, rfl⟩ := hacc.2 j w (by rw [← Array.getElem?_toList]; exact h2)
  have hj : j < kv.length := by rw [List.getElem?_map] at h1; cases hq : kv[j]? with
    | none => rw [hq] at h1; cases h1
    | some p => exact (List.getElem?_eq_some_iff.mp hq).1
  obtain ⟨p, e2, g1, g2, g3, g4, g5⟩ := er.get (i := j) (List.getElem?_eq_getElem (show j < nk.length by omega))
  rw [Array.getElem?_toList, he] at g2
  cases g2
  rw [List.getElem?_map, g1] at h1
  cases h1
  exact g4
def tDNew (w : World) : TE := fun _ H Q => ∀ p, H p = none → Q (.ref p) (upd H p (DO w p [] []))
theorem pe_dnew {pos : Pos} : PE X (.Dict [] [] pos) (tDNew X.w) := ⟨fun pins s σ H Q I h =>
  wpAny_Dict_empty ⟨.ref s.heap.objs.size, _, I.laid (a := s.heap.objs.size) (o := DO X.w s.heap.objs.size [] []) (t' := s.toks) (fun _ _ q => Heap.get?_push_of_some _ q) (Nat.le_refl _)
    ⟨⟨beq_eq_false_iff_ne.mpr (Ne.symm (Nat.ne_of_lt I.big)), Nat.zero_le _, _, #[], 0, Heap.get?_push_size _ rfl, ⟨rfl, rfl, rfl⟩, rfl, trivial⟩, ⟨_, Heap.get?_push_size _ rfl⟩, fun g1 g2 ⟨c1, c2, o1, e1, p1, c3, c4, c5, c6⟩ k => ⟨c1, c2, o1, e1, p1, k _ c3, c4, c5, c6⟩⟩, rfl, h _ (I.hok.fresh (Nat.le_refl _))⟩⟩
/-- a dict's method with arguments -/
def tBMD (K : PySem.W.Frag) (w : World) (r : V → List V → Hp → VK → Prop) (to : TE) (t : TA) : TE := fun σ H Q => to σ H fun x H1 => (∃ a nk kv, x = .ref a ∧ DcV K w H1 a nk kv) ∧ t σ H1 fun xs H2 => r x xs H2 Q
theorem pe_bmD {id : String} {name : Str} {r : V → List V → Hp → VK → Prop} {o e : Expr} {es : List Expr} {to : TE} {t : TA} {apos cpos : Pos} (slot : Slot "dict" name id) (hty : typeOf (.builtin id) = pure (.type "method_descriptor")) (hm : MtR X id r) (ho : PE X o to) (ha : PA X (e :: es) t)
    (hbase : attributeBase o name X.env (eval o X.env) = eval o X.env)
    (hfew : ((backTo cpos (starEach (e :: es) X.env)).all (fun x => !x.1) && (backToKw cpos (keywordEach [] X.env)).all (fun x => x.1.isSome) && decide ((e :: es).length + ([] : List Keyword).length + (if ([] : List Keyword).isEmpty then 0 else 1) < 30)) = true)
    (hline : (apos.endLine == cpos.line) = true) (hs : starEach (e :: es) X.env = (false, eval e X.env) :: starEach es X.env) (hplain : (backTo cpos (starEach es X.env)).any (·.1) = false) :
    PE X (.Call (.Attribute o name apos) (e :: es) [] cpos) (tBMD X.K X.w r to t) := by
  refine ⟨fun pins s σ H Q I h => ?_⟩
  refine wpAny_Call_method_late hbase hfew hline rfl (thn (ho.run pins s σ H _ I h) fun v s1 ⟨x, H1, I1, r1, ⟨a, nk, kv, ex, hd⟩, q1⟩ => ?_)
  subst ex
  obtain rfl : v = Value.ref a := r1
  obtain ⟨lo, hz, es', dx, er⟩ := hd.dx I1
  have dx2 := dx
  obtain ⟨ob, ep, hob, hx, _⟩ := dx2
  refine ⟨"dict", id, F.plainAttrs_dict, slot, hty, dx.typeIs, fun b e => by cases e; exact ⟨ob, hob, hx.2.1⟩, ?_⟩
  have hA := ha.run cpos pins s1 σ H1 _ I1 q1
  rw [hs] at hA ⊢
  refine Calls.callWith_builtin (by show (false || (backTo cpos (starEach es X.env)).any (·.1)) = false; rw [hplain] <;> rfl) (Calls.evalArgs_plain ?_)
  exact thn hA fun us s2 ⟨vs, H2, I2, r2, q2⟩ => hm pins s2 σ H2 (.ref a) vs (.ref a) us Q I2 rfl r2 q2
end
end FL

set_option maxHeartbeats 2000000
/-! FLWE: dicts over data. -/
namespace FL
open PySem L2 Classical
/-- a dict's keys and values -/
def dicM : M → Option (List D × List M)
  | .d (.dic ks xs) => some (ks, xs.map .d)
  | .dic ks ms => some (ks, ms)
  | _ => none
def keyOk (x : D) : Prop := ∃ k, nkD x = some k ∧ k.depth ≤ 8
noncomputable def dFind (ks : List D) (x : D) : Option Nat := ks.findIdx? fun y => decide (y = x)
theorem dFind_some {ks : List D} {nk : List NestedKey} {x : D} {k : NestedKey} {j : Nat} (h : KsOk ks nk) (hx : nkD x = some k) (e : dFind ks x = some j) : nk[j]? = some k ∧ ks[j]? = some x := by
  unfold dFind at e
  obtain ⟨hlt, h1, _⟩ := List.findIdx?_eq_some_iff_getElem.mp e
  have e1 : ks[j] = x := of_decide_eq_true h1
  have hl := nkDs_len h.eq
  obtain ⟨y, hy, hyk⟩ := nkDs_get h.eq (i := j) (List.getElem?_eq_getElem (show j < nk.length by omega))
  rw [List.getElem?_eq_getElem hlt, e1] at hy
  cases hy
  rw [hx] at hyk
  cases hyk
  exact ⟨List.getElem?_eq_getElem (by omega), by rw [List.getElem?_eq_getElem hlt, e1]⟩
theorem dFind_none {ks : List D} {nk : List NestedKey} {x : D} {k : NestedKey} (h : KsOk ks nk) (hx : nkD x = some k) (e : dFind ks x = none) : k ∉ nk := by
  unfold dFind at e
  intro hm
  obtain ⟨j, hj⟩ := List.mem_iff_getElem?.mp hm
  obtain ⟨y, hy, hyk⟩ := nkDs_get h.eq hj
  have := nk_inj x y k hx hyk
  subst this
  have := List.findIdx?_eq_none_iff.mp e x (List.mem_of_getElem? hy)
  simp at this
theorem key_mem {ks : List D} {nk : List NestedKey} {x : D} {k : NestedKey} (h : KsOk ks nk) (hx : nkD x = some k) : x ∈ ks ↔ k ∈ nk := by
  constructor
  · intro hm
    cases e : dFind ks x with
    | some j => exact List.mem_of_getElem? (dFind_some h hx e).1
    | none =>
      have := List.findIdx?_eq_none_iff.mp e x hm
      simp at this
  · intro hm
    obtain ⟨j, hj⟩ := List.mem_iff_getElem?.mp hm
    obtain ⟨y, hy, hyk⟩ := nkDs_get h.eq hj
    have := nk_inj x y k hx hyk
    subst this
    exact List.mem_of_getElem? hy
theorem getD_some {G : Gx} {Z : Hp} {xs : List D} {vs : List V} {i : Nat} {v : V} (r : RepDs G Z xs vs) (h : vs[i]? = some v) : ∃ x, xs[i]? = some x ∧ RepD G Z x v := by
  have hl := r.len
  have hi := (List.getElem?_eq_some_iff.mp h).1
  obtain ⟨v2, h1, h2⟩ := r.get (i := i) (List.getElem?_eq_getElem (show i < xs.length by omega))
  rw [h] at h1
  cases h1
  exact ⟨_, List.getElem?_eq_getElem (by omega), h2⟩
section
variable {G : Gx} {Z H : Hp}
theorem nk_dp (zh : Same Z H) {x : D} {v : V} {k : NestedKey} (r : RepD G Z x v) (h : nkD x = some k) : Dp G.K H v k.data := by
  obtain ⟨a, b⟩ := nk_data x k h
  rw [← a]
  exact RepD.dp zh x v b r
theorem dic_rep (zh : Same Z H) {m : M} {T : Rg} {v : V} {ks : List D} {ms : List M} (r : RepM G Z H m T v) (e : dicM m = some (ks, ms)) :
    ∃ a nk kv, v = .ref a ∧ DcV G.K G.w H a nk kv ∧ KsOk ks nk ∧ RepDs G Z ks (kv.map fun p => p.1) ∧ ∃ T0, (∀ b, T0 b → T b) ∧ RepMs G Z H ms T0 (kv.map fun p => p.2) := by
  have mk : ∀ {a nk kv}, H a = some (DO G.w a nk kv) → KsOk ks nk → RepDs G Z ks (kv.map fun p => p.1) → DcV G.K G.w H a nk kv := fun {a nk kv} h1 h2 h3 => by
    refine ⟨h1, fun i k p hk hp => ?_, h2.nd, h2.dp⟩
    obtain ⟨x, hx, rx⟩ := getD_some h3 (i := i) (v := p.1) (by rw [List.getElem?_map, hp]; rfl)
    obtain ⟨y, hy, hyk⟩ := nkDs_get h2.eq hk
    rw [hx] at hy
    cases hy
    exact nk_dp zh rx hyk
  cases m with
  | d x =>
    cases x with
    | dic ks0 xs =>
      simp only [dicM, Option.some.injEq, Prod.mk.injEq] at e
      obtain ⟨rfl, rfl⟩ := e
      simp only [RepM, RepD] at r
      obtain ⟨a, nk, kv, rfl, hz, hk, r1, r2⟩ := r
      exact ⟨a, nk, kv, rfl, mk (zh _ _ hz) hk r1, hk, r1, fun _ => False, fun _ z => z.elim, r2.toM⟩
    | _ => simp [dicM] at e
  | dic ks0 ms0 =>
    simp only [dicM, Option.some.injEq, Prod.mk.injEq] at e
    obtain ⟨rfl, rfl⟩ := e
    simp only [RepM] at r
    obtain ⟨a, nk, kv, T0, rfl, sa, nt, ts, ho, hk, r1, r2⟩ := r
    exact ⟨a, nk, kv, rfl, mk ho hk r1, hk, r1, T0, ts, r2⟩
  | _ => simp [dicM] at e
end
/-! ### d.get(k, x), d[k], k in d -/
noncomputable def mGet (m : M) (x : D) (dm : M) : Res M := match dicM m with
  | some (ks, ms) => if keyOk x then (match dFind ks x with
    | some j => match ms[j]? with
      | some y => .ok y
      | none => .bad
    | none => .ok dm) else .bad
  | none => .bad
noncomputable def vGet2 (g gk gd : VE) : VE := fun env => match g env, gk env, gd env with
  | .ok m, .ok (.d x), .ok dm => mGet m x dm
  | _, _, _ => .bad
noncomputable def vGet1 (g gk : VE) : VE := fun env => match g env, gk env with
  | .ok m, .ok (.d x) => mGet m x (.d .non)
  | _, _ => .bad
noncomputable def mDx (m : M) (x : D) : Res M := match dicM m with
  | some (ks, ms) => if keyOk x then (match dFind ks x with
    | some j => match ms[j]? with
      | some y => .ok y
      | none => .bad
    | none => .bad) else .bad
  | none => .bad
noncomputable def vDx (g gk : VE) : VE := fun env => match g env, gk env with
  | .ok m, .ok (.d x) => mDx m x
  | _, _ => .bad
noncomputable def oInD : DOp := fun m1 m2 => match m1, dicM m2 with
  | .d x, some (ks, _) => if keyOk x then .ok (.bl (decide (x ∈ ks))) else .bad
  | _, _ => .bad
section
variable {G : Gx} {X : Cx} {o e e1 e2 : Expr} {g gk gd : VE} {apos cpos pos : Pos}
theorem mGet_run {Z H : Hp} {m dm y : M} {x : D} {T T1 T2 : Rg} {v vk vd : V} {Q : VK} {R : Rg} (zh : Same Z H) (rm : RepM G Z H m T v) (rk : RepM G Z H (.d x) T1 vk) (rd : RepM G Z H dm T2 vd) (hT : ∀ a, T a → R a) (hT2 : ∀ a, T2 a → R a) (e : mGet m x dm = .ok y)
    (q : ∀ u T, (∀ a, T a → R a) → RepM G Z H y T u → Q u H) : rDGet2 G.K G.w v [vk, vd] H Q := by
  unfold mGet at e
  cases hd : dicM m with
  | none => rw [hd] at e; cases e
  | some p =>
    obtain ⟨ks, ms⟩ := p
    rw [hd] at e
    simp only at e
    by_cases ok : keyOk x
    case neg => rw [if_neg ok] at e; cases e
    rw [if_pos ok] at e
    obtain ⟨k, hk, dk⟩ := ok
    obtain ⟨a, nk, kv, rfl, dv, hks, r1, T0, ts, r2⟩ := dic_rep zh rm hd
    simp only [RepM] at rk
    refine ⟨a, nk, kv, vk, vd, k, rfl, rfl, dv, nk_dp zh rk hk, dk, fun hn => ?_, fun j p hj hp => ?_⟩
    · cases hf : dFind ks x with
      | some j => exact absurd (List.mem_of_getElem? (dFind_some hks hk hf).1) hn
      | none =>
        rw [hf] at e
        cases e
        exact q vd T2 hT2 rd
    · cases hf : dFind ks x with
      | none => exact absurd (List.mem_of_getElem? hj) (dFind_none hks hk hf)
      | some j2 =>
        rw [hf] at e
        simp only at e
        have := get_unique hks.nd (dFind_some hks hk hf).1 hj
        subst this
        cases hm : ms[j2]? with
        | none => rw [hm] at e; cases e
        | some y2 =>
          rw [hm] at e
          cases e
          obtain ⟨u, hu, ru⟩ := r2.get hm
          rw [List.getElem?_map, hp] at hu
          cases hu
          exact q _ T0 (fun b z => hT b (ts b z)) ru
theorem xv_get2 (hu : X.A.units + 64 < cLine) (hK : G.K = X.K) (hw : G.w = X.w) (ho : PVs G X o g) (hk : PVs G X e1 gk) (hd : PVs G X e2 gd)
    (hbase : attributeBase o "get" X.env (eval o X.env) = eval o X.env := by rfl)
    (hfew : ((backTo cpos (starEach (e1 :: [e2]) X.env)).all (fun x => !x.1) && (backToKw cpos (keywordEach [] X.env)).all (fun x => x.1.isSome) && decide ((e1 :: [e2]).length + ([] : List Keyword).length + (if ([] : List Keyword).isEmpty then 0 else 1) < 30)) = true := by rfl)
    (hline : (apos.endLine == cpos.line) = true := by rfl) (hs : starEach (e1 :: [e2]) X.env = (false, eval e1 X.env) :: starEach [e2] X.env := by rfl) (hs2 : starEach (e2 :: []) X.env = (false, eval e2 X.env) :: starEach [] X.env := by rfl) (hplain : (backTo cpos (starEach [e2] X.env)).any (·.1) = false := by rfl) :
    PVs G X (.Call (.Attribute o "get" apos) [e1, e2] [] cpos) (vGet2 g gk gd) := by
  obtain ⟨to, po, vo⟩ := ho.ex
  obtain ⟨t1, p1, v1⟩ := hk.ex
  obtain ⟨t2, p2, v2⟩ := hd.ex
  refine ⟨_, pe_bmD F.slot_dict_get F.type_dict_get (mt_dget2 hu) po (pa_cons p1 (pa_cons p2 pa_nil hs2) hs) hbase hfew hline hs hplain, fun Z H σ env S Q gd' => ?_⟩
  unfold vGet2
  cases q0 : g env with
  | bad => trivial
  | exc _ _ => trivial
  | ok m =>
  cases q1 : gk env with
  | bad => trivial
  | exc _ _ => trivial
  | ok mk =>
  cases mk with
  | d x =>
    cases q2 : gd env with
    | bad => trivial
    | exc _ _ => trivial
    | ok dm =>
      simp only
      cases q3 : mGet m x dm with
      | bad => trivial
      | exc _ _ => trivial
      | ok y =>
        simp only
        intro q
        have h0 := vo Z H σ env S (fun x H1 => (∃ a nk kv, x = .ref a ∧ DcV X.K X.w H1 a nk kv) ∧ tCons t1 (tCons t2 tNil) σ H1 fun xs H2 => rDGet2 X.K X.w x xs H2 Q) gd'
        rw [q0] at h0
        refine h0 fun v T hT r => ⟨?_, ?_⟩
        · have hd : ∃ p, dicM m = some p := by
            unfold mGet at q3
            cases hd : dicM m with
            | none => rw [hd] at q3; cases q3
            | some p => exact ⟨p, rfl⟩
          obtain ⟨⟨ks, ms⟩, hd⟩ := hd
          obtain ⟨a, nk, kv, e, dv, _⟩ := dic_rep gd'.zh r hd
          rw [← hK, ← hw]
          exact ⟨a, nk, kv, e, dv⟩
        · have h1 := v1 Z H σ env S (fun y H1 => t2 σ H1 fun z H2 => rDGet2 X.K X.w v [y, z] H2 Q) gd'
          rw [q1] at h1
          refine h1 fun vk T1 hT1 r1 => ?_
          have h2 := v2 Z H σ env S (fun z H2 => rDGet2 X.K X.w v [vk, z] H2 Q) gd'
          rw [q2] at h2
          refine h2 fun vd T2 hT2 r2 => ?_
          rw [← hK, ← hw]
          exact mGet_run gd'.zh r r1 r2 hT hT2 q3 q
  | _ => trivial
theorem mDx_run {Z H : Hp} {m y : M} {x : D} {T T1 : Rg} {v vk : V} {Q : VK} {R : Rg} (zh : Same Z H) (rm : RepM G Z H m T v) (rk : RepM G Z H (.d x) T1 vk) (hT : ∀ a, T a → R a) (e : mDx m x = .ok y)
    (q : ∀ u T, (∀ a, T a → R a) → RepM G Z H y T u → Q u H) : rDIx G.K G.w v vk H Q := by
  unfold mDx at e
  cases hd : dicM m with
  | none => rw [hd] at e; cases e
  | some p =>
    obtain ⟨ks, ms⟩ := p
    rw [hd] at e
    simp only at e
    by_cases ok : keyOk x
    case neg => rw [if_neg ok] at e; cases e
    rw [if_pos ok] at e
    obtain ⟨k, hk, dk⟩ := ok
    obtain ⟨a, nk, kv, rfl, dv, hks, r1, T0, ts, r2⟩ := dic_rep zh rm hd
    simp only [RepM] at rk
    cases hf : dFind ks x with
    | none => rw [hf] at e; cases e
    | some j =>
      rw [hf] at e
      simp only at e
      cases hm : ms[j]? with
      | none => rw [hm] at e; cases e
      | some y2 =>
        rw [hm] at e
        cases e
        obtain ⟨u, hu, ru⟩ := r2.get hm
        rw [List.getElem?_map] at hu
        cases hp : kv[j]? with
        | none => rw [hp] at hu; cases hu
        | some p =>
          rw [hp] at hu
          cases hu
          exact ⟨a, nk, kv, k, j, p, rfl, dv, nk_dp zh rk hk, dk, (dFind_some hks hk hf).1, hp, q _ T0 (fun b z => hT b (ts b z)) ru⟩
theorem xv_dx (hu : X.A.units + 64 < cLine) (hK : G.K = X.K) (hw : G.w = X.w) (ho : PVs G X o g) (hk : PVs G X e gk) (hs : PlainIx e := by exact fun _ _ => rfl) : PVs G X (.Subscript o e pos) (vDx g gk) := by
  obtain ⟨to, po, vo⟩ := ho.ex
  obtain ⟨t1, p1, v1⟩ := hk.ex
  refine ⟨_, pe_ix (ix_dict hu) po p1 hs, fun Z H σ env S Q gd' => ?_⟩
  unfold vDx
  cases q0 : g env with
  | bad => trivial
  | exc _ _ => trivial
  | ok m =>
  cases q1 : gk env with
  | bad => trivial
  | exc _ _ => trivial
  | ok mk =>
  cases mk with
  | d x =>
    simp only
    cases q3 : mDx m x with
    | bad => trivial
    | exc _ _ => trivial
    | ok y =>
      simp only
      intro q
      have h0 := vo Z H σ env S (fun x H1 => t1 σ H1 fun y H2 => rDIx X.K X.w x y H2 Q) gd'
      rw [q0] at h0
      refine h0 fun v T hT r => ?_
      have h1 := v1 Z H σ env S (fun y H2 => rDIx X.K X.w v y H2 Q) gd'
      rw [q1] at h1
      refine h1 fun vk T1 hT1 r1 => ?_
      rw [← hK, ← hw]
      exact mDx_run gd'.zh r r1 hT q3 q
  | _ => trivial
theorem vop_inD : VOP G (rDIn G.K G.w) oInD := fun Z H m1 T1 v1 m2 T2 v2 Q zh r1 r2 => by
  unfold oInD
  cases m1 with
  | d x =>
    cases hd : dicM m2 with
    | none => trivial
    | some p =>
      obtain ⟨ks, ms⟩ := p
      simp only
      by_cases ok : keyOk x
      case neg => rw [if_neg ok]; trivial
      rw [if_pos ok]
      intro q
      obtain ⟨k, hk, dk⟩ := ok
      obtain ⟨a, nk, kv, rfl, dv, hks, rk, _⟩ := dic_rep zh r2 hd
      simp only [RepM] at r1
      refine ⟨a, nk, kv, k, rfl, dv, nk_dp zh r1 hk, dk, ?_⟩
      have e : decide (k ∈ nk) = decide (x ∈ ks) := by
        by_cases h : k ∈ nk
        · rw [decide_eq_true h, decide_eq_true ((key_mem hks hk).mpr h)]
        · rw [decide_eq_false h, decide_eq_false fun z => h ((key_mem hks hk).mp z)]
      rw [e]
      exact q _ (by simp [RepD])
  | _ => trivial
end
/-! ### d[k] = v, list(d), {} -/
noncomputable def putD (ks : List D) (ms : List M) (x : D) (m : M) : M := match dFind ks x with
  | some j => .dic ks (ms.set j m)
  | none => .dic (ks ++ [x]) (ms ++ [m])
noncomputable def ssSetD (i : Nat) (gk : VE) (f : SE) : SS := fun env => match f env with
  | .ok (m, e1) => match getE e1 i, gk e1 with
    | .ok (.dic ks ms), .ok (.d x) => if keyOk x ∧ ks.length < sizeLine then .ok (.nx, e1.set i (some (putD ks ms x m))) else .bad
    | _, _ => .bad
  | .exc x e => .exc x e
  | .bad => .bad
theorem dic_own {G : Gx} {Z H : Hp} {ks : List D} {ms : List M} {T : Rg} {v : V} (l : Hld G Z H (fun _ => False) (.dic ks ms) T v) : ∃ a nk kv T0, v = .ref a ∧ T a ∧ ¬ T0 a ∧ (∀ b, T0 b → T b) ∧ H a = some (DO G.w a nk kv) ∧ KsOk ks nk ∧ RepDs G Z ks (kv.map fun p => p.1) ∧ RepMs G Z H ms T0 (kv.map fun p => p.2) ∧ Z a = none := by
  have r := l.rep
  simp only [RepM] at r
  obtain ⟨a, nk, kv, T0, rfl, sa, nt, ts, h, hk, r1, r2⟩ := r
  exact ⟨a, nk, kv, T0, rfl, sa, nt, ts, h, hk, r1, r2, l.zf a sa⟩
theorem dic_become {G : Gx} {Z H : Hp} {ks : List D} {nk : List NestedKey} {ms : List M} {kv : List (V × V)} {T Ts T1 : Rg} {a : Addr} (zh : Same Z H) (sa : T a) (za : Z a = none) (nT : ¬ T1 a) (hk : KsOk ks nk) (r1 : RepDs G Z ks (kv.map fun p => p.1)) (r : RepMs G Z H ms T1 (kv.map fun p => p.2)) (sub : ∀ b, T1 b → T b ∨ Ts b) (al : ∀ b, T b → H b ≠ none) (al2 : ∀ b, Ts b → H b ≠ none) (zf : ∀ b, T b → Z b = none) (zf2 : ∀ b, Ts b → Z b = none) :
    Stp Z H (fun b => T b ∨ Ts b) Z (upd H a (DO G.w a nk kv)) (fun b => (T1 b ∨ b = a) ∨ False) ∧ Hld G Z (upd H a (DO G.w a nk kv)) (fun _ => False) (.dic ks ms) (fun b => T1 b ∨ b = a) (.ref a) := by
  refine ⟨(Stp.upd zh (.inl sa) za).weak fun b z => ?_, ⟨?_, fun b z => ?_, fun b z => ?_, fun _ _ z => z⟩⟩
  · rcases z with (z | rfl) | z
    · exact sub b z
    · exact .inl sa
    · exact z.elim
  · simp only [RepM]
    exact ⟨a, nk, kv, T1, rfl, .inr rfl, nT, fun b z => .inl z, upd_same, hk, r1, RepMs.mono (Same.refl _) _ _ _ _ (fun _ z => z) (fun b o sb e => by rw [upd_ne (fun z => nT (by rw [← z]; exact sb))]; exact e) r⟩
  · rcases z with z | rfl
    · exact upd_al ((sub b z).elim (al b) (al2 b))
    · exact upd_al'
  · rcases z with z | rfl
    · exact (sub b z).elim (zf b) (zf2 b)
    · exact za
theorem modify_fst (kv : List (V × V)) (j : Nat) (v : V) : (kv.modify j fun p => (p.1, v)).map (fun p => p.1) = kv.map fun p => p.1 := by
  induction kv generalizing j with
  | nil => simp
  | cons p kv ih => cases j with
    | zero => simp
    | succ j => simp [ih]
theorem modify_snd (kv : List (V × V)) (j : Nat) (v : V) : (kv.modify j fun p => (p.1, v)).map (fun p => p.2) = (kv.map fun p => p.2).set j v := by
  induction kv generalizing j with
  | nil => simp
  | cons p kv ih => cases j with
    | zero => simp
    | succ j => simp [ih]
theorem xs_setD {G : Gx} {X : Cx} {W : WX'} {P : Px} {x : Str} {ie e : Expr} {gk : VE} {f : SE} {p ps pos : Pos} (i : Nat) (hu : X.A.units + 64 < cLine) (hK : G.K = X.K) (hw : G.w = X.w) (hi : PVs G X ie gk) (he : PEs G X W e f)
    (hN : X.N[i]? = some x := by rfl) (hv : Vis X.env.scope x := by first | exact Or.inl rfl | exact Or.inr (Or.inl rfl) | exact Or.inr (Or.inr rfl)) (hd : (x == ("__debug__" : Str)) = false := by decide) (hcd : (x == ("__classdict__" : Str)) = false := by decide)
    (ha : ∀ v, assign (.Subscript (.Name x p) ie ps) X.env v = (do
      let ov ← holding [v] (eval (.Name x p) X.env)
      let iv ← holding [v, ov] (eval ie X.env)
      standAt ps
      holding [v, ov, iv] (setItem ov iv v)
      release [v, ov, iv] []) := by intro _; rfl)
    (hs : swapsWithSole [.Subscript (.Name x p) ie ps] e pos.line X.env = pure false := by rfl) (hsw : swappedStores [.Subscript (.Name x p) ie ps] e X.env = pure none := by rfl)
    (h1 : (assignEach [.Subscript (.Name x p) ie ps] X.env).map (·.2) = [assign (.Subscript (.Name x p) ie ps) X.env] := by rfl) :
    PS' G X W P (.Assign [.Subscript (.Name x p) ie ps] e pos) (ssSetD i gk f) := by
  obtain ⟨t, q, h⟩ := he.ex
  obtain ⟨ti, qi, hi⟩ := hi.ex
  refine ⟨_, ps_asg q (pg_sub (pe_var hN hv hd hcd) qi (set_dct hu) ha) hs hsw h1, fun D Z H σ env S gd k => ?_⟩
  unfold ssSetD at k
  refine h.use gd ?_
  cases e1 : f env with
  | bad => rw [e1] at k; exact k.elim
  | exc x' e' => rw [e1] at k; exact fun cls d Z' H' S' hx s' g' => k cls d σ Z' H' S' hx Fix.refl s' g'
  | ok pr =>
    obtain ⟨m, env1⟩ := pr
    rw [e1] at k
    simp only at k
    intro v Z' H' S' T s' g' l
    rcases getE_cases env1 i with ⟨mx, e2⟩ | e2
    case inr => rw [e2] at k; exact k.elim
    rw [e2] at k
    cases mx with
    | dic ks ms =>
      cases e3 : gk env1 with
      | ok mi =>
        rw [e3] at k
        cases mi with
        | d di =>
          simp only at k
          by_cases ok : keyOk di ∧ ks.length < sizeLine
          case neg => rw [if_neg ok] at k; exact k.elim
          rw [if_pos ok] at k
          obtain ⟨⟨kk, hkk, dk⟩, hz⟩ := ok
          obtain ⟨w, hw0, g1, l1⟩ := g'.take (getE_ok e2)
          refine ⟨w, hw0, ?_⟩
          have h2 := hi Z' H' σ env1 S' (fun iv H2 => rDSet X.K X.w w iv v H2 fun H3 => D.nx σ H3) g'
          rw [e3] at h2
          refine h2 fun iv _ _ ri => ?_
          simp only [RepM] at ri
          obtain ⟨a, nk, kv, T0, rfl, sa, nt, ts, ho, hk, r1, r2, za⟩ := dic_own (G := G) (v := w) ⟨l1.rep, l1.al, l1.zf, fun _ _ z => z⟩
          have d0 : ∀ b, T b → ¬ S' i b := fun b z w => l.dj b z ⟨i, w⟩
          have hlen : ks.length = kv.length := by have := r1.len; simpa using this
          have hmd : dicM (.dic ks ms) = some (ks, ms) := rfl
          obtain ⟨a2, nk2, kv2, ea, dv, _⟩ := dic_rep (G := G) g'.zh l1.rep hmd
          cases ea
          have e5 := dv.at_
          have dv2 : DcV G.K G.w H' a nk kv := by
            refine ⟨ho, fun i k p hk' hp => ?_, hk.nd, hk.dp⟩
            obtain ⟨x, hx, rx⟩ := getD_some r1 (i := i) (v := p.1) (by rw [List.getElem?_map, hp]; rfl)
            obtain ⟨y, hy, hyk⟩ := nkDs_get hk.eq hk'
            rw [hx] at hy
            cases hy
            exact nk_dp g'.zh rx hyk
          have fin : ∀ {nk' : List NestedKey} {kv' : List (V × V)} {ks' : List FL.D} {ms' : List M}, KsOk ks' nk' → RepDs G Z' ks' (kv'.map fun p => p.1) → RepMs G Z' H' ms' (fun b => T0 b ∨ T b) (kv'.map fun p => p.2) → putD ks ms di m = .dic ks' ms' → D.nx σ (upd H' a (DO X.w a nk' kv')) := by
            intro nk' kv' ks' ms' h1 h2 h3 h4
            rw [h4] at k
            obtain ⟨s, l2⟩ := dic_become (G := G) (Ts := T) g'.zh sa za (fun z => z.elim nt fun z => d0 a z sa) h1 h2 h3 (fun b z => z.elim (fun z => .inl (ts b z)) .inr) l1.al l.al l1.zf l.zf
            obtain ⟨g2, d2⟩ := g1.move s fun b z w => w.elim (fun w => l1.dj b w z) fun w => l.dj b w (Rs.wipe_le z)
            have g3 := g2.back (i := i) (m := .dic ks' ms') (v := .ref a) ⟨l2.rep, l2.al, l2.zf, fun b z w => d2 b w (.inl z)⟩ hw0
            rw [show (env1.set i none).set i (some (M.dic ks' ms')) = env1.set i (some (.dic ks' ms')) from List.set_set ..] at g3
            rw [← hw]
            refine k σ Z' _ _ Fix.refl (s'.trans (((s.frame (U (S'.set i fun _ => False))).from fun b z => ?_).weak fun b z => ?_)) g3
            · rcases z with (z | z) | z
              · exact .inl ⟨i, z⟩
              · exact .inr z
              · exact .inl (Rs.wipe_le z)
            · rcases Rs.set_sub z with z | z
              · exact .inr z
              · exact .inl (.inl z)
          rw [← hK]
          rw [hw] at dv2
          refine ⟨a, nk, kv, kk, rfl, dv2, nk_dp g'.zh ri hkk, dk, by rw [← hlen]; exact hz, fun hn => ?_, fun j hj => ?_⟩
          · refine fin (hk.add hkk dk hn) (ks' := ks ++ [di]) (ms' := ms ++ [m]) ?_ ?_ ?_
            · rw [List.map_append]
              exact RepDs.app r1 (show RepDs G Z' [di] [iv] from by simp only [RepDs]; exact ⟨iv, [], rfl, ri, rfl⟩)
            · rw [List.map_append]
              exact RepMs.app r2 (RepMs.one l.rep) (fun _ z => .inl z) (fun _ z => .inr z) fun b z w => d0 b w (ts b z)
            · unfold putD
              cases hf : dFind ks di with
              | none => rfl
              | some j => exact absurd (List.mem_of_getElem? (dFind_some hk hkk hf).1) hn
          · refine fin hk (ks' := ks) (ms' := ms.set j m) (by rw [modify_fst]; exact r1) (by rw [modify_snd]; exact RepMs.set j r2 l.rep fun b z w => d0 b z (ts b w)) ?_
            unfold putD
            cases hf : dFind ks di with
            | none => exact absurd (List.mem_of_getElem? hj) (dFind_none hk hkk hf)
            | some j2 =>
              have := get_unique hk.nd (dFind_some hk hkk hf).1 hj
              subst this
              rfl
        | _ => exact k.elim
      | _ => rw [e3] at k; exact k.elim
    | _ => exact k.elim
def sDict0 : SE := fun env => .ok (.dic [] [], env)
theorem xe_dict0 {G : Gx} {X : Cx} {W : WX'} {pos : Pos} (hw : G.w = X.w) : PEs G X W (.Dict [] [] pos) sDict0 := by
  refine ⟨_, pe_dnew, SEok.mk' fun Z H σ env S Q gd k p hp => ?_⟩
  have pS : ¬ U S p := fun z => gd.al' p z hp
  have zp : Z p = none := by
    cases e : Z p with
    | none => rfl
    | some o => rw [gd.zh p o e] at hp; cases hp
  rw [← hw]
  refine k (.ref p) _ _ S (fun a => a = p) (Stp.new (o := DO G.w p [] []) gd.zh hp (U S)) (gd.move (Stp.new (o := DO G.w p [] []) gd.zh hp (fun _ => False)) fun _ _ z => z).1 ⟨?_, (fun a z => by rw [z, upd_same]; exact (fun z => nomatch z)), (fun a z => by rw [z]; exact zp), (fun a z => by rw [z]; exact pS)⟩
  simp only [RepM]
  exact ⟨p, [], [], fun _ => False, rfl, rfl, fun z => z, fun _ z => z.elim, upd_same, ⟨rfl, List.nodup_nil, fun x h => by simp at h⟩, by simp [RepDs], by simp [RepMs]⟩
noncomputable def sListD (g : VE) : SE := fun env => match g env with
  | .ok m => match dicM m with
    | some (ks, _) => .ok (.lst (ks.map .d), env)
    | none => .bad
  | _ => .bad
theorem xe_listD {G : Gx} {X : Cx} {W : WX'} {e : Expr} {g : VE} {p pos : Pos} (hc : X.calm = true) (hK : G.K = X.K) (hw : G.w = X.w) (hm : X.mg "list" = none) (ha : PVs G X e g) (hv : bootBuiltins "list" = some (.type "list") := by decide +kernel) (hg : Gl X "list" := by rfl) (hst : starEach [e] X.env = (false, eval e X.env) :: starEach [] X.env := by rfl) (hpl : (backTo pos (starEach [] X.env)).any (·.1) = false := by rfl) :
    PEs G X W (.Call (.Name "list" p) [e] [] pos) (sListD g) := by
  obtain ⟨t, q, h⟩ := ha.ex
  refine ⟨_, pe_callTy (call_dlist hc) hg hm hv (pa_cons q pa_nil hst) (by decide) (by decide) hst hpl, SEok.mk' fun Z H σ env S Q gd k => ?_⟩
  unfold sListD at k
  have h1 := h Z H σ env S (fun x H1 => rDList X.K X.w [x] H1 Q) gd
  cases e1 : g env with
  | bad => rw [e1] at k; exact k.elim
  | exc x e' => rw [e1] at k; exact k.elim
  | ok m =>
    rw [e1] at k h1
    simp only at k h1
    cases e3 : dicM m with
    | none => rw [e3] at k; exact k.elim
    | some pr =>
      obtain ⟨ks, ms⟩ := pr
      rw [e3] at k
      refine h1 fun v T _ r => ?_
      obtain ⟨a, nk, kv, rfl, dv, hks, r1, _⟩ := dic_rep gd.zh r e3
      rw [← hK, ← hw]
      refine ⟨a, nk, kv, rfl, dv, fun b hb => ?_⟩
      have pS : ¬ U S b := fun z => gd.al' b z hb
      exact k (.ref b) _ _ S (fun a => a = b) (Stp.new (o := .lst (kv.map fun p => p.1)) gd.zh hb (U S)) (gd.move (Stp.new (o := .lst (kv.map fun p => p.1)) gd.zh hb (fun _ => False)) fun _ _ z => z).1 (lst_newD gd.zh r1 hb pS)
end FL

set_option maxHeartbeats 2000000
/-! FLWF: dicts whose values are a function of their keys; comprehensions with a test. -/
namespace FL
open PySem L2 Classical
theorem dFind_mem {ks : List D} {x : D} (h : x ∈ ks) : ∃ j, dFind ks x = some j ∧ ks[j]? = some x := by
  unfold dFind
  cases e : ks.findIdx? fun y => decide (y = x) with
  | none =>
    have := List.findIdx?_eq_none_iff.mp e x h
    simp at this
  | some j =>
    obtain ⟨hlt, h1, _⟩ := List.findIdx?_eq_some_iff_getElem.mp e
    exact ⟨j, rfl, by rw [List.getElem?_eq_getElem hlt, of_decide_eq_true h1]⟩
theorem dFind_not {ks : List D} {x : D} (h : x ∉ ks) : dFind ks x = none := by
  unfold dFind
  refine List.findIdx?_eq_none_iff.mpr fun y hy => ?_
  exact decide_eq_false fun e => h (e ▸ hy)
theorem mGet_map {ks : List D} {φ : D → M} {x : D} {dm : M} (ok : keyOk x) : mGet (.dic ks (ks.map φ)) x dm = .ok (if x ∈ ks then φ x else dm) := by
  unfold mGet
  simp only [dicM, if_pos ok]
  by_cases h : x ∈ ks
  · obtain ⟨j, e, hj⟩ := dFind_mem h
    simp only [e, List.getElem?_map, hj, Option.map_some, if_pos h]
  · simp only [dFind_not h, if_neg h]
theorem mDx_map {ks : List D} {φ : D → M} {x : D} (ok : keyOk x) (h : x ∈ ks) : mDx (.dic ks (ks.map φ)) x = .ok (φ x) := by
  unfold mDx
  obtain ⟨j, e, hj⟩ := dFind_mem h
  simp only [dicM, if_pos ok, e, List.getElem?_map, hj, Option.map_some]
theorem putD_in {ks : List D} {φ : D → M} {x : D} {m : M} (hn : ks.Nodup) (h : x ∈ ks) : putD ks (ks.map φ) x m = .dic ks (ks.map fun k => if k = x then m else φ k) := by
  unfold putD
  obtain ⟨j, e, hj⟩ := dFind_mem h
  simp only [e]
  congr 1
  apply List.ext_getElem?
  intro i
  have hjl : j < ks.length := (List.getElem?_eq_some_iff.mp hj).1
  by_cases hij : j = i
  · subst hij
    rw [List.getElem?_set_self (by simpa using hjl), List.getElem?_map, hj]
    simp
  · rw [List.getElem?_set_ne hij, List.getElem?_map, List.getElem?_map]
    cases hi : ks[i]? with
    | none => rfl
    | some y =>
      have : y ≠ x := fun z => by
        subst z
        exact hij ((List.getElem?_inj hjl hn).mp (hj.trans hi.symm))
      simp [this]
theorem putD_new {ks : List D} {φ : D → M} {x : D} {m : M} (h : x ∉ ks) : putD ks (ks.map φ) x m = .dic (ks ++ [x]) ((ks ++ [x]).map fun k => if k = x then m else φ k) := by
  unfold putD
  simp only [dFind_not h]
  congr 1
  rw [List.map_append]
  congr 1
  · apply List.map_congr_left
    intro y hy
    have : y ≠ x := fun z => h (z ▸ hy)
    simp [this]
  · simp
theorem lcl_if {own : List Nat} {g : SG} {c : SB} {f : SE} {env : Env} {α : Type} (dd : α → D) (φ : α → M) (p : α → Bool) : ∀ (xs : List α) (acc : List M),
    (∀ x ∈ xs, ∃ e1 e2 e3, g (.d (dd x)) env = .ok e1 ∧ c e1 = .ok (p x, e2) ∧ (p x = true → f e2 = .ok (φ x, e3) ∧ killAll own e3 = env) ∧ (p x = false → killAll own e2 = env)) → lcl own g c f (xs.map dd) acc env = .ok (acc ++ (xs.filter p).map φ, env)
  | [], acc, _ => by simp [lcl]
  | x :: xs, acc, h => by
    obtain ⟨e1, e2, e3, h1, h2, h3, h4⟩ := h x (by simp)
    cases hp : p x with
    | true =>
      rw [hp] at h2
      obtain ⟨h5, h6⟩ := h3 hp
      simp only [List.map_cons, lcl, h1, h2, h5, h6]
      rw [lcl_if dd φ p xs (acc ++ [φ x]) fun y hy => h y (by simp [hy])]
      simp [hp]
    | false =>
      rw [hp] at h2
      simp only [List.map_cons, lcl, h1, h2, h4 hp]
      rw [lcl_if dd φ p xs acc fun y hy => h y (by simp [hy])]
      simp [hp]
theorem nk_rows : ∀ rs : List (List Nat × Int), ∃ ks, nkDs (rs.map rowD) = some ks ∧ NestedKey.depthAll ks ≤ 1
  | [] => ⟨[], rfl, by simp [NestedKey.depthAll]⟩
  | r :: rs => by
    obtain ⟨ks, h1, h2⟩ := nk_rows rs
    refine ⟨.tup [.text (sl r.1), .num r.2] :: ks, ?_, ?_⟩
    · simp only [List.map_cons, nkDs, rowD, nkD, h1]
    · simp only [NestedKey.depthAll, NestedKey.depth]; omega
theorem Out.key {x : D} (h : Out x) : keyOk x := by
  cases h with
  | non => exact ⟨.none, rfl, by simp [NestedKey.depth]⟩
  | int i => exact ⟨.num i, rfl, by simp [NestedKey.depth]⟩
  | rcd rs =>
    obtain ⟨ks, h1, h2⟩ := nk_rows rs
    exact ⟨.tup ks, by simp only [nkD, h1], by simp only [NestedKey.depth]; omega⟩
end FL

namespace FL
open PySem L2
theorem lk_re {env : PySem.Env} {k0 : NameKind} (p : NameKind → Prop) (h0 : p k0) (h1 : k0 = .free → p .cell) : ∀ {names : List (Str × NameKind)} {x : Str}, names.lookup x = some k0 →
    ∃ k, (names.map fun (n, k) => if (k == NameKind.free && env.scope.kind == .function && env.kindOf n == some .cell) then (n, NameKind.cell) else (n, k)).lookup x = some k ∧ p k
  | [], _, h => by simp at h
  | (n, k) :: r, x, h => by
    have ih := @lk_re env k0 p h0 h1 r x
    show ∃ k', List.lookup x ((if (k == NameKind.free && env.scope.kind == .function && env.kindOf n == some .cell) = true then (n, NameKind.cell) else (n, k)) :: _) = some k' ∧ p k'
    cases hx : x == n with
    | true =>
      simp only [List.lookup_cons, hx] at h
      cases h
      by_cases hc : (k0 == NameKind.free && env.scope.kind == .function && env.kindOf n == some .cell) = true
      · rw [if_pos hc]; simp only [List.lookup_cons, hx]
        refine ⟨_, rfl, h1 ?_⟩
        simp at hc; exact hc.1.1
      · rw [if_neg hc]; simp only [List.lookup_cons, hx]; exact ⟨_, rfl, h0⟩
    | false =>
      simp only [List.lookup_cons, hx] at h
      by_cases hc : (k == NameKind.free && env.scope.kind == .function && env.kindOf n == some .cell) = true
      · rw [if_pos hc]; simp only [List.lookup_cons, hx]; exact ih h
      · rw [if_neg hc]; simp only [List.lookup_cons, hx]; exact ih h
/-- a comprehension within a comprehension -/
theorem blkOk_re {N : List Str} {sc scope : Scope} {own : List (Str × Nat)} {env : PySem.Env} (ok : BlkOk N sc scope own) : BlkOk N (relabel sc env) scope own :=
  ⟨ok.kind, ok.uniq, ok.ix, fun y hy e => by
    rcases ok.free y hy e with z | z
    · obtain ⟨k, hk, e⟩ := lk_re (env := env) (fun k => k = .cell) rfl (fun z => nomatch z) z
      exact .inl (by subst e; exact hk)
    · obtain ⟨k, hk, e⟩ := lk_re (env := env) (fun k => k = .cell ∨ k = .free) (.inr rfl) (fun _ => .inl rfl) z
      rcases e with e | e
      · exact .inl (by subst e; exact hk)
      · exact .inr (by subst e; exact hk), ok.own⟩
end FL

/-! FLWH: a value frozen as soon as it is told. -/
namespace FL
open PySem L2 Classical
def sFz (f : SE) : SE := fun env => match f env with
  | .ok (m, e) => .ok (.d (fz m), e)
  | .exc x e => .exc x e
  | .bad => .bad
theorem SEok.fz {G : Gx} {W : WX'} {t : TE} {f : SE} (h : SEok G W t f) : SEok G W t (sFz f) := SEok.mk' fun Z H σ env S Q gd k => by
  unfold sFz at k
  refine h.use gd ?_
  cases e1 : f env with
  | bad => rw [e1] at k; exact k.elim
  | exc x e' => rw [e1] at k; exact k
  | ok pr =>
    obtain ⟨m, env1⟩ := pr
    rw [e1] at k
    simp only at k
    intro v Z' H' S' T s' g' l
    obtain ⟨rz, sz⟩ := l.frozen g'.zh
    have sT : Stp Z' H' T (Fzp Z' H' T) H' T := ⟨sz.z, sz.zh, fun _ _ e _ => e, fun _ z => .inl z, fun a z => by
      by_cases ta : T a
      · exact .inr (.inl ta)
      · rw [frz_out ta] at z; exact .inl z⟩
    have g2 := (g'.move sT fun a z w => l.dj a w z).1
    exact k v _ _ S' (fun _ => False) ((s'.trans sz).weak fun _ z => z.elim (fun z => z) fun z => z.elim) g2 (Hld.data rz)
theorem xe_fz {G : Gx} {X : Cx} {W : WX'} {e : Expr} {f : SE} (ha : PEs G X W e f) : PEs G X W e (sFz f) := by
  obtain ⟨t, q, h⟩ := ha.ex
  exact ⟨t, q, h.fz⟩
theorem sLc_eq {own : List Nat} {fi : SI} {g : SG} {c : SB} {f : SE} {env e e2 : FL.Env} {xs : List D} {ms : List M} (h1 : fi env = .ok (xs, e)) (h2 : xs.length ≤ sizeLine) (h3 : lcl own g c f xs [] (killAll own e) = .ok (ms, e2)) : sLc own fi g c f env = .ok (.lst ms, e2) := by
  unfold sLc
  rw [h1]
  simp only []
  rw [if_pos h2, h3]
theorem sLcW_eq {own ws : List Nat} {fi : SIw} {g : SG} {c : SB} {f : SE} {env e2 : FL.Env} {xs : List D} {ms : List M} (h1 : fi env = .ok xs) (h2 : xs.length ≤ sizeLine) (h0 : ∀ i ∈ ws, i ∉ own) (h3 : lclw own ws env g c f xs [] (killAll own env) = .ok (ms, e2)) : sLcW own ws fi g c f env = .ok (.lst ms, e2) := by
  unfold sLcW
  rw [h1]
  simp only []
  rw [if_pos ⟨h2, h0⟩, h3]
theorem ssSet_eq {i : Nat} {f : SE} {env e : FL.Env} {m : M} (h : f env = .ok (m, e)) (hi : i < e.length) : ssSet i f env = .ok (.nx, e.set i (some m)) := by
  unfold ssSet
  rw [h]
  simp only []
  rw [if_pos hi]
theorem ssFor_eq {fi : SI} {g : SG} {b : SS} {env e : FL.Env} {xs : List D} (h : fi env = .ok (xs, e)) : ssFor fi g b env = fl g b xs e := by
  unfold ssFor
  rw [h]
theorem ssForW_eq {ws : List Nat} {fi : SIw} {g : SG} {b : SS} {env : FL.Env} {xs : List D} (h : fi env = .ok xs) : ssForW ws fi g b env = flw ws env g b xs env := by
  unfold ssForW
  rw [h]
end FL

/-! FLWI: single steps of the plain readings, each as a law of its own. -/
namespace FL
open PySem L2 Classical
theorem saNil_eq (env : FL.Env) : saNil env = .ok ([], env) := rfl
theorem saCons_eq {f : SE} {fs : SA} {env e1 e2 : FL.Env} {m : M} {ms : List M} (h : f env = .ok (m, e1)) (h2 : fs e1 = .ok (ms, e2)) : saCons f fs env = .ok (m :: ms, e2) := by
  unfold saCons; rw [h]; simp only []; rw [h2]
theorem sa1_eq {f : SE} {env e1 : FL.Env} {m : M} (h : f env = .ok (m, e1)) : saCons f saNil env = .ok ([m], e1) := saCons_eq h rfl
theorem sa2_eq {f g : SE} {env e1 e2 : FL.Env} {m n : M} (h : f env = .ok (m, e1)) (h2 : g e1 = .ok (n, e2)) : saCons f (saCons g saNil) env = .ok ([m, n], e2) := saCons_eq h (sa1_eq h2)
theorem sa3_eq {f g k : SE} {env e1 e2 e3 : FL.Env} {m n o : M} (h : f env = .ok (m, e1)) (h2 : g e1 = .ok (n, e2)) (h3 : k e2 = .ok (o, e3)) : saCons f (saCons g (saCons k saNil)) env = .ok ([m, n, o], e3) := saCons_eq h (sa2_eq h2 h3)
theorem sCall_eq {F : FS} {bk : Bk} {fs : SA} {env e1 ms' : FL.Env} {ms : List M} {r : M} (h : fs env = .ok (ms, e1)) (h2 : F ms = .ok (r, ms')) : sCall F bk fs env = .ok (r, putBack bk ms' e1) := by
  unfold sCall; rw [h]; simp only []; rw [h2]
theorem putBack_none : ∀ (bk : Bk) (ms env : FL.Env), (∀ x ∈ bk, x = none) → putBack bk ms env = env
  | [], ms, env, _ => by cases ms <;> rfl
  | x :: bk, [], env, h => by
    have := h x (by simp); subst this; rfl
  | x :: bk, m :: ms, env, h => by
    have := h x (by simp); subst this
    show putBack bk ms env = env
    exact putBack_none bk ms env fun y hy => h y (by simp [hy])
theorem sCall_n {F : FS} {bk : Bk} {fs : SA} {env e1 ms' : FL.Env} {ms : List M} {r : M} (hb : ∀ x ∈ bk, x = none) (h : fs env = .ok (ms, e1)) (h2 : F ms = .ok (r, ms')) : sCall F bk fs env = .ok (r, e1) := by
  rw [sCall_eq h h2, putBack_none bk ms' e1 hb]
theorem sFz_eq {f : SE} {env e : FL.Env} {m : M} (h : f env = .ok (m, e)) : sFz f env = .ok (.d (fz m), e) := by
  unfold sFz; rw [h]
theorem s2_eq {op : DOp} {f g : SE} {env e1 e2 : FL.Env} {m1 m2 : M} {x : D} (h1 : f env = .ok (m1, e1)) (h2 : g e1 = .ok (m2, e2)) (h3 : op m1 m2 = .ok x) : s2 op f g env = .ok (.d x, e2) := by
  unfold s2; rw [h1]; simp only []; rw [h2]; simp only []; rw [h3]
theorem s2v_eq {op : DOp} {f : SE} {g : VE} {env e1 : FL.Env} {m1 m2 : M} {x : D} (h1 : f env = .ok (m1, e1)) (h2 : g e1 = .ok m2) (h3 : op m1 m2 = .ok x) : s2v op f g env = .ok (.d x, e1) := by
  unfold s2v; rw [h1]; simp only []; rw [h2]; simp only []; rw [h3]
theorem sB_eq {op : LOp} {fs : SA} {env e : FL.Env} {ms : List M} {x : D} (h : fs env = .ok (ms, e)) (h2 : op ms = .ok x) : sB op fs env = .ok (.d x, e) := by
  unfold sB; rw [h]; simp only []; rw [h2]
theorem sbE_eq {f : SE} {env e : FL.Env} {b : Bool} (h : f env = .ok (.d (.bl b), e)) : sbE f env = .ok (b, e) := by
  unfold sbE; rw [h]
theorem sbNot_eq {c : SB} {env e : FL.Env} {b : Bool} (h : c env = .ok (b, e)) : sbNot c env = .ok (!b, e) := by
  unfold sbNot; rw [h]
theorem ssIf_t {c : SB} {f g : SS} {env e : FL.Env} (h : c env = .ok (true, e)) : ssIf c f g env = f e := by
  unfold ssIf; rw [h]
theorem ssIf_f {c : SB} {f g : SS} {env e : FL.Env} (h : c env = .ok (false, e)) : ssIf c f g env = g e := by
  unfold ssIf; rw [h]
theorem ssRet_eq {f : SE} {env e : FL.Env} {m : M} (h : f env = .ok (m, e)) : ssRet f env = .ok (.ret m, e) := by
  unfold ssRet; rw [h]
theorem ssDrop_eq {f : SE} {env e : FL.Env} {m : M} (h : f env = .ok (m, e)) : ssDrop f env = .ok (.nx, e) := by
  unfold ssDrop; rw [h]
theorem sMeth_eq {isT : M → Bool} {i : Nat} {op : MM} {fs : SA} {env e : FL.Env} {m0 m m' x : M} {ms : List M} (h0 : getE env i = .ok m0) (ht : isT m0 = true) (h : fs env = .ok (ms, e)) (h1 : getE e i = .ok m) (h2 : op m ms = .ok (x, m')) : sMeth isT i op fs env = .ok (x, e.set i (some m')) := by
  unfold sMeth; rw [h0]; simp only []; rw [if_pos ht, h]; simp only []; rw [h1]; simp only []; rw [h2]
end FL

set_option maxHeartbeats 2000000
/-! FLWJ: sorted(a dict, key=f). -/
namespace PySem.W
open PySem PySem.Calls PyProof.Rows PyProof.V PySem.Spec
section
variable {prog : Program} {w : World} {A : Around} {E : Value → Shared → Prop} {s : Shared} {T : String} {r d : Addr} {n : Nat} {P : Nat → Value → Prop} {OK : Heap → Prop} {β : Type} {bs : List β} {R : Value → β → Prop}
theorem sorted_src_key {f : Value} {kw : List (Str × Value)} {b : Bool} {Q : Value → Shared → Prop} (K : KdlSrc prog w T r d n P OK) (hh : A.handled = none) (hok : OK s.heap) (hn : n ≤ sizeLine) (k : β → PyData) (hbn : bs.length = n) (hbs : ∀ acc : Array Value, ItemsOf P acc n → EachIs R acc.toList bs)
    (hal : AllAlike (bs.map k)) (hk : Sortable (bs.map k)) (hu : ∀ x, x ∈ bs → A.units + 2 + (k x).depth < cLine) (ha1 : argsOk "sorted" ⟨[.ref r], kw⟩) (ha2 : ∀ x, argsOk "list.sort" ⟨[.ref x], kw⟩) (ht : ∀ x, Builtin.«list.sort» ⟨[.ref x], kw⟩ = ksk_tree x f b)
    (turn : ∀ (v : Value) (x : β), R v x → x ∈ bs → ∀ (h : Heap) (tk : Nat), (∀ b o, s.heap.get? b = some o → h.get? b = some o) →
      wpAny (model prog w) A.in1.in1 (call f [v]) (KeyPure (k x) { s with heap := h, toks := tk }) (fun _ _ => False) { s with heap := h, toks := tk })
    (h : ∀ (D : Addr) out c h' tk, (∀ b o, s.heap.get? b = some o → h'.get? b = some o) → s.heap.get? D = none → h'.get? D = some (seqObj "list" (List.toArray out) c) → out.length = bs.length → EachIs R out (bs.mergeSort (dataLe b k)) →
      Q (.ref D) { s with heap := h', toks := tk }) :
    wpAny (model prog w) A (call (.builtin "sorted") [.ref r] kw) Q E s := by
  refine call_function_entry_kw kind_sorted plain_sorted entry_sorted ha1 ?_
  unfold Builtin.«sorted»
  refine wpAny_bind (m := checkCount "sorted" 1 1 _) (wpAny_pure ?_)
  refine wpAny_bind (kdu_collect (A := A.in1) K hh hok hn fun h1 tk acc hk1 hacc => ?_)
  have hl : acc.toList.length = n := by rw [Array.length_toList]; exact hacc.1
  refine wpAny_bind (wpAny_newList ?_ (by rw [hl]; exact hn))
  have e := hbs acc hacc
  have hle : s.heap.get? h1.objs.size = none := by
    cases q : s.heap.get? h1.objs.size with
    | none => rfl
    | some o => exact absurd (Heap.lt_size (hk1 _ o q)) (Nat.lt_irrefl _)
  have up : ∀ {g : Heap}, KeepsBut h1.objs.size (h1.push { cls := .type "list", data := .seq acc.toList.toArray }) g → ∀ b o, s.heap.get? b = some o → g.get? b = some o := fun {g} kp b o q =>
    kp b o (Nat.ne_of_lt (Heap.lt_size (hk1 b o q))) (Heap.get?_push_of_some _ (hk1 b o q))
  refine wpAny_bind (wpAny_holding (wpAny_mono (list_sort_key_data (A := A.in1) (s := { s with heap := h1.push { cls := .type "list", data := .seq acc.toList.toArray }, toks := tk }) (a := h1.objs.size) (n := 0) (b := b) (Q := fun _ s' => Q (.ref h1.objs.size) s') k (Heap.get?_push_size _ rfl) e hal hk (by rw [hbn]; exact hn) (fun x hx => hu x hx) (ha2 _) (ht _)
    (fun v x hR hx g tk' kp => turn v x hR hx g tk' (up kp)) fun out c g tk' kp hD hlen eo => h h1.objs.size out c g tk' (up kp) hle hD hlen eo) (fun _ s' x => ?_) fun _ _ e => e))
  exact wpAny_pure ⟨_, rfl, x⟩
end
end PySem.W
namespace FL
open PySem L2 Classical
def rSrtKD (K : PySem.W.Frag) (w : World) (f : Addr) (kd : PyData → PyData → Prop) : List V → List V → Hp → VK → Prop := fun vs zs H Q => ∃ (a : Addr) (nk : List NestedKey) (kv : List (V × V)) (ps : List KItem), vs = [.ref a] ∧ zs = [.ref f] ∧ DcV K w H a nk kv ∧ ps.map (·.v) = kv.map (·.1) ∧
  (∀ p ∈ ps, Dp K H p.v p.x ∧ noL p.x = true ∧ kd p.x p.key ∧ p.key.depth ≤ 60) ∧ PySem.W.AllAlike (ps.map (·.key)) ∧ PySem.W.Sortable (ps.map (·.key)) ∧
  ∀ q, H q = none → Q (.ref q) (upd H q (.lst ((ps.mergeSort (PySem.W.dataLe false (fun p : KItem => p.key))).map (·.v))))
theorem cr_srtKD {X : Cx} {k : Nat} {f : Addr} {kd : PyData → PyData → Prop} (hc : X.calm = true) (T : KeyT X.prog X.w X.K X.mg X.base k f kd) (hr : Room (k + 2) X.A) : CallRK X (.builtin "sorted") [Str.ofString "key"] (rSrtKD X.K X.w f kd) := by
  intro pins s σ H vs zs us ws Q I r rz h
  obtain ⟨a, nk, kv, ps, rfl, rfl, hd, hpv, hdp, hal, hk, q⟩ := h
  rw [Vals.ref1 r]
  obtain ⟨w1, rfl, e1⟩ := vals1 rz
  obtain rfl : w1 = Value.ref f := e1
  have hun : X.A.units + 66 < cLine := by have := hr.un; omega
  obtain ⟨lo, hz, es, ⟨o, ep, ho, hx, hdd, hl, _, _⟩, er⟩ := hd.dx I
  have hlen := er.len
  have hes : es.size = kv.length := by rw [← hl, hlen.1]
  have hpl : ps.length = kv.length := by have := congrArg List.length hpv; simpa using this
  refine PySem.W.sorted_src_key (b := false) (f := Value.ref f) (kw := [(Str.ofString "key", Value.ref f)]) (R := fun v (p : KItem) => RelV p.v v ∧ Reads s.heap v p.x [] ∧ kd p.x p.key) (kdl_raw lo hx hdd) (I.ok.hd hc) ho (by rw [hes]; exact hz) (fun p : KItem => p.key) (by rw [hes]; exact hpl) (fun acc' hacc => ?_) hal hk (fun p hp => by have := (hdp p hp).2.2.2; omega) (PyProof.Rows.ksk_s1 _ _) (fun _ => PyProof.Rows.ksk_l1 _ _) (fun _ => PyProof.Rows.ksk_t1 _ _)
    (fun v p ⟨_, hrd, hkd⟩ _ h tk kp => T X.A.in1.in1 X.stack _ v p.x p.key _ I.mod hr.in1.in1 (Kp.trans (show Kp X.base s.heap from I.bk) kp) (PyProof.Rows.Reads.keeps kp hrd) hkd) fun D out c h' tk kp hge hD hln eo => ?_
  · have hv : Vals (ps.map (·.v)) acc'.toList := by
      rw [hpv]
      refine vals_of_at (by rw [List.length_map]; have := hacc.1; simp only [Array.length_toList]; omega) fun j x w h1 h2 => ?_
      obtain ⟨en, he, rfl⟩ := hacc.2 j w (by rw [← Array.getElem?_toList]; exact h2)
      have hj : j < kv.length := by rw [List.getElem?_map] at h1; cases hq : kv[j]? with
        | none => rw [hq] at h1; cases h1
        | some p => exact (List.getElem?_eq_some_iff.mp hq).1
      obtain ⟨p, e2, g1, g2, g3, g4, g5⟩ := er.get (i := j) (List.getElem?_eq_getElem (show j < nk.length by omega))
      rw [Array.getElem?_toList, he] at g2
      cases g2
      rw [List.getElem?_map, g1] at h1
      cases h1
      exact g4
    have key : ∀ {us : List Value} {qs : List KItem}, PySem.W.EachIs (fun u (p : KItem) => RelV p.v u) us qs → (∀ p ∈ qs, Dp X.K H p.v p.x ∧ noL p.x = true ∧ kd p.x p.key ∧ p.key.depth ≤ 60) → PySem.W.EachIs (fun v (p : KItem) => RelV p.v v ∧ Reads s.heap v p.x [] ∧ kd p.x p.key) us qs := by
      intro us qs e'
      induction e' with
      | nil => intro _; exact .nil
      | cons a b ih =>
        intro hh
        rename_i b0 _ _
        have h0 := hh b0 (by simp)
        obtain ⟨as, r0⟩ := Dp.reads I _ _ _ h0.1 a
        have := reads_nil _ _ _ r0 h0.2.1
        subst this
        exact .cons ⟨a, r0, h0.2.2.1⟩ (ih fun p hp => hh p (by simp [hp]))
    exact key (items_each hv) hdp
  · have hv := each_items eo fun _ _ z => z.1
    have hlen2 : ((ps.mergeSort (PySem.W.dataLe false (fun p : KItem => p.key))).map (·.v)).length ≤ sizeLine := by
      rw [List.length_map, List.length_mergeSort, hpl]
      exact hz
    exact ⟨.ref D, upd H D (.lst ((ps.mergeSort (PySem.W.dataLe false (fun p : KItem => p.key))).map (·.v))), I.laidN (t' := tk) kp hge (I.hok.gone hge) ⟨hlen2, out, c, hv, hD⟩, rfl, q _ (I.hok.gone hge)⟩
theorem srtKD_data {G : Gx} {Z H : Hp} {a f : Addr} {kf : PyData → Option PyData} {xs : List D} {nk : List NestedKey} {kv : List (V × V)} {Q : VK} (zh : Same Z H) (hs : DcV G.K G.w H a nk kv) (rr : RepDs G Z xs (kv.map fun p => p.1)) (ok : SrtKOk kf xs) (q : ∀ p ws, H p = none → RepDs G Z (srtK kf xs) ws → Q (.ref p) (upd H p (.lst ws))) :
    rSrtKD G.K G.w f (fun x y => kf x = some y) [.ref a] [.ref f] H Q := by
  obtain ⟨us, hus⟩ : ∃ us, us = kv.map fun p => p.1 := ⟨_, rfl⟩
  rw [← hus] at rr
  have hl := rr.len
  have e1 := zip_fst hl
  have e2 := zip_snd hl
  have hr := repDs_zip rr
  let mk : D × V → KItem := fun p => ⟨toPy p.1, keyOf kf p.1, p.2⟩
  let ps : List KItem := (List.zip xs us).map mk
  have p1 : ps.map (·.key) = xs.map (keyOf kf) := by
    show ((List.zip xs us).map mk).map (·.key) = _
    have h := congrArg (List.map (keyOf kf)) e1
    rw [List.map_map] at h ⊢
    exact h
  have p2 : ps.map (·.v) = us := by
    show ((List.zip xs us).map mk).map (·.v) = _
    rw [List.map_map]
    exact e2
  refine ⟨a, nk, kv, ps, rfl, rfl, hs, by rw [p2]; exact hus, fun p hp => ?_, by rw [p1]; exact ok.2.1, by rw [p1]; exact ok.2.2, fun b hb => ?_⟩
  · obtain ⟨w, hw, rfl⟩ := List.mem_map.mp hp
    have hx : w.1 ∈ xs := by rw [← e1]; exact List.mem_map_of_mem hw
    have h0 := ok.1 _ hx
    refine ⟨RepD.dp zh _ _ h0.1 (hr w hw), h0.2.1, ?_, h0.2.2.2⟩
    obtain ⟨y, hy⟩ := Option.isSome_iff_exists.mp h0.2.2.1
    show kf (toPy w.1) = some (keyOf kf w.1)
    unfold keyOf
    rw [hy]; rfl
  · have m1 : ps.mergeSort (PySem.W.dataLe false (fun p : KItem => p.key)) = ((List.zip xs us).mergeSort (PySem.W.dataLe false fun p : D × V => keyOf kf p.1)).map mk := by
      show ((List.zip xs us).map mk).mergeSort _ = _
      rw [List.map_mergeSort]
      intro a _ b _
      rfl
    have m2 : srtK kf xs = ((List.zip xs us).mergeSort (PySem.W.dataLe false fun p : D × V => keyOf kf p.1)).map (·.1) := by
      have h : srtK kf xs = srtK kf ((List.zip xs us).map (·.1)) := by rw [e1]
      rw [h]
      unfold srtK
      rw [List.map_mergeSort]
      intro a _ b _
      rfl
    rw [m1, List.map_map]
    have hq : ∀ p ∈ (List.zip xs us).mergeSort (PySem.W.dataLe false fun p : D × V => keyOf kf p.1), RepD G Z p.1 p.2 := fun p hp => hr p ((List.mergeSort_perm _ _).mem_iff.mp hp)
    have := repDs_of hq
    rw [← m2] at this
    exact q b _ hb this
noncomputable def sSortedKD (kf : PyData → Option PyData) (g : VE) : SE := fun env => match g env with
  | .ok m => match dicM m with
    | some (ks, _) => if SrtKOk kf ks then .ok (.lst ((srtK kf ks).map .d), env) else .bad
    | none => .bad
  | _ => .bad
section
variable {G : Gx} {X : Cx} {W : WX'} {e : Expr} {g : VE} {p p2 kp pos : Pos} {k k' : Nat} {nm : Str} {kf : PyData → Option PyData}
theorem xe_sortedKD (T : KeyA X.prog X.w G X.mg X.base k nm kf) (hr : Room k' X.A) (hk : k + 2 ≤ k') (hc : X.calm = true) (hK : G.K = X.K) (hw : G.w = X.w) (hm : X.mg "sorted" = none) (ha : PVs G X e g) (hgk : Gl X nm := by rfl) (hdk : (nm == ("__debug__" : Str)) = false := by decide) (hv : bootBuiltins "sorted" = some (.builtin "sorted") := by decide +kernel) (hg : Gl X "sorted" := by rfl) (hst : starEach [e] X.env = (false, eval e X.env) :: starEach [] X.env := by rfl) (hpl : (backTo pos (starEach [e] X.env)).any (·.1) = false := by rfl)
    (hall : (backToKw pos (keywordEach [⟨some "key", .Name nm p2, kp⟩] X.env)).all (·.1.isSome) = true := by rfl) (hnone : (backToKw pos (keywordEach [⟨some "key", .Name nm p2, kp⟩] X.env)).any (·.1.isNone) = false := by rfl) (hks : (backToKw pos (keywordEach [⟨some "key", .Name nm p2, kp⟩] X.env)).filterMap (·.1) = [Str.ofString "key"] := by rfl) :
    PEs G X W (.Call (.Name "sorted" p) [e] [⟨some "key", .Name nm p2, kp⟩] pos) (sSortedKD kf g) := by
  obtain ⟨t, q, h⟩ := ha.ex
  obtain ⟨f, T, hf⟩ := T.ex
  rw [hK] at T
  refine ⟨_, pe_callBK (cr_srtKD hc T (hr.mono hk)) hg hm hv (pa_cons q pa_nil hst) (pk_cons (pe_glob (v := .ref f) hgk hf rfl hdk) pk_nil) (by decide) (by decide) (by rw [hst]; rfl) hpl hall hnone hks, SEok.mk' fun Z H σ env S Q gd k => ?_⟩
  unfold sSortedKD at k
  have h1 := h Z H σ env S (fun x H1 => rSrtKD X.K X.w f (fun x y => kf x = some y) [x] [.ref f] H1 Q) gd
  cases e1 : g env with
  | bad => rw [e1] at k; exact k.elim
  | exc x e' => rw [e1] at k; exact k.elim
  | ok m =>
    rw [e1] at k h1
    simp only at k h1
    cases e3 : dicM m with
    | none => rw [e3] at k; exact k.elim
    | some pr =>
      obtain ⟨ks, ms⟩ := pr
      rw [e3] at k
      simp only at k
      by_cases ok : SrtKOk kf ks
      case neg => rw [if_neg ok] at k; exact k.elim
      rw [if_pos ok] at k
      refine h1 fun v T _ r => ?_
      obtain ⟨a, nk, kv, rfl, dv, hks, r1, _⟩ := dic_rep gd.zh r e3
      rw [← hK, ← hw]
      refine srtKD_data gd.zh dv r1 ok fun b ws hb rw' => ?_
      have pS : ¬ U S b := fun z => gd.al' b z hb
      exact k (.ref b) _ _ S (fun a => a = b) (Stp.new (o := .lst ws) gd.zh hb (U S)) (gd.move (Stp.new (o := .lst ws) gd.zh hb (fun _ => False)) fun _ _ z => z).1 (lst_newD gd.zh rw' hb pS)
end
end FL

set_option maxHeartbeats 4000000
namespace K41
open PySem L2 FL Classical
abbrev top (i : Nat) : Stmt := PySem.Challenge.pw_flipwright_k41_whole_weighed_step_by_ste.main.body.getD i (.Pass ⟨0, 0, 0, 0⟩)
abbrev st_divisor : Stmt := top 4
abbrev N_divisor : List Str := ["one", "other", "here", "there", "rest"]
theorem sc_divisor : FnScope N_divisor ["one", "other"] (defScope st_divisor) := ⟨rfl, rfl, rfl, by decide +kernel, rfl, by decide +kernel, by decide +kernel⟩
abbrev st_fraction : Stmt := top 5
abbrev N_fraction : List Str := ["top", "bottom", "by"]
theorem sc_fraction : FnScope N_fraction ["top", "bottom"] (defScope st_fraction) := ⟨rfl, rfl, rfl, by decide +kernel, rfl, by decide +kernel, by decide +kernel⟩
abbrev st_plus : Stmt := top 6
abbrev N_plus : List Str := ["one", "other"]
theorem sc_plus : FnScope N_plus ["one", "other"] (defScope st_plus) := ⟨rfl, rfl, rfl, by decide +kernel, rfl, by decide +kernel, by decide +kernel⟩
abbrev st_times : Stmt := top 7
abbrev N_times : List Str := ["one", "other"]
theorem sc_times : FnScope N_times ["one", "other"] (defScope st_times) := ⟨rfl, rfl, rfl, by decide +kernel, rfl, by decide +kernel, by decide +kernel⟩
abbrev st_rank : Stmt := top 10
abbrev N_rank : List Str := ["outcome"]
theorem sc_rank : FnScope N_rank ["outcome"] (defScope st_rank) := ⟨rfl, rfl, rfl, by decide +kernel, rfl, by decide +kernel, by decide +kernel⟩
abbrev st_in_order : Stmt := top 11
abbrev N_in_order : List Str := ["outcomes", "found", "outcome"]
theorem sc_in_order : FnScope N_in_order ["outcomes"] (defScope st_in_order) := ⟨rfl, rfl, rfl, by decide +kernel, rfl, by decide +kernel, by decide +kernel⟩
abbrev st_table : Stmt := top 12
abbrev N_table : List Str := ["pairs", "shares", "outcome", "share"]
theorem sc_table : FnScope N_table ["pairs"] (defScope st_table) := ⟨rfl, rfl, rfl, by decide +kernel, rfl, by decide +kernel, by decide +kernel⟩
abbrev st_mixed : Stmt := top 13
abbrev N_mixed : List Str := ["parts", "pairs", "part", "rows", "outcome", "share"]
theorem sc_mixed : FnScope N_mixed ["parts"] (defScope st_mixed) := ⟨rfl, rfl, rfl, by decide +kernel, rfl, by decide +kernel, by decide +kernel⟩
abbrev st_shares_of : Stmt := top 15
abbrev N_shares_of : List Str := ["draw", "whole", "number", "weight"]
theorem sc_shares_of : FnScope N_shares_of ["draw"] (defScope st_shares_of) := ⟨rfl, rfl, rfl, by decide +kernel, rfl, by decide +kernel, by decide +kernel⟩
abbrev st_weighed : Stmt := top 16
abbrev N_weighed : List Str := ["parts", "draws", "found", "entry", "shares", "share", "child"]
theorem sc_weighed : FnScope N_weighed ["parts", "draws"] (defScope st_weighed) := ⟨rfl, rfl, rfl, by decide +kernel, rfl, by decide +kernel, by decide +kernel⟩
abbrev st__law_cell_at : Stmt := top 18
abbrev N__law_cell_at : List Str := ["_law_script", "_law_k"]
theorem sc__law_cell_at : FnScope N__law_cell_at ["_law_script", "_law_k"] (defScope st__law_cell_at) := ⟨rfl, rfl, rfl, by decide +kernel, rfl, by decide +kernel, by decide +kernel⟩
abbrev st__law_whole : Stmt := top 19
abbrev N__law_whole : List Str := ["_law_found"]
theorem sc__law_whole : FnScope N__law_whole ["_law_found"] (defScope st__law_whole) := ⟨rfl, rfl, rfl, by decide +kernel, rfl, by decide +kernel, by decide +kernel⟩
abbrev st__law_mix : Stmt := top 20
abbrev N__law_mix : List Str := ["_law_cell", "_law_k", "_law_figure"]
theorem sc__law_mix : FnScope N__law_mix ["_law_cell", "_law_k"] (defScope st__law_mix) := ⟨rfl, rfl, rfl, by decide +kernel, rfl, by decide +kernel, by decide +kernel⟩
abbrev st__law_same : Stmt := top 21
abbrev N__law_same : List Str := ["_law_found", "_law_due", "_law_k"]
theorem sc__law_same : FnScope N__law_same ["_law_found", "_law_due"] (defScope st__law_same) := ⟨rfl, rfl, rfl, by decide +kernel, rfl, by decide +kernel, by decide +kernel⟩
abbrev st__law_divisor : Stmt := top 22
abbrev N__law_divisor : List Str := ["_law_one", "_law_other"]
theorem sc__law_divisor : FnScope N__law_divisor ["_law_one", "_law_other"] (defScope st__law_divisor) := ⟨rfl, rfl, rfl, by decide +kernel, rfl, by decide +kernel, by decide +kernel⟩
abbrev st__law_is_share : Stmt := top 23
abbrev N__law_is_share : List Str := ["_law_found"]
theorem sc__law_is_share : FnScope N__law_is_share ["_law_found"] (defScope st__law_is_share) := ⟨rfl, rfl, rfl, by decide +kernel, rfl, by decide +kernel, by decide +kernel⟩
abbrev st__law_rank : Stmt := top 24
abbrev N__law_rank : List Str := ["_law_outcome"]
theorem sc__law_rank : FnScope N__law_rank ["_law_outcome"] (defScope st__law_rank) := ⟨rfl, rfl, rfl, by decide +kernel, rfl, by decide +kernel, by decide +kernel⟩
abbrev st__law_chain_draws : Stmt := top 25
abbrev N__law_chain_draws : List Str := ["_law_script", "_law_header", "_law_great", "_law_draws", "_law_turn", "_law_cell", "_law_draw", "_law_k"]
theorem sc__law_chain_draws : FnScope N__law_chain_draws ["_law_script"] (defScope st__law_chain_draws) := ⟨rfl, rfl, rfl, by decide +kernel, rfl, by decide +kernel, by decide +kernel⟩
abbrev st__law_site : Stmt := top 26
abbrev N__law_site : List Str := ["_law_entry", "_law_draws"]
theorem sc__law_site : FnScope N__law_site ["_law_entry", "_law_draws"] (defScope st__law_site) := ⟨rfl, rfl, rfl, by decide +kernel, rfl, by decide +kernel, by decide +kernel⟩
abbrev st__law_chain : Stmt := top 27
abbrev N__law_chain : List Str := ["_law_script", "_law_draws", "_law_parts", "_law_site_here", "_law_k", "_law_cell", "_law_some", "_law_place", "_law_j"]
theorem sc__law_chain : FnScope N__law_chain ["_law_script", "_law_draws"] (defScope st__law_chain) := ⟨rfl, rfl, rfl, by decide +kernel, rfl, by decide +kernel, by decide +kernel⟩
abbrev st__law_copy : Stmt := top 28
abbrev N__law_copy : List Str := ["_law_parts", "_law_entry", "_law_children"]
theorem sc__law_copy : FnScope N__law_copy ["_law_parts"] (defScope st__law_copy) := ⟨rfl, rfl, rfl, by decide +kernel, rfl, by decide +kernel, by decide +kernel⟩
abbrev st__law_share : Stmt := top 29
abbrev N__law_share : List Str := ["_law_rows", "_law_outcome", "_law_pair"]
theorem sc__law_share : FnScope N__law_share ["_law_rows", "_law_outcome"] (defScope st__law_share) := ⟨rfl, rfl, rfl, by decide +kernel, rfl, by decide +kernel, by decide +kernel⟩
abbrev st__law_step_good : Stmt := top 30
abbrev N__law_step_good : List Str := ["_law_rows", "_law_below", "_law_draw", "_law_outcomes", "_law_one", "_law_due", "_law_whole_here", "_law_k", "_law_pair", "_law_top", "_law_bottom", "_law_turn", "_law_share_here"]
theorem sc__law_step_good : FnScope N__law_step_good ["_law_rows", "_law_below", "_law_draw"] (defScope st__law_step_good) := ⟨rfl, rfl, rfl, by decide +kernel, rfl, by decide +kernel, by decide +kernel⟩
abbrev st_law : Stmt := top 31
abbrev N_law : List Str := ["_law_script", "_law_draws", "_law_parts", "_law_found", "_law_place", "_law_entry", "_law_draw", "_law_child"]
theorem sc_law : FnScope N_law ["_law_script"] (defScope st_law) := ⟨rfl, rfl, rfl, by decide +kernel, rfl, by decide +kernel, by decide +kernel⟩
def g_NOTHING : D := .tup [.int 0, .int 1]
noncomputable def wc_divisor_1 : SB := sbE (sV (v2 oNe (vN 3) (vC (.int 0))))
noncomputable def wb_divisor_1 : SS := ssSeq (ssSet 4 (sV (v2 oMod (vN 2) (vN 3))))
  (ssSeq (ssSet 2 (sN 3))
  (ssSet 3 (sN 4)))
noncomputable def b_divisor : SS := ssSeq (ssSet 2 (sV (vB bAbs (vaCons (vN 0) (vaNil)))))
  (ssSeq (ssSet 3 (sV (vB bAbs (vaCons (vN 1) (vaNil)))))
  (ssSeq (ssWhile wc_divisor_1 wb_divisor_1)
  (ssRet (sT 2))))
noncomputable def F_divisor : FS := runF 5 2 [] b_divisor
noncomputable def b_fraction : SS := ssSeq (ssIf (sbE (sV (v2 oEq (vN 1) (vC (.int 0))))) (ssRaise "NoShare") (ssNil))
  (ssSeq (ssSet 2 (sCall F_divisor [none, none] (saCons (sN 0) (saCons (sN 1) (saNil)))))
  (ssSeq (ssIf (sbE (sV (v2 oLt (vN 1) (vC (.int 0))))) (ssSet 2 (sV (v2 oSub (vC (.int 0)) (vN 2)))) (ssNil))
  (ssRet (sTup (saCons (sV (v2 oFdiv (vN 0) (vN 2))) (saCons (sV (v2 oFdiv (vN 1) (vN 2))) (saNil)))))))
noncomputable def F_fraction : FS := runF 3 2 [] b_fraction
noncomputable def b_plus : SS := ssRet (sCall F_fraction [none, none] (saCons (sV (v2 oAdd (v2 oMul (vIx (vN 0) (vC (.int 0))) (vIx (vN 1) (vC (.int 1)))) (v2 oMul (vIx (vN 1) (vC (.int 0))) (vIx (vN 0) (vC (.int 1)))))) (saCons (sV (v2 oMul (vIx (vN 0) (vC (.int 1))) (vIx (vN 1) (vC (.int 1))))) (saNil))))
noncomputable def F_plus : FS := runF 2 2 [] b_plus
noncomputable def b_times : SS := ssRet (sCall F_fraction [none, none] (saCons (sV (v2 oMul (vIx (vN 0) (vC (.int 0))) (vIx (vN 1) (vC (.int 0))))) (saCons (sV (v2 oMul (vIx (vN 0) (vC (.int 1))) (vIx (vN 1) (vC (.int 1))))) (saNil))))
noncomputable def F_times : FS := runF 2 2 [] b_times
noncomputable def fg_in_order_1 : SG := sgN 2
noncomputable def fb_in_order_1 : SS := ssIf (sbOr (sbE (s2n oEq 1 (sLst (saNil)))) (sbE (sV (v2 oNe (vIx (vN 1) (vNeg (vC (.int 1)))) (vN 2))))) (ssDrop (sMeth isLst 1 mAppend (saCons (sN 2) (saNil)))) (ssNil)
noncomputable def b_in_order : SS := ssSeq (ssSet 1 (sLst (saNil)))
  (ssSeq (ssFor (siQ (sSortedK rankK (vN 0))) fg_in_order_1 fb_in_order_1)
  (ssRet (sT 1)))
noncomputable def F_in_order : FS := runF 3 1 [] b_in_order
noncomputable def fg_table_1 : SG := sgTup 2 (sgCons (sgN 2) (sgCons (sgN 3) (sgNil)))
noncomputable def fb_table_1 : SS := ssSetD 1 (vN 2) (sCall F_plus [none, none] (saCons (sV (vGet2 (vN 1) (vN 2) (vC g_NOTHING))) (saCons (sN 3) (saNil))))
noncomputable def b_table : SS := ssSeq (ssSet 1 (sDict0))
  (ssSeq (ssForW [0] (iwN 0) fg_table_1 fb_table_1)
  (ssRet (sLc [2] (siQ (sCall F_in_order [none] (saCons (sListD (vN 1)) (saNil)))) (sgN 2) (sbE (sV (v2 oNe (vDx (vN 1) (vN 2)) (vC g_NOTHING)))) (sTup (saCons (sN 2) (saCons (sV (vDx (vN 1) (vN 2))) (saNil)))))))
noncomputable def F_table : FS := runF 4 1 [] b_table
noncomputable def fg_mixed_2 : SG := sgTup 2 (sgCons (sgN 4) (sgCons (sgN 5) (sgNil)))
noncomputable def fb_mixed_2 : SS := ssDrop (sMeth isLst 1 mAppend (saCons (sTup (saCons (sN 4) (saCons (sCall F_times [none, none] (saCons (sN 2) (saCons (sN 5) (saNil)))) (saNil)))) (saNil)))
noncomputable def fg_mixed_1 : SG := sgTup 2 (sgCons (sgN 2) (sgCons (sgN 3) (sgNil)))
noncomputable def fb_mixed_1 : SS := ssForW [3] (iwN 3) fg_mixed_2 fb_mixed_2
noncomputable def b_mixed : SS := ssSeq (ssSet 1 (sLst (saNil)))
  (ssSeq (ssForW [0] (iwN 0) fg_mixed_1 fb_mixed_1)
  (ssRet (sCall F_table [some 1] (saCons (sT 1) (saNil)))))
noncomputable def F_mixed : FS := runF 6 1 [] b_mixed
noncomputable def b_shares_of : SS := ssSeq (ssSet 1 (sB bSum (saCons (sLcW [2, 3] [0] (iwN 0) (sgTup 2 (sgCons (sgN 2) (sgCons (sgN 3) (sgNil)))) sbYes (sN 3)) (saNil))))
  (ssRet (sLcW [2, 3] [0] (iwN 0) (sgTup 2 (sgCons (sgN 2) (sgCons (sgN 3) (sgNil)))) sbYes (sCall F_fraction [none, none] (saCons (sN 3) (saCons (sN 1) (saNil))))))
noncomputable def F_shares_of : FS := runF 4 1 [] b_shares_of
noncomputable def fg_weighed_1 : SG := sgN 3
noncomputable def fb_weighed_1 : SS := ssIf (sbE (sV (v2 oEq (vIx (vN 3) (vC (.int 0))) (vC (.str (Str.ofString "leaf")))))) (ssDrop (sMeth isLst 2 mAppend (saCons (sFz (sLst (saCons (sTup (saCons (sV (vIx (vN 3) (vC (.int 1)))) (saCons (sTup (saCons (sV (vC (.int 1))) (saCons (sV (vC (.int 1))) (saNil)))) (saNil)))) (saNil)))) (saNil)))) (ssSeq (ssSet 4 (sCall F_shares_of [none] (saCons (sV (vIx (vN 1) (vIx (vN 3) (vC (.int 1))))) (saNil))))
  (ssDrop (sMeth isLst 2 mAppend (saCons (sFz (sCall F_mixed [none] (saCons (sLc [5, 6] (siZip (saCons (sN 4) (saCons (sV (vIx (vN 3) (vC (.int 2)))) (saNil)))) (sgTup 2 (sgCons (sgN 5) (sgCons (sgN 6) (sgNil)))) sbYes (sTup (saCons (sN 5) (saCons (sV (vIx (vN 2) (vN 6))) (saNil))))) (saNil)))) (saNil)))))
noncomputable def b_weighed : SS := ssSeq (ssSet 2 (sLst (saNil)))
  (ssSeq (ssForW [0] (iwN 0) fg_weighed_1 fb_weighed_1)
  (ssRet (sT 2)))
noncomputable def F_weighed : FS := runF 7 2 [] b_weighed
noncomputable def b__law_cell_at : SS := ssSeq (ssIf (sbE (sV (v2 oLt (vN 1) (vB bLen (vaCons (vN 0) (vaNil)))))) (ssRet (sV (vIx (vN 0) (vN 1)))) (ssNil))
  (ssRet (sV (vC (.int 0))))
noncomputable def F__law_cell_at : FS := runF 2 2 [] b__law_cell_at
noncomputable def b__law_whole : SS := ssRet (sAndV (sV (vIsi "int" (vN 0))) (sNotV (sV (vIsi "bool" (vN 0)))))
noncomputable def F__law_whole : FS := runF 1 1 [] b__law_whole
noncomputable def b__law_mix : SS := ssSeq (ssSet 2 (sV (v2 oMod (v2 oMul (v2 oAdd (v2 oAdd (v2 oAdd (v2 oMod (vN 0) (vC (.int 2147483647))) (v2 oMul (v2 oMul (vC (.int 7919)) (vN 1)) (vN 1))) (vN 1)) (vC (.int 1))) (vC (.int 48271))) (vC (.int 2147483629)))))
  (ssRet (sV (v2 oMod (v2 oMul (vN 2) (vN 2)) (vC (.int 2147483587)))))
noncomputable def F__law_mix : FS := runF 3 2 [] b__law_mix
noncomputable def fg__law_same_1 (rF : FS) : SG := sgN 2
noncomputable def fb__law_same_1 (rF : FS) : SS := ssIf (sbNot (sbE (sCall rF [none, none] (saCons (sV (vIx (vN 0) (vN 2))) (saCons (sV (vIx (vN 1) (vN 2))) (saNil)))))) (ssRet (sV (vC (.bl false)))) (ssNil)
noncomputable def b__law_same (rF : FS) : SS := ssSeq (ssIf (sbOr (sbE (sV (vIsi "tuple" (vN 1)))) (sbE (sV (vIsi "list" (vN 1))))) (ssSeq (ssIf (sbOr (sbE (sV (v2 oNe (vIsi "tuple" (vN 0)) (vIsi "tuple" (vN 1))))) (sbE (sV (v2 oNe (vIsi "list" (vN 0)) (vIsi "list" (vN 1)))))) (ssRet (sV (vC (.bl false)))) (ssNil))
  (ssSeq (ssIf (sbE (sV (v2 oNe (vB bLen (vaCons (vN 0) (vaNil))) (vB bLen (vaCons (vN 1) (vaNil)))))) (ssRet (sV (vC (.bl false)))) (ssNil))
  (ssSeq (ssFor (siR1 (saCons (sV (vB bLen (vaCons (vN 1) (vaNil)))) (saNil))) (fg__law_same_1 rF) (fb__law_same_1 rF))
  (ssRet (sV (vC (.bl true))))))) (ssNil))
  (ssSeq (ssIf (sbE (sV (v2 oIs (vN 1) (vC .non)))) (ssRet (sV (v2 oIs (vN 0) (vC .non)))) (ssNil))
  (ssSeq (ssIf (sbE (sV (vIsi "int" (vN 1)))) (ssRet (sAndV (sCall F__law_whole [none] (saCons (sN 0) (saNil))) (sV (v2 oEq (vN 0) (vN 1))))) (ssNil))
  (ssRet (sAndV (sV (vIsi "str" (vN 0))) (sV (v2 oEq (vN 0) (vN 1)))))))
noncomputable def F__law_same : Nat → FS
  | 0 => fun _ => .bad
  | n + 1 => runF 3 2 [] (b__law_same (F__law_same n))
noncomputable def wc__law_divisor_1 : SB := sbE (sV (v2 oGt (vN 1) (vC (.int 0))))
noncomputable def wb__law_divisor_1 : SS := ssPar [0, 1] (saCons (sN 1) (saCons (sV (v2 oMod (vN 0) (vN 1))) (saNil)))
noncomputable def b__law_divisor : SS := ssSeq (ssWhile wc__law_divisor_1 wb__law_divisor_1)
  (ssRet (sT 0))
noncomputable def F__law_divisor : FS := runF 2 2 [0, 1] b__law_divisor
noncomputable def b__law_is_share : SS := ssSeq (ssIf (sbOr (sbNot (sbE (sV (vIsi "tuple" (vN 0))))) (sbOr (sbE (sV (v2 oNe (vB bLen (vaCons (vN 0) (vaNil))) (vC (.int 2))))) (sbOr (sbNot (sbE (sCall F__law_whole [none] (saCons (sV (vIx (vN 0) (vC (.int 0)))) (saNil))))) (sbNot (sbE (sCall F__law_whole [none] (saCons (sV (vIx (vN 0) (vC (.int 1)))) (saNil)))))))) (ssRet (sV (vC (.bl false)))) (ssNil))
  (ssRet (sAndV (sV (v2 oGe (vIx (vN 0) (vC (.int 0))) (vC (.int 0)))) (sAndV (sV (v2 oGt (vIx (vN 0) (vC (.int 1))) (vC (.int 0)))) (s2v oEq (sCall F__law_divisor [none, none] (saCons (sV (vIx (vN 0) (vC (.int 0)))) (saCons (sV (vIx (vN 0) (vC (.int 1)))) (saNil)))) (vC (.int 1))))))
noncomputable def F__law_is_share : FS := runF 1 1 [] b__law_is_share
noncomputable def fg__law_chain_draws_2 : SG := sgN 7
noncomputable def fb__law_chain_draws_2 : SS := ssDrop (sMeth isLst 6 mAppend (saCons (sTup (saCons (sV (v2 oAdd (v2 oMod (vN 5) (vC (.int 89))) (v2 oMul (vC (.int 5)) (vN 7)))) (saCons (s2 oAdd (sV (vC (.int 1))) (s2 oMod (sCall F__law_mix [none, none] (saCons (sN 5) (saCons (sN 7) (saNil)))) (s2v oIdx (sLst (saCons (sV (vC (.int 9))) (saCons (sV (v2 oPow (vC (.int 10)) (vC (.int 6)))) (saNil)))) (vN 2)))) (saNil)))) (saNil)))
noncomputable def fg__law_chain_draws_1 : SG := sgN 4
noncomputable def fb__law_chain_draws_1 : SS := ssSeq (ssSet 5 (sCall F__law_mix [none, none] (saCons (sCall F__law_cell_at [none, none] (saCons (sN 0) (saCons (sV (vC (.int 1))) (saNil)))) (saCons (sV (v2 oAdd (vN 4) (vC (.int 30)))) (saNil)))))
  (ssSeq (ssSet 6 (sLst (saNil)))
  (ssSeq (ssFor (siR1 (saCons (sV (v2 oAdd (vC (.int 1)) (v2 oMod (vN 5) (vC (.int 3))))) (saNil))) fg__law_chain_draws_2 fb__law_chain_draws_2)
  (ssDrop (sMeth isLst 3 mAppend (saCons (sN 6) (saNil))))))
noncomputable def b__law_chain_draws : SS := ssSeq (ssSet 1 (sCall F__law_cell_at [none, none] (saCons (sN 0) (saCons (sV (vC (.int 0))) (saNil)))))
  (ssSeq (ssSet 2 (s2 oMod (sCall F__law_mix [none, none] (saCons (sN 1) (saCons (sV (vC (.int 1))) (saNil)))) (sV (vC (.int 2)))))
  (ssSeq (ssSet 3 (sLst (saNil)))
  (ssSeq (ssFor (siR1 (saCons (s2 oAdd (sV (vC (.int 1))) (s2 oMod (sN 1) (s2v oIdx (sLst (saCons (sV (vC (.int 24))) (saCons (sV (vC (.int 12))) (saNil)))) (vN 2)))) (saNil))) fg__law_chain_draws_1 fb__law_chain_draws_1)
  (ssRet (sT 3)))))
noncomputable def F__law_chain_draws : FS := runF 8 1 [] b__law_chain_draws
noncomputable def b__law_site : SS := ssSeq (ssIf (sbE (sV (v2 oEq (vIx (vN 0) (vC (.int 0))) (vC (.str (Str.ofString "leaf")))))) (ssRet (sV (vB bLen (vaCons (vN 1) (vaNil))))) (ssNil))
  (ssRet (sV (vIx (vN 0) (vC (.int 1)))))
noncomputable def F__law_site : FS := runF 2 2 [] b__law_site
noncomputable def fg__law_chain_1 : SG := sgN 4
noncomputable def fb__law_chain_1 : SS := ssSeq (ssSet 5 (sCall F__law_mix [none, none] (saCons (sV (vIx (vN 0) (vN 4))) (saCons (sN 4) (saNil)))))
  (ssSeq (ssIf (sbE (sV (v2 oEq (vN 3) (vC (.int 0))))) (ssSet 3 (sV (vB bLen (vaCons (vN 1) (vaNil))))) (ssNil))
  (ssSeq (ssSet 3 (sB bMax2 (saCons (sV (vC (.int 0))) (saCons (s2 oSub (sN 3) (s2v oIdx (sLst (saCons (sV (vC (.int 1))) (saCons (sV (vC (.int 1))) (saCons (sV (vC (.int 1))) (saCons (sV (vC (.int 2))) (saCons (sV (vC (.int 3))) (saNil))))))) (v2 oMod (vN 5) (vC (.int 5))))) (saNil)))))
  (ssSeq (ssSet 6 (sLc [7] (siR1 (saCons (sV (vB bLen (vaCons (vN 2) (vaNil)))) (saNil))) (sgN 7) (sbE (s2v oGt (sCall F__law_site [none, none] (saCons (sV (vIx (vN 2) (vN 7))) (saCons (sN 1) (saNil)))) (vN 3))) (sN 7)))
  (ssSeq (ssSet 6 (s2m mAdd (sSl (vN 6) (voNo) (voI (vC (.int 2)))) (sSl (vN 6) (voI (vNeg (vC (.int 4)))) (voNo))))
  (ssDrop (sMeth isLst 2 mAppend (saCons (sFz (sTup (saCons (sV (vC (.str (Str.ofString "ask")))) (saCons (sN 3) (saCons (sLc [8] (siR1 (saCons (sV (vB bLen (vaCons (vIx (vN 1) (vN 3)) (vaNil)))) (saNil))) (sgN 8) sbYes (s2n oIdx 6 (s2 oMod (sCall F__law_mix [none, none] (saCons (sN 5) (saCons (sN 8) (saNil)))) (sV (vB bLen (vaCons (vN 6) (vaNil))))))) (saNil)))))) (saNil))))))))
noncomputable def b__law_chain : SS := ssSeq (ssSet 2 (sLst (saCons (sTup (saCons (sV (vC (.str (Str.ofString "leaf")))) (saCons (sV (vC .non)) (saNil)))) (saCons (sTup (saCons (sV (vC (.str (Str.ofString "leaf")))) (saCons (s2 oMod (sCall F__law_cell_at [none, none] (saCons (sN 0) (saCons (sV (vC (.int 0))) (saNil)))) (sV (v2 oPow (vC (.int 10)) (vC (.int 12))))) (saNil)))) (saCons (sTup (saCons (sV (vC (.str (Str.ofString "leaf")))) (saCons (sTup (saCons (sTup (saCons (sV (vC (.str (Str.ofString "a")))) (saCons (sV (vC (.int 0))) (saNil)))) (saNil))) (saNil)))) (saNil))))))
  (ssSeq (ssSet 3 (sV (vB bLen (vaCons (vN 1) (vaNil)))))
  (ssSeq (ssFor (siR2 (saCons (sV (vC (.int 2))) (saCons (sV (vB bMin2 (vaCons (vB bLen (vaCons (vN 0) (vaNil))) (vaCons (vC (.int 64)) vaNil)))) (saNil)))) fg__law_chain_1 fb__law_chain_1)
  (ssRet (sT 2))))
noncomputable def F__law_chain : FS := runF 9 2 [] b__law_chain
noncomputable def b__law_copy : SS := ssRet (sLcW [1] [0] (iwN 0) (sgN 1) sbYes (s2m mAdd (sTup (saCons (sV (vIx (vN 1) (vC (.int 0)))) (saCons (sV (vIx (vN 1) (vC (.int 1)))) (saNil)))) (sTupOf (sLc [2] (siQ (sSl (vN 1) (voI (vC (.int 2))) (voNo))) (sgN 2) sbYes (sListV (vN 2))))))
noncomputable def F__law_copy : FS := runF 3 1 [] b__law_copy
noncomputable def fg__law_share_1 : SG := sgN 2
noncomputable def fb__law_share_1 : SS := ssIf (sbE (sV (v2 oEq (vIx (vN 2) (vC (.int 0))) (vN 1)))) (ssRet (sV (vIx (vN 2) (vC (.int 1))))) (ssNil)
noncomputable def b__law_share : SS := ssSeq (ssForW [0] (iwN 0) fg__law_share_1 fb__law_share_1)
  (ssRet (sTup (saCons (sV (vC (.int 0))) (saCons (sV (vC (.int 1))) (saNil)))))
noncomputable def F__law_share : FS := runF 3 2 [] b__law_share
noncomputable def fg__law_step_good_2 : SG := sgN 8
noncomputable def fb__law_step_good_2 : SS := ssSetD 3 (vIx (vN 8) (vC (.int 0))) (sV (vC (.bl true)))
noncomputable def fg__law_step_good_1 : SG := sgN 4
noncomputable def fb__law_step_good_1 : SS := ssForW [4] (iwN 4) fg__law_step_good_2 fb__law_step_good_2
noncomputable def fg__law_step_good_4 : SG := sgN 11
noncomputable def fb__law_step_good_4 : SS := ssSeq (ssSet 12 (sCall F__law_share [none, none] (saCons (sV (vIx (vN 1) (vN 11))) (saCons (sV (vIx (vN 5) (vN 7))) (saNil)))))
  (ssSeq (ssSet 9 (sV (v2 oAdd (v2 oMul (vN 9) (vIx (vN 12) (vC (.int 1)))) (v2 oMul (v2 oMul (vIx (vIx (vN 2) (vN 11)) (vC (.int 1))) (vIx (vN 12) (vC (.int 0)))) (vN 10)))))
  (ssSet 10 (sV (v2 oMul (vN 10) (vIx (vN 12) (vC (.int 1)))))))
noncomputable def fg__law_step_good_3 : SG := sgN 7
noncomputable def fb__law_step_good_3 : SS := ssSeq (ssSet 8 (sV (vIx (vN 0) (vN 7))))
  (ssSeq (ssIf (sbOr (sbNot (sbE (sV (vIsi "tuple" (vN 8))))) (sbOr (sbE (sV (v2 oNe (vB bLen (vaCons (vN 8) (vaNil))) (vC (.int 2))))) (sbNot (sbE (sCall (F__law_same 60) [none, none] (saCons (sV (vIx (vN 8) (vC (.int 0)))) (saCons (sV (vIx (vN 5) (vN 7))) (saNil)))))))) (ssRet (sV (vC (.bl false)))) (ssNil))
  (ssSeq (ssIf (sbNot (sbE (sCall F__law_is_share [none] (saCons (sV (vIx (vN 8) (vC (.int 1)))) (saNil))))) (ssRet (sV (vC (.bl false)))) (ssNil))
  (ssSeq (ssSet 9 (sV (vC (.int 0))))
  (ssSeq (ssSet 10 (sV (vC (.int 1))))
  (ssSeq (ssFor (siR1 (saCons (sV (vB bLen (vaCons (vN 2) (vaNil)))) (saNil))) fg__law_step_good_4 fb__law_step_good_4)
  (ssIf (sbE (sV (v2 oNe (v2 oMul (vN 9) (vIx (vIx (vN 8) (vC (.int 1))) (vC (.int 1)))) (v2 oMul (v2 oMul (vIx (vIx (vN 8) (vC (.int 1))) (vC (.int 0))) (vN 6)) (vN 10))))) (ssRet (sV (vC (.bl false)))) (ssNil)))))))
noncomputable def b__law_step_good : SS := ssSeq (ssSet 3 (sDict0))
  (ssSeq (ssForW [1] (iwN 1) fg__law_step_good_1 fb__law_step_good_1)
  (ssSeq (ssSet 5 (sSortedKD rankK (vN 3)))
  (ssSeq (ssIf (sbOr (sbNot (sbE (sV (vIsi "list" (vN 0))))) (sbE (sV (v2 oNe (vB bLen (vaCons (vN 0) (vaNil))) (vB bLen (vaCons (vN 5) (vaNil))))))) (ssRet (sV (vC (.bl false)))) (ssNil))
  (ssSeq (ssSet 6 (sB bSum (saCons (sLcW [8] [2] (iwN 2) (sgN 8) sbYes (sV (vIx (vN 8) (vC (.int 1))))) (saNil))))
  (ssSeq (ssFor (siR1 (saCons (sV (vB bLen (vaCons (vN 5) (vaNil)))) (saNil))) fg__law_step_good_3 fb__law_step_good_3)
  (ssRet (sV (vC (.bl true)))))))))
noncomputable def F__law_step_good : FS := runF 13 3 [] b__law_step_good
noncomputable def fg_law_1 : SG := sgN 4
noncomputable def fb_law_1 : SS := ssSeq (ssSet 5 (sV (vIx (vN 2) (vN 4))))
  (ssIf (sbE (sV (v2 oEq (vIx (vN 5) (vC (.int 0))) (vC (.str (Str.ofString "leaf")))))) (ssIf (sbNot (sbE (sCall (F__law_same 60) [none, none] (saCons (sV (vIx (vN 3) (vN 4))) (saCons (sFz (sLst (saCons (sTup (saCons (sV (vIx (vN 5) (vC (.int 1)))) (saCons (sTup (saCons (sV (vC (.int 1))) (saCons (sV (vC (.int 1))) (saNil)))) (saNil)))) (saNil)))) (saNil)))))) (ssRet (sV (vC (.bl false)))) (ssNil)) (ssIf (sbNot (sbE (sCall F__law_step_good [none, none, none] (saCons (sV (vIx (vN 3) (vN 4))) (saCons (sLc [7] (siQ (sV (vIx (vN 5) (vC (.int 2))))) (sgN 7) sbYes (sV (vIx (vN 3) (vN 7)))) (saCons (sV (vIx (vN 1) (vIx (vN 5) (vC (.int 1))))) (saNil))))))) (ssRet (sV (vC (.bl false)))) (ssNil)))
noncomputable def b_law : SS := ssSeq (ssSet 1 (sCall F__law_chain_draws [none] (saCons (sN 0) (saNil))))
  (ssSeq (ssSet 2 (sCall F__law_chain [none, none] (saCons (sN 0) (saCons (sN 1) (saNil)))))
  (ssSeq (ssSet 3 (sCall F_weighed [none, none] (saCons (sFz (sCall F__law_copy [none] (saCons (sN 2) (saNil)))) (saCons (sFz (sLcW [6] [1] (iwN 1) (sgN 6) sbYes (sListV (vN 6)))) (saNil)))))
  (ssSeq (ssIf (sbOr (sbNot (sbE (sV (vIsi "list" (vN 3))))) (sbE (sV (v2 oNe (vB bLen (vaCons (vN 3) (vaNil))) (vB bLen (vaCons (vN 2) (vaNil))))))) (ssRet (sV (vC (.bl false)))) (ssNil))
  (ssSeq (ssFor (siR1 (saCons (sV (vB bLen (vaCons (vN 2) (vaNil)))) (saNil))) fg_law_1 fb_law_1)
  (ssRet (sV (vC (.bl true))))))))
noncomputable def F_law : FS := runF 8 1 [] b_law
structure ExcG (G : Gx) (mg : Str → Option Value) (nm : String) (x : Str) : Prop where
  gC : mg x = some (.ref (G.ad nm))
  xP : PySem.W.excIn G.K (G.ad nm) [.type "ValueError", .type "Exception", .type "BaseException", .type "object"] "ValueError.__new__" = true
  kP : PySem.W.keepIn G.K (.ref (G.ad nm)) = true
  bP : PySem.W.subIn G.K (.ref (G.ad nm)) (.type "BaseException") = some true
  tP : PySem.W.typeIn G.K (.ref (G.ad nm)) = some (.type "type")
theorem ExcG.at {G : Gx} {X : Cx} {nm : String} {x : Str} (h : ExcG G X.mg nm x) (hK : G.K = X.K := by rfl) : ExcA G X nm x := by
  obtain ⟨h1, h2, h3, h4, h5⟩ := h
  rw [hK] at h2 h3 h4 h5
  exact ⟨h1, h2, h3, h4, h5⟩
structure Tx (G : Gx) (mg : Str → Option Value) : Prop where
  z_len : mg "len" = none
  z_abs : mg "abs" = none
  z_bool : mg "bool" = none
  z_int : mg "int" = none
  z_isinstance : mg "isinstance" = none
  z_list : mg "list" = none
  z_max : mg "max" = none
  z_min : mg "min" = none
  z_range : mg "range" = none
  z_sorted : mg "sorted" = none
  z_str : mg "str" = none
  z_sum : mg "sum" = none
  z_tuple : mg "tuple" = none
  z_zip : mg "zip" = none
  e_NoShare : ExcG G mg "NoShare" "NoShare"
  g_NOTHING : ∃ u v, mg "NOTHING" = some u ∧ RelV v u ∧ ∀ Z, RepD G Z g_NOTHING v
theorem a_divisor {P : Program} {G : Gx} {mg : Str → Option Value} {base : Heap} {f : Addr} {fd : FuncData} (T : Tx G mg) (Ff : Fun G.K "divisor" "divisor" st_divisor f fd) (hm : mg "divisor" = some (.ref f)) : FnA P G.w G mg base 1 "divisor" 2 F_divisor :=
  fnA_mk [] Ff hm (Ff.binds (ps := ["one", "other"]) (fun _ _ _ _ _ _ us hl => match us, hl with | [_, _], _ => rfl)) sc_divisor rfl fun cdv A outer s H E hr tk hp =>
  xs_cons (xs_set 2 sc_divisor.nd (xe_v (xv_bi bop_abs call_abs T.z_abs (by decide +kernel) (xva_cons (xv_name 0) (xva_nil)))))
  (xs_cons (xs_set 3 sc_divisor.nd (xe_v (xv_bi bop_abs call_abs T.z_abs (by decide +kernel) (xva_cons (xv_name 1) (xva_nil)))))
  (xs_cons (xs_while hp (xb_cmpv (op_neP hr.units) vop_ne (xv_name 3) (xv_int) (nomark _)) (xs_cons (xs_set 4 sc_divisor.nd (xe_v (xv_op op_modG vop_mod (xv_name 2) (xv_name 3))))
  (xs_cons (xs_set 2 sc_divisor.nd (xe_name 3))
  (xs_one (xs_set 3 sc_divisor.nd (xe_name 4))))))
  (xs_one (xs_ret (xe_take 2)))))
theorem a_fraction {P : Program} {G : Gx} {mg : Str → Option Value} {base : Heap} {f : Addr} {fd : FuncData} (T : Tx G mg) (h_divisor : FnA P G.w G mg base 1 "divisor" 2 F_divisor) (Ff : Fun G.K "fraction" "fraction" st_fraction f fd) (hm : mg "fraction" = some (.ref f)) : FnA P G.w G mg base 2 "fraction" 2 F_fraction :=
  fnA_mk [] Ff hm (Ff.binds (ps := ["top", "bottom"]) (fun _ _ _ _ _ _ us hl => match us, hl with | [_, _], _ => rfl)) sc_fraction rfl fun cdv A outer s H E hr tk hp =>
  xs_cons (xs_if (xb_cmpv (op_eqP hr.units) vop_eq (xv_name 1) (xv_int) (nomark _)) (xs_one (xs_raise "NoShare" (T.e_NoShare.at) rfl tk)) (xs_nil))
  (xs_cons (xs_set 2 sc_fraction.nd (xe_call' h_divisor rfl hr (by decide) tk (xa_cons (xe_name 0) (xa_cons (xe_name 1) (xa_nil))) (saCons_len (saCons_len saNil_len))))
  (xs_cons (xs_if (xb_cmpv opr_lt vop_lt (xv_name 1) (xv_int) (nomark _)) (xs_one (xs_set 2 sc_fraction.nd (xe_v (xv_op op_sub vop_sub (xv_int) (xv_name 2))))) (xs_nil))
  (xs_one (xs_ret (xe_tup (xa_cons (xe_v (xv_op op_fdivG vop_fdiv (xv_name 0) (xv_name 2))) (xa_cons (xe_v (xv_op op_fdivG vop_fdiv (xv_name 1) (xv_name 2))) (xa_nil))))))))
theorem a_plus {P : Program} {G : Gx} {mg : Str → Option Value} {base : Heap} {f : Addr} {fd : FuncData} (T : Tx G mg) (h_fraction : FnA P G.w G mg base 2 "fraction" 2 F_fraction) (Ff : Fun G.K "plus" "plus" st_plus f fd) (hm : mg "plus" = some (.ref f)) : FnA P G.w G mg base 3 "plus" 2 F_plus :=
  fnA_mk [] Ff hm (Ff.binds (ps := ["one", "other"]) (fun _ _ _ _ _ _ us hl => match us, hl with | [_, _], _ => rfl)) sc_plus rfl fun cdv A outer s H E hr tk hp =>
  xs_one (xs_ret (xe_call' h_fraction rfl hr (by decide) tk (xa_cons (xe_v (xv_op opr_add vop_add (xv_op opr_mul vop_mul (xv_ix rfl (xv_name 0) (xv_int)) (xv_ix rfl (xv_name 1) (xv_int))) (xv_op opr_mul vop_mul (xv_ix rfl (xv_name 1) (xv_int)) (xv_ix rfl (xv_name 0) (xv_int))))) (xa_cons (xe_v (xv_op opr_mul vop_mul (xv_ix rfl (xv_name 0) (xv_int)) (xv_ix rfl (xv_name 1) (xv_int)))) (xa_nil))) (saCons_len (saCons_len saNil_len))))
theorem a_times {P : Program} {G : Gx} {mg : Str → Option Value} {base : Heap} {f : Addr} {fd : FuncData} (T : Tx G mg) (h_fraction : FnA P G.w G mg base 2 "fraction" 2 F_fraction) (Ff : Fun G.K "times" "times" st_times f fd) (hm : mg "times" = some (.ref f)) : FnA P G.w G mg base 3 "times" 2 F_times :=
  fnA_mk [] Ff hm (Ff.binds (ps := ["one", "other"]) (fun _ _ _ _ _ _ us hl => match us, hl with | [_, _], _ => rfl)) sc_times rfl fun cdv A outer s H E hr tk hp =>
  xs_one (xs_ret (xe_call' h_fraction rfl hr (by decide) tk (xa_cons (xe_v (xv_op opr_mul vop_mul (xv_ix rfl (xv_name 0) (xv_int)) (xv_ix rfl (xv_name 1) (xv_int)))) (xa_cons (xe_v (xv_op opr_mul vop_mul (xv_ix rfl (xv_name 0) (xv_int)) (xv_ix rfl (xv_name 1) (xv_int)))) (xa_nil))) (saCons_len (saCons_len saNil_len))))
theorem k_rank {P : Program} {G : Gx} {mg : Str → Option Value} {base : Heap} {f : Addr} {fd : FuncData} (T : Tx G mg) (Ff : Fun G.K "rank" "rank" st_rank f fd) (hm : mg "rank" = some (.ref f)) : KeyA P G.w G mg base 1 "rank" rankK := by
  refine ⟨f, key_fn (k := 0) (px := "outcome") Ff sc_rank rfl (Ff.binds (ps := ["outcome"]) (fun _ _ _ _ _ _ us hl => match us, hl with | [_], _ => rfl)) fun cd A s s1 u d key hk ok hr hmm => ?_, hm⟩
  have nn : ∀ {d : PyData}, d ≠ .none → ∀ h u, Reads h u d [] → (u == Value.none) = false := fun hd h u r => by cases r <;> first | rfl | exact absurd rfl hd
  cases d with
  | none =>
    cases hk
    exact kss_yes (kt_isN (ke_var ok rfl hmm hr) (fun h u r => by cases r; rfl)) (kss_ret (ke_tup (ka_cons ke_int (ka_cons ke_int (ka_cons (ke_tup ka_nil (by decide)) ka_nil rfl) rfl) rfl) (by decide)))
  | int i =>
    cases hk
    exact kss_no (kt_isN (ke_var ok rfl hmm hr) (nn (fun z => nomatch z))) (kss_yes (kt_int ok (ke_var ok rfl hmm hr) (.inl ⟨_, rfl, rfl⟩) T.z_isinstance T.z_int) (kss_ret (ke_tup (ka_cons ke_int (ka_cons (ke_var ok rfl hmm hr) (ka_cons (ke_tup ka_nil (by decide)) ka_nil rfl) rfl) rfl) (by simp))))
  | tuple xs =>
    cases hk
    exact kss_no (kt_isN (ke_var ok rfl hmm hr) (nn (fun z => nomatch z))) (kss_no (kt_int ok (ke_var ok rfl hmm hr) (.inr ⟨_, rfl, rfl⟩) T.z_isinstance T.z_int) (kss_ret (ke_tup (ka_cons ke_int (ka_cons ke_int (ka_cons (ke_var ok rfl hmm hr) ka_nil rfl) rfl) rfl) (by simp))))
  | _ => cases hk
theorem a_in_order {P : Program} {G : Gx} {mg : Str → Option Value} {base : Heap} {f : Addr} {fd : FuncData} (T : Tx G mg) (k_rank : KeyA P G.w G mg base 1 "rank" rankK) (Ff : Fun G.K "in_order" "in_order" st_in_order f fd) (hm : mg "in_order" = some (.ref f)) : FnA P G.w G mg base 4 "in_order" 1 F_in_order :=
  fnA_mk [] Ff hm (Ff.binds (ps := ["outcomes"]) (fun _ _ _ _ _ _ us hl => match us, hl with | [_], _ => rfl)) sc_in_order rfl fun cdv A outer s H E hr tk hp =>
  xs_cons (xs_set 1 sc_in_order.nd (xe_lst (xa_nil)))
  (xs_cons (xs_for hp rfl (xi_q rfl (xe_sortedK k_rank hr (by decide) rfl T.z_sorted (xv_name 0))) (xg_name 2 sc_in_order.nd) (xs_one (xs_if ((xw_or (xb_cmpN 1 (op_eqP hr.units) vop_eq (xe_lst (xa_nil)) (nomark _)) (xw_or1 (xb_cmpv (op_neP hr.units) vop_ne (xv_ix rfl (xv_name 1) (xv_neg (xv_int))) (xv_name 2) (nomark _)))).pb) (xs_one (xs_expr (xe_meth 1 rfl F.plainAttrs_list F.slot_list_append F.type_list_append mt_append mm_append ty_lst (xa_cons (xe_name 2) (xa_nil))))) (xs_nil))))
  (xs_one (xs_ret (xe_take 1))))
theorem a_table {P : Program} {G : Gx} {mg : Str → Option Value} {base : Heap} {f : Addr} {fd : FuncData} (T : Tx G mg) (h_in_order : FnA P G.w G mg base 4 "in_order" 1 F_in_order) (h_plus : FnA P G.w G mg base 3 "plus" 2 F_plus) (Ff : Fun G.K "table" "table" st_table f fd) (hm : mg "table" = some (.ref f)) : FnA P G.w G mg base 5 "table" 1 F_table :=
  fnA_mk [] Ff hm (Ff.binds (ps := ["pairs"]) (fun _ _ _ _ _ _ us hl => match us, hl with | [_], _ => rfl)) sc_table rfl fun cdv A outer s H E hr tk hp =>
  xs_cons (xs_set 1 sc_table.nd (xe_dict0 rfl))
  (xs_cons (xs_forW hp rfl (xw_name 0 rfl) (xg_tup rfl rfl (xgs_cons (xg_name 2 sc_table.nd) (xgs_cons (xg_name 3 sc_table.nd) (xgs_nil)))) (xs_one (xs_setD 1 hr.units rfl rfl (xv_name 2) (xe_call' h_plus rfl hr (by decide) tk (xa_cons (xe_v (xv_get2 hr.units rfl rfl (xv_name 1) (xv_name 2) (xv_glob T.g_NOTHING))) (xa_cons (xe_name 3) (xa_nil))) (saCons_len (saCons_len saNil_len))))))
  (xs_one (xs_ret (xe_lcIf (own := [("outcome", 2)]) rfl sc_table.nd (blkOk_by (own := [("outcome", 2)]) (N := N_table) (sc := defScope st_table) (by decide +kernel)) (xi_q rfl (xe_call' h_in_order rfl hr (by decide) tk (xa_cons (xe_listD rfl rfl rfl T.z_list (xv_name 1)) (xa_nil)) (saCons_len saNil_len))) (fun _ _ _ _ _ => xg_name 2 sc_table.nd) (fun _ _ _ _ _ => xb_cmpv (op_neP hr.units) vop_ne (xv_dx hr.units rfl rfl (xv_name 1) (xv_name 2)) (xv_glob T.g_NOTHING) (nomark _)) (fun _ _ _ _ _ => xe_tup (xa_cons (xe_name 2) (xa_cons (xe_v (xv_dx hr.units rfl rfl (xv_name 1) (xv_name 2))) (xa_nil))))))))
theorem a_mixed {P : Program} {G : Gx} {mg : Str → Option Value} {base : Heap} {f : Addr} {fd : FuncData} (T : Tx G mg) (h_table : FnA P G.w G mg base 5 "table" 1 F_table) (h_times : FnA P G.w G mg base 3 "times" 2 F_times) (Ff : Fun G.K "mixed" "mixed" st_mixed f fd) (hm : mg "mixed" = some (.ref f)) : FnA P G.w G mg base 6 "mixed" 1 F_mixed :=
  fnA_mk [] Ff hm (Ff.binds (ps := ["parts"]) (fun _ _ _ _ _ _ us hl => match us, hl with | [_], _ => rfl)) sc_mixed rfl fun cdv A outer s H E hr tk hp =>
  xs_cons (xs_set 1 sc_mixed.nd (xe_lst (xa_nil)))
  (xs_cons (xs_forW hp rfl (xw_name 0 rfl) (xg_tup rfl rfl (xgs_cons (xg_name 2 sc_mixed.nd) (xgs_cons (xg_name 3 sc_mixed.nd) (xgs_nil)))) (xs_one (xs_forW hp rfl (xw_name 3 rfl) (xg_tup rfl rfl (xgs_cons (xg_name 4 sc_mixed.nd) (xgs_cons (xg_name 5 sc_mixed.nd) (xgs_nil)))) (xs_one (xs_expr (xe_meth 1 rfl F.plainAttrs_list F.slot_list_append F.type_list_append mt_append mm_append ty_lst (xa_cons (xe_tup (xa_cons (xe_name 4) (xa_cons (xe_call' h_times rfl hr (by decide) tk (xa_cons (xe_name 2) (xa_cons (xe_name 5) (xa_nil))) (saCons_len (saCons_len saNil_len))) (xa_nil)))) (xa_nil))))))))
  (xs_one (xs_ret (xe_call' h_table rfl hr (by decide) tk (xa_lend 1 (xa_nil)) (saCons_len saNil_len)))))
theorem a_shares_of {P : Program} {G : Gx} {mg : Str → Option Value} {base : Heap} {f : Addr} {fd : FuncData} (T : Tx G mg) (h_fraction : FnA P G.w G mg base 2 "fraction" 2 F_fraction) (Ff : Fun G.K "shares_of" "shares_of" st_shares_of f fd) (hm : mg "shares_of" = some (.ref f)) : FnA P G.w G mg base 3 "shares_of" 1 F_shares_of :=
  fnA_mk [] Ff hm (Ff.binds (ps := ["draw"]) (fun _ _ _ _ _ _ us hl => match us, hl with | [_], _ => rfl)) sc_shares_of rfl fun cdv A outer s H E hr tk hp =>
  xs_cons (xs_set 1 sc_shares_of.nd (xe_bi bop_sum (cr_sum rfl) T.z_sum (by decide +kernel) (xa_cons (xe_lcW (own := [("number", 2), ("weight", 3)]) rfl sc_shares_of.nd (blkOk_by (own := [("number", 2), ("weight", 3)]) (N := N_shares_of) (sc := defScope st_shares_of) (by decide +kernel)) (xw_name 0 rfl) (fun _ _ _ _ _ => xg_tup rfl rfl (xgs_cons (xg_name 2 sc_shares_of.nd) (xgs_cons (xg_name 3 sc_shares_of.nd) (xgs_nil)))) (fun _ _ _ _ _ => xe_name 3)) (xa_nil))))
  (xs_one (xs_ret (xe_lcW (own := [("number", 2), ("weight", 3)]) rfl sc_shares_of.nd (blkOk_by (own := [("number", 2), ("weight", 3)]) (N := N_shares_of) (sc := defScope st_shares_of) (by decide +kernel)) (xw_name 0 rfl) (fun _ _ _ _ _ => xg_tup rfl rfl (xgs_cons (xg_name 2 sc_shares_of.nd) (xgs_cons (xg_name 3 sc_shares_of.nd) (xgs_nil)))) (fun _ _ _ _ _ => xe_call' h_fraction rfl hr (by decide) takes0 (xa_cons (xe_name 3) (xa_cons (xe_name 1) (xa_nil))) (saCons_len (saCons_len saNil_len))))))
theorem a_weighed {P : Program} {G : Gx} {mg : Str → Option Value} {base : Heap} {f : Addr} {fd : FuncData} (T : Tx G mg) (h_mixed : FnA P G.w G mg base 6 "mixed" 1 F_mixed) (h_shares_of : FnA P G.w G mg base 3 "shares_of" 1 F_shares_of) (Ff : Fun G.K "weighed" "weighed" st_weighed f fd) (hm : mg "weighed" = some (.ref f)) : FnA P G.w G mg base 7 "weighed" 2 F_weighed :=
  fnA_mk [] Ff hm (Ff.binds (ps := ["parts", "draws"]) (fun _ _ _ _ _ _ us hl => match us, hl with | [_, _], _ => rfl)) sc_weighed rfl fun cdv A outer s H E hr tk hp =>
  xs_cons (xs_set 2 sc_weighed.nd (xe_lst (xa_nil)))
  (xs_cons (xs_forW hp rfl (xw_name 0 rfl) (xg_name 3 sc_weighed.nd) (xs_one (xs_if (xb_cmpv (op_eqP hr.units) vop_eq (xv_ix rfl (xv_name 3) (xv_int)) (xv_str) (nomark _)) (xs_one (xs_expr (xe_meth 2 rfl F.plainAttrs_list F.slot_list_append F.type_list_append mt_append mm_append ty_lst (xa_cons (xe_fz (xe_lst (xa_cons (xe_tup (xa_cons (xe_v (xv_ix rfl (xv_name 3) (xv_int))) (xa_cons (xe_tup (xa_cons (xe_v (xv_int)) (xa_cons (xe_v (xv_int)) (xa_nil)))) (xa_nil)))) (xa_nil)))) (xa_nil))))) (xs_cons (xs_set 4 sc_weighed.nd (xe_call' h_shares_of rfl hr (by decide) tk (xa_cons (xe_v (xv_ix rfl (xv_name 1) (xv_ix rfl (xv_name 3) (xv_int)))) (xa_nil)) (saCons_len saNil_len)))
  (xs_one (xs_expr (xe_meth 2 rfl F.plainAttrs_list F.slot_list_append F.type_list_append mt_append mm_append ty_lst (xa_cons (xe_fz (xe_call' h_mixed rfl hr (by decide) tk (xa_cons (xe_lc (own := [("share", 5), ("child", 6)]) rfl sc_weighed.nd (blkOk_by (own := [("share", 5), ("child", 6)]) (N := N_weighed) (sc := defScope st_weighed) (by decide +kernel)) (xi_zip rfl T.z_zip (xa_cons (xe_name 4) (xa_cons (xe_v (xv_ix rfl (xv_name 3) (xv_int))) (xa_nil)))) (fun _ _ _ _ _ => xg_tup rfl rfl (xgs_cons (xg_name 5 sc_weighed.nd) (xgs_cons (xg_name 6 sc_weighed.nd) (xgs_nil)))) (fun _ _ _ _ _ => xe_tup (xa_cons (xe_name 5) (xa_cons (xe_v (xv_ix rfl (xv_name 2) (xv_name 6))) (xa_nil))))) (xa_nil)) (saCons_len saNil_len))) (xa_nil)))))))))
  (xs_one (xs_ret (xe_take 2))))
theorem a__law_cell_at {P : Program} {G : Gx} {mg : Str → Option Value} {base : Heap} {f : Addr} {fd : FuncData} (T : Tx G mg) (Ff : Fun G.K "_law_cell_at" "_law_cell_at" st__law_cell_at f fd) (hm : mg "_law_cell_at" = some (.ref f)) : FnA P G.w G mg base 1 "_law_cell_at" 2 F__law_cell_at :=
  fnA_mk [] Ff hm (Ff.binds (ps := ["_law_script", "_law_k"]) (fun _ _ _ _ _ _ us hl => match us, hl with | [_, _], _ => rfl)) sc__law_cell_at rfl fun cdv A outer s H E hr tk hp =>
  xs_cons (xs_if (xb_cmpv opr_lt vop_lt (xv_name 1) (xv_bi bop_len call_len T.z_len (by decide +kernel) (xva_cons (xv_name 0) (xva_nil))) (nomark _)) (xs_one (xs_ret (xe_v (xv_ix rfl (xv_name 0) (xv_name 1))))) (xs_nil))
  (xs_one (xs_ret (xe_v (xv_int))))
theorem a__law_whole {P : Program} {G : Gx} {mg : Str → Option Value} {base : Heap} {f : Addr} {fd : FuncData} (T : Tx G mg) (Ff : Fun G.K "_law_whole" "_law_whole" st__law_whole f fd) (hm : mg "_law_whole" = some (.ref f)) : FnA P G.w G mg base 1 "_law_whole" 1 F__law_whole :=
  fnA_mk [] Ff hm (Ff.binds (ps := ["_law_found"]) (fun _ _ _ _ _ _ us hl => match us, hl with | [_], _ => rfl)) sc__law_whole rfl fun cdv A outer s H E hr tk hp =>
  xs_one (xs_ret (xe_and (xe_v (xv_isi "int" rfl T.z_isinstance T.z_int (xv_name 0) (by decide +kernel))) (xe_one (xe_not (xe_v (xv_isi "bool" rfl T.z_isinstance T.z_bool (xv_name 0) (by decide +kernel)))))))
theorem a__law_mix {P : Program} {G : Gx} {mg : Str → Option Value} {base : Heap} {f : Addr} {fd : FuncData} (T : Tx G mg) (Ff : Fun G.K "_law_mix" "_law_mix" st__law_mix f fd) (hm : mg "_law_mix" = some (.ref f)) : FnA P G.w G mg base 1 "_law_mix" 2 F__law_mix :=
  fnA_mk [] Ff hm (Ff.binds (ps := ["_law_cell", "_law_k"]) (fun _ _ _ _ _ _ us hl => match us, hl with | [_, _], _ => rfl)) sc__law_mix rfl fun cdv A outer s H E hr tk hp =>
  xs_cons (xs_set 2 sc__law_mix.nd (xe_v (xv_op op_modG vop_mod (xv_op opr_mul vop_mul (xv_op opr_add vop_add (xv_op opr_add vop_add (xv_op opr_add vop_add (xv_op op_modG vop_mod (xv_name 0) (xv_int)) (xv_op opr_mul vop_mul (xv_op opr_mul vop_mul (xv_int) (xv_name 1)) (xv_name 1))) (xv_name 1)) (xv_int)) (xv_int)) (xv_int))))
  (xs_one (xs_ret (xe_v (xv_op op_modG vop_mod (xv_op opr_mul vop_mul (xv_name 2) (xv_name 2)) (xv_int)))))
theorem a__law_same {P : Program} {G : Gx} {mg : Str → Option Value} {base : Heap} {f : Addr} {fd : FuncData} (T : Tx G mg) (h__law_whole : FnA P G.w G mg base 1 "_law_whole" 1 F__law_whole) (Ff : Fun G.K "_law_same" "_law_same" st__law_same f fd) (hm : mg "_law_same" = some (.ref f)) : ∀ n : Nat, FnA P G.w G mg base (1 + n) "_law_same" 2 (F__law_same n) := by
  intro n
  induction n with
  | zero => exact fnA_bad Ff hm (Ff.binds (ps := ["_law_found", "_law_due"]) (fun _ _ _ _ _ _ us hl => match us, hl with | [_, _], _ => rfl)) sc__law_same rfl (by decide)
  | succ n h__law_same =>
    show FnA P G.w G mg base ((1 + n) + 1) "_law_same" 2 (runF 3 2 [] (b__law_same (F__law_same n)))
    exact fnA_mk [] Ff hm (Ff.binds (ps := ["_law_found", "_law_due"]) (fun _ _ _ _ _ _ us hl => match us, hl with | [_, _], _ => rfl)) sc__law_same rfl fun cdv A outer s H E hr tk hp =>
  (xs_cons (xs_if ((xw_or (xb_e (xe_v (xv_isi "tuple" rfl T.z_isinstance T.z_tuple (xv_name 1) (by decide +kernel)))) (xw_or1 (xb_e (xe_v (xv_isi "list" rfl T.z_isinstance T.z_list (xv_name 1) (by decide +kernel)))))).pb) (xs_cons (xs_if ((xw_or (xb_cmpv (op_neP hr.units) vop_ne (xv_isi "tuple" rfl T.z_isinstance T.z_tuple (xv_name 0) (by decide +kernel)) (xv_isi "tuple" rfl T.z_isinstance T.z_tuple (xv_name 1) (by decide +kernel)) (nomark _)) (xw_or1 (xb_cmpv (op_neP hr.units) vop_ne (xv_isi "list" rfl T.z_isinstance T.z_list (xv_name 0) (by decide +kernel)) (xv_isi "list" rfl T.z_isinstance T.z_list (xv_name 1) (by decide +kernel)) (nomark _)))).pb) (xs_one (xs_ret (xe_v (xv_bl)))) (xs_nil))
  (xs_cons (xs_if (xb_cmpv (op_neP hr.units) vop_ne (xv_bi bop_len call_len T.z_len (by decide +kernel) (xva_cons (xv_name 0) (xva_nil))) (xv_bi bop_len call_len T.z_len (by decide +kernel) (xva_cons (xv_name 1) (xva_nil))) (nomark _)) (xs_one (xs_ret (xe_v (xv_bl)))) (xs_nil))
  (xs_cons (xs_for hp rfl (xi_range1 T.z_range (xa_cons (xe_v (xv_bi bop_len call_len T.z_len (by decide +kernel) (xva_cons (xv_name 1) (xva_nil)))) (xa_nil))) (xg_name 2 sc__law_same.nd) (xs_one (xs_if (xb_not (xb_e (xe_call' h__law_same rfl hr (by omega) tk (xa_cons (xe_v (xv_ix rfl (xv_name 0) (xv_name 2))) (xa_cons (xe_v (xv_ix rfl (xv_name 1) (xv_name 2))) (xa_nil))) (saCons_len (saCons_len saNil_len))))) (xs_one (xs_ret (xe_v (xv_bl)))) (xs_nil))))
  (xs_one (xs_ret (xe_v (xv_bl))))))) (xs_nil))
  (xs_cons (xs_if (xb_cmpv opr_is vop_is (xv_name 1) (xv_non) (nomark _)) (xs_one (xs_ret (xe_v (xv_cmp opr_is vop_is (xv_name 0) (xv_non) (nomark _))))) (xs_nil))
  (xs_cons (xs_if (xb_e (xe_v (xv_isi "int" rfl T.z_isinstance T.z_int (xv_name 1) (by decide +kernel)))) (xs_one (xs_ret (xe_and (xe_call' h__law_whole rfl hr (by omega) tk (xa_cons (xe_name 0) (xa_nil)) (saCons_len saNil_len)) (xe_one (xe_v (xv_cmp (op_eqP hr.units) vop_eq (xv_name 0) (xv_name 1) (nomark _))))))) (xs_nil))
  (xs_one (xs_ret (xe_and (xe_v (xv_isi "str" rfl T.z_isinstance T.z_str (xv_name 0) (by decide +kernel))) (xe_one (xe_v (xv_cmp (op_eqP hr.units) vop_eq (xv_name 0) (xv_name 1) (nomark _))))))))))
theorem a__law_divisor {P : Program} {G : Gx} {mg : Str → Option Value} {base : Heap} {f : Addr} {fd : FuncData} (T : Tx G mg) (Ff : Fun G.K "_law_divisor" "_law_divisor" st__law_divisor f fd) (hm : mg "_law_divisor" = some (.ref f)) : FnA P G.w G mg base 1 "_law_divisor" 2 F__law_divisor :=
  fnA_mk [0, 1] Ff hm (Ff.binds (ps := ["_law_one", "_law_other"]) (fun _ _ _ _ _ _ us hl => match us, hl with | [_, _], _ => rfl)) sc__law_divisor rfl fun cdv A outer s H E hr tk hp =>
  xs_cons (xs_while hp (xb_cmpv opr_gt vop_gt (xv_name 1) (xv_int) (nomark _)) (xs_one (xs_par2 0 1 rfl sc__law_divisor.nd (xa_cons (xe_name 1) (xa_cons (xe_v (xv_op op_modG vop_mod (xv_name 0) (xv_name 1))) (xa_nil))) (by with_unfolding_all rfl))))
  (xs_one (xs_ret (xe_take 0)))
theorem a__law_is_share {P : Program} {G : Gx} {mg : Str → Option Value} {base : Heap} {f : Addr} {fd : FuncData} (T : Tx G mg) (h__law_divisor : FnA P G.w G mg base 1 "_law_divisor" 2 F__law_divisor) (h__law_whole : FnA P G.w G mg base 1 "_law_whole" 1 F__law_whole) (Ff : Fun G.K "_law_is_share" "_law_is_share" st__law_is_share f fd) (hm : mg "_law_is_share" = some (.ref f)) : FnA P G.w G mg base 2 "_law_is_share" 1 F__law_is_share :=
  fnA_mk [] Ff hm (Ff.binds (ps := ["_law_found"]) (fun _ _ _ _ _ _ us hl => match us, hl with | [_], _ => rfl)) sc__law_is_share rfl fun cdv A outer s H E hr tk hp =>
  xs_cons (xs_if ((xw_or (xb_not (xb_e (xe_v (xv_isi "tuple" rfl T.z_isinstance T.z_tuple (xv_name 0) (by decide +kernel))))) (xw_or (xb_cmpv (op_neP hr.units) vop_ne (xv_bi bop_len call_len T.z_len (by decide +kernel) (xva_cons (xv_name 0) (xva_nil))) (xv_int) (nomark _)) (xw_or (xb_not (xb_e (xe_call' h__law_whole rfl hr (by decide) tk (xa_cons (xe_v (xv_ix rfl (xv_name 0) (xv_int))) (xa_nil)) (saCons_len saNil_len)))) (xw_or1 (xb_not (xb_e (xe_call' h__law_whole rfl hr (by decide) tk (xa_cons (xe_v (xv_ix rfl (xv_name 0) (xv_int))) (xa_nil)) (saCons_len saNil_len)))))))).pb) (xs_one (xs_ret (xe_v (xv_bl)))) (xs_nil))
  (xs_one (xs_ret (xe_and (xe_v (xv_cmp opr_ge vop_ge (xv_ix rfl (xv_name 0) (xv_int)) (xv_int) (nomark _))) (xe_and (xe_v (xv_cmp opr_gt vop_gt (xv_ix rfl (xv_name 0) (xv_int)) (xv_int) (nomark _))) (xe_one (xe_cmpV (op_eqP hr.units) vop_eq (xe_call' h__law_divisor rfl hr (by decide) tk (xa_cons (xe_v (xv_ix rfl (xv_name 0) (xv_int))) (xa_cons (xe_v (xv_ix rfl (xv_name 0) (xv_int))) (xa_nil))) (saCons_len (saCons_len saNil_len))) (xv_int) (nomark _)))))))
theorem k__law_rank {P : Program} {G : Gx} {mg : Str → Option Value} {base : Heap} {f : Addr} {fd : FuncData} (T : Tx G mg) (Ff : Fun G.K "_law_rank" "_law_rank" st__law_rank f fd) (hm : mg "_law_rank" = some (.ref f)) : KeyA P G.w G mg base 1 "_law_rank" rankK := by
  refine ⟨f, key_fn (k := 0) (px := "_law_outcome") Ff sc__law_rank rfl (Ff.binds (ps := ["_law_outcome"]) (fun _ _ _ _ _ _ us hl => match us, hl with | [_], _ => rfl)) fun cd A s s1 u d key hk ok hr hmm => ?_, hm⟩
  have nn : ∀ {d : PyData}, d ≠ .none → ∀ h u, Reads h u d [] → (u == Value.none) = false := fun hd h u r => by cases r <;> first | rfl | exact absurd rfl hd
  cases d with
  | none =>
    cases hk
    exact kss_yes (kt_isN (ke_var ok rfl hmm hr) (fun h u r => by cases r; rfl)) (kss_ret (ke_tup (ka_cons ke_int (ka_cons ke_int (ka_cons (ke_tup ka_nil (by decide)) ka_nil rfl) rfl) rfl) (by decide)))
  | int i =>
    cases hk
    exact kss_no (kt_isN (ke_var ok rfl hmm hr) (nn (fun z => nomatch z))) (kss_yes (kt_int ok (ke_var ok rfl hmm hr) (.inl ⟨_, rfl, rfl⟩) T.z_isinstance T.z_int) (kss_ret (ke_tup (ka_cons ke_int (ka_cons (ke_var ok rfl hmm hr) (ka_cons (ke_tup ka_nil (by decide)) ka_nil rfl) rfl) rfl) (by simp))))
  | tuple xs =>
    cases hk
    exact kss_no (kt_isN (ke_var ok rfl hmm hr) (nn (fun z => nomatch z))) (kss_no (kt_int ok (ke_var ok rfl hmm hr) (.inr ⟨_, rfl, rfl⟩) T.z_isinstance T.z_int) (kss_ret (ke_tup (ka_cons ke_int (ka_cons ke_int (ka_cons (ke_var ok rfl hmm hr) ka_nil rfl) rfl) rfl) (by simp))))
  | _ => cases hk
theorem a__law_chain_draws {P : Program} {G : Gx} {mg : Str → Option Value} {base : Heap} {f : Addr} {fd : FuncData} (T : Tx G mg) (h__law_cell_at : FnA P G.w G mg base 1 "_law_cell_at" 2 F__law_cell_at) (h__law_mix : FnA P G.w G mg base 1 "_law_mix" 2 F__law_mix) (Ff : Fun G.K "_law_chain_draws" "_law_chain_draws" st__law_chain_draws f fd) (hm : mg "_law_chain_draws" = some (.ref f)) : FnA P G.w G mg base 2 "_law_chain_draws" 1 F__law_chain_draws :=
  fnA_mk [] Ff hm (Ff.binds (ps := ["_law_script"]) (fun _ _ _ _ _ _ us hl => match us, hl with | [_], _ => rfl)) sc__law_chain_draws rfl fun cdv A outer s H E hr tk hp =>
  xs_cons (xs_set 1 sc__law_chain_draws.nd (xe_call' h__law_cell_at rfl hr (by decide) tk (xa_cons (xe_name 0) (xa_cons (xe_v (xv_int)) (xa_nil))) (saCons_len (saCons_len saNil_len))))
  (xs_cons (xs_set 2 sc__law_chain_draws.nd (xe_op op_modG vop_mod (xe_call' h__law_mix rfl hr (by decide) tk (xa_cons (xe_name 1) (xa_cons (xe_v (xv_int)) (xa_nil))) (saCons_len (saCons_len saNil_len))) (xe_v (xv_int))))
  (xs_cons (xs_set 3 sc__law_chain_draws.nd (xe_lst (xa_nil)))
  (xs_cons (xs_for hp rfl (xi_range1 T.z_range (xa_cons (xe_op opr_add vop_add (xe_v (xv_int)) (xe_op op_modG vop_mod (xe_name 1) (xe_ixS ix_seq vop_ix (xe_lst (xa_cons (xe_v (xv_int)) (xa_cons (xe_v (xv_int)) (xa_nil)))) (xv_name 2)))) (xa_nil))) (xg_name 4 sc__law_chain_draws.nd) (xs_cons (xs_set 5 sc__law_chain_draws.nd (xe_call' h__law_mix rfl hr (by decide) tk (xa_cons (xe_call' h__law_cell_at rfl hr (by decide) tk (xa_cons (xe_name 0) (xa_cons (xe_v (xv_int)) (xa_nil))) (saCons_len (saCons_len saNil_len))) (xa_cons (xe_v (xv_op opr_add vop_add (xv_name 4) (xv_int))) (xa_nil))) (saCons_len (saCons_len saNil_len))))
  (xs_cons (xs_set 6 sc__law_chain_draws.nd (xe_lst (xa_nil)))
  (xs_cons (xs_for hp rfl (xi_range1 T.z_range (xa_cons (xe_v (xv_op opr_add vop_add (xv_int) (xv_op op_modG vop_mod (xv_name 5) (xv_int)))) (xa_nil))) (xg_name 7 sc__law_chain_draws.nd) (xs_one (xs_expr (xe_meth 6 rfl F.plainAttrs_list F.slot_list_append F.type_list_append mt_append mm_append ty_lst (xa_cons (xe_tup (xa_cons (xe_v (xv_op opr_add vop_add (xv_op op_modG vop_mod (xv_name 5) (xv_int)) (xv_op opr_mul vop_mul (xv_int) (xv_name 7)))) (xa_cons (xe_op opr_add vop_add (xe_v (xv_int)) (xe_op op_modG vop_mod (xe_call' h__law_mix rfl hr (by decide) tk (xa_cons (xe_name 5) (xa_cons (xe_name 7) (xa_nil))) (saCons_len (saCons_len saNil_len))) (xe_ixS ix_seq vop_ix (xe_lst (xa_cons (xe_v (xv_int)) (xa_cons (xe_v (xv_op opr_pow vop_pow (xv_int) (xv_int))) (xa_nil)))) (xv_name 2)))) (xa_nil)))) (xa_nil))))))
  (xs_one (xs_expr (xe_meth 3 rfl F.plainAttrs_list F.slot_list_append F.type_list_append mt_append mm_append ty_lst (xa_cons (xe_name 6) (xa_nil)))))))))
  (xs_one (xs_ret (xe_take 3))))))
theorem a__law_site {P : Program} {G : Gx} {mg : Str → Option Value} {base : Heap} {f : Addr} {fd : FuncData} (T : Tx G mg) (Ff : Fun G.K "_law_site" "_law_site" st__law_site f fd) (hm : mg "_law_site" = some (.ref f)) : FnA P G.w G mg base 1 "_law_site" 2 F__law_site :=
  fnA_mk [] Ff hm (Ff.binds (ps := ["_law_entry", "_law_draws"]) (fun _ _ _ _ _ _ us hl => match us, hl with | [_, _], _ => rfl)) sc__law_site rfl fun cdv A outer s H E hr tk hp =>
  xs_cons (xs_if (xb_cmpv (op_eqP hr.units) vop_eq (xv_ix rfl (xv_name 0) (xv_int)) (xv_str) (nomark _)) (xs_one (xs_ret (xe_v (xv_bi bop_len call_len T.z_len (by decide +kernel) (xva_cons (xv_name 1) (xva_nil)))))) (xs_nil))
  (xs_one (xs_ret (xe_v (xv_ix rfl (xv_name 0) (xv_int)))))
theorem a__law_chain {P : Program} {G : Gx} {mg : Str → Option Value} {base : Heap} {f : Addr} {fd : FuncData} (T : Tx G mg) (h__law_cell_at : FnA P G.w G mg base 1 "_law_cell_at" 2 F__law_cell_at) (h__law_mix : FnA P G.w G mg base 1 "_law_mix" 2 F__law_mix) (h__law_site : FnA P G.w G mg base 1 "_law_site" 2 F__law_site) (Ff : Fun G.K "_law_chain" "_law_chain" st__law_chain f fd) (hm : mg "_law_chain" = some (.ref f)) : FnA P G.w G mg base 2 "_law_chain" 2 F__law_chain :=
  fnA_mk [] Ff hm (Ff.binds (ps := ["_law_script", "_law_draws"]) (fun _ _ _ _ _ _ us hl => match us, hl with | [_, _], _ => rfl)) sc__law_chain rfl fun cdv A outer s H E hr tk hp =>
  xs_cons (xs_set 2 sc__law_chain.nd (xe_lst (xa_cons (xe_tup (xa_cons (xe_v (xv_str)) (xa_cons (xe_v (xv_non)) (xa_nil)))) (xa_cons (xe_tup (xa_cons (xe_v (xv_str)) (xa_cons (xe_op op_modG vop_mod (xe_call' h__law_cell_at rfl hr (by decide) tk (xa_cons (xe_name 0) (xa_cons (xe_v (xv_int)) (xa_nil))) (saCons_len (saCons_len saNil_len))) (xe_v (xv_op opr_pow vop_pow (xv_int) (xv_int)))) (xa_nil)))) (xa_cons (xe_tup (xa_cons (xe_v (xv_str)) (xa_cons (xe_tup (xa_cons (xe_tup (xa_cons (xe_v (xv_str)) (xa_cons (xe_v (xv_int)) (xa_nil)))) (xa_nil))) (xa_nil)))) (xa_nil))))))
  (xs_cons (xs_set 3 sc__law_chain.nd (xe_v (xv_bi bop_len call_len T.z_len (by decide +kernel) (xva_cons (xv_name 1) (xva_nil)))))
  (xs_cons (xs_for hp rfl (xi_range2 T.z_range (xa_cons (xe_v (xv_int)) (xa_cons (xe_v (xv_bi bop_min2 (call_min2 rfl) T.z_min (by decide +kernel) (xva_cons (xv_bi bop_len call_len T.z_len (by decide +kernel) (xva_cons (xv_name 0) (xva_nil))) (xva_cons (xv_int) xva_nil)))) (xa_nil)))) (xg_name 4 sc__law_chain.nd) (xs_cons (xs_set 5 sc__law_chain.nd (xe_call' h__law_mix rfl hr (by decide) tk (xa_cons (xe_v (xv_ix rfl (xv_name 0) (xv_name 4))) (xa_cons (xe_name 4) (xa_nil))) (saCons_len (saCons_len saNil_len))))
  (xs_cons (xs_if (xb_cmpv (op_eqP hr.units) vop_eq (xv_name 3) (xv_int) (nomark _)) (xs_one (xs_set 3 sc__law_chain.nd (xe_v (xv_bi bop_len call_len T.z_len (by decide +kernel) (xva_cons (xv_name 1) (xva_nil)))))) (xs_nil))
  (xs_cons (xs_set 3 sc__law_chain.nd (xe_bi bop_max2 (call_max2 rfl) T.z_max (by decide +kernel) (xa_cons (xe_v (xv_int)) (xa_cons (xe_op op_sub vop_sub (xe_name 3) (xe_ixS ix_seq vop_ix (xe_lst (xa_cons (xe_v (xv_int)) (xa_cons (xe_v (xv_int)) (xa_cons (xe_v (xv_int)) (xa_cons (xe_v (xv_int)) (xa_cons (xe_v (xv_int)) (xa_nil))))))) (xv_op op_modG vop_mod (xv_name 5) (xv_int)))) (xa_nil)))))
  (xs_cons (xs_set 6 sc__law_chain.nd (xe_lcIf (own := [("_law_place", 7)]) rfl sc__law_chain.nd (blkOk_by (own := [("_law_place", 7)]) (N := N__law_chain) (sc := defScope st__law_chain) (by decide +kernel)) (xi_range1 T.z_range (xa_cons (xe_v (xv_bi bop_len call_len T.z_len (by decide +kernel) (xva_cons (xv_name 2) (xva_nil)))) (xa_nil))) (fun _ _ _ _ _ => xg_name 7 sc__law_chain.nd) (fun _ _ _ _ _ => xb_cmpV opr_gt vop_gt (xe_call' h__law_site rfl hr (by decide) takes0 (xa_cons (xe_v (xv_ix rfl (xv_name 2) (xv_name 7))) (xa_cons (xe_name 1) (xa_nil))) (saCons_len (saCons_len saNil_len))) (xv_name 3) (nomark _)) (fun _ _ _ _ _ => xe_name 7)))
  (xs_cons (xs_set 6 sc__law_chain.nd (xe_addM rfl (xe_sl rfl (xv_name 6) (xo_none) (xo_some (xv_int))) (xe_sl rfl (xv_name 6) (xo_some (xv_neg (xv_int))) (xo_none))))
  (xs_one (xs_expr (xe_meth 2 rfl F.plainAttrs_list F.slot_list_append F.type_list_append mt_append mm_append ty_lst (xa_cons (xe_fz (xe_tup (xa_cons (xe_v (xv_str)) (xa_cons (xe_name 3) (xa_cons (xe_lc (own := [("_law_j", 8)]) rfl sc__law_chain.nd (blkOk_by (own := [("_law_j", 8)]) (N := N__law_chain) (sc := defScope st__law_chain) (by decide +kernel)) (xi_range1 T.z_range (xa_cons (xe_v (xv_bi bop_len call_len T.z_len (by decide +kernel) (xva_cons (xv_ix rfl (xv_name 1) (xv_name 3)) (xva_nil)))) (xa_nil))) (fun _ _ _ _ _ => xg_name 8 sc__law_chain.nd) (fun _ _ _ _ _ => xe_ixN 6 ix_seq vop_ix (xe_op op_modG vop_mod (xe_call' h__law_mix rfl hr (by decide) takes0 (xa_cons (xe_name 5) (xa_cons (xe_name 8) (xa_nil))) (saCons_len (saCons_len saNil_len))) (xe_v (xv_bi bop_len call_len T.z_len (by decide +kernel) (xva_cons (xv_name 6) (xva_nil))))))) (xa_nil)))))) (xa_nil)))))))))))
  (xs_one (xs_ret (xe_take 2)))))
theorem a__law_copy {P : Program} {G : Gx} {mg : Str → Option Value} {base : Heap} {f : Addr} {fd : FuncData} (T : Tx G mg) (Ff : Fun G.K "_law_copy" "_law_copy" st__law_copy f fd) (hm : mg "_law_copy" = some (.ref f)) : FnA P G.w G mg base 1 "_law_copy" 1 F__law_copy :=
  fnA_mk [] Ff hm (Ff.binds (ps := ["_law_parts"]) (fun _ _ _ _ _ _ us hl => match us, hl with | [_], _ => rfl)) sc__law_copy rfl fun cdv A outer s H E hr tk hp =>
  xs_one (xs_ret (xe_lcW (own := [("_law_entry", 1)]) rfl sc__law_copy.nd (blkOk_by (own := [("_law_entry", 1)]) (N := N__law_copy) (sc := defScope st__law_copy) (by decide +kernel)) (xw_name 0 rfl) (fun _ _ _ _ _ => xg_name 1 sc__law_copy.nd) (fun _ _ _ _ _ => xe_addM rfl (xe_tup (xa_cons (xe_v (xv_ix rfl (xv_name 1) (xv_int))) (xa_cons (xe_v (xv_ix rfl (xv_name 1) (xv_int))) (xa_nil)))) (xe_tupOf rfl T.z_tuple (xe_lc (own := [("_law_children", 2)]) rfl sc__law_copy.nd (by exact blkOk_re (blkOk_by (own := [("_law_children", 2)]) (N := N__law_copy) (by decide +kernel))) (xi_q rfl (xe_sl rfl (xv_name 1) (xo_some (xv_int)) (xo_none))) (fun _ _ _ _ _ => xg_name 2 sc__law_copy.nd) (fun _ _ _ _ _ => xe_listV rfl T.z_list (xv_name 2)))))))
theorem a__law_share {P : Program} {G : Gx} {mg : Str → Option Value} {base : Heap} {f : Addr} {fd : FuncData} (T : Tx G mg) (Ff : Fun G.K "_law_share" "_law_share" st__law_share f fd) (hm : mg "_law_share" = some (.ref f)) : FnA P G.w G mg base 1 "_law_share" 2 F__law_share :=
  fnA_mk [] Ff hm (Ff.binds (ps := ["_law_rows", "_law_outcome"]) (fun _ _ _ _ _ _ us hl => match us, hl with | [_, _], _ => rfl)) sc__law_share rfl fun cdv A outer s H E hr tk hp =>
  xs_cons (xs_forW hp rfl (xw_name 0 rfl) (xg_name 2 sc__law_share.nd) (xs_one (xs_if (xb_cmpv (op_eqP hr.units) vop_eq (xv_ix rfl (xv_name 2) (xv_int)) (xv_name 1) (nomark _)) (xs_one (xs_ret (xe_v (xv_ix rfl (xv_name 2) (xv_int))))) (xs_nil))))
  (xs_one (xs_ret (xe_tup (xa_cons (xe_v (xv_int)) (xa_cons (xe_v (xv_int)) (xa_nil))))))
theorem a__law_step_good {P : Program} {G : Gx} {mg : Str → Option Value} {base : Heap} {f : Addr} {fd : FuncData} (T : Tx G mg) (h__law_is_share : FnA P G.w G mg base 2 "_law_is_share" 1 F__law_is_share) (h__law_same : FnA P G.w G mg base 61 "_law_same" 2 (F__law_same 60)) (h__law_share : FnA P G.w G mg base 1 "_law_share" 2 F__law_share) (k__law_rank : KeyA P G.w G mg base 1 "_law_rank" rankK) (Ff : Fun G.K "_law_step_good" "_law_step_good" st__law_step_good f fd) (hm : mg "_law_step_good" = some (.ref f)) : FnA P G.w G mg base 62 "_law_step_good" 3 F__law_step_good :=
  fnA_mk [] Ff hm (Ff.binds (ps := ["_law_rows", "_law_below", "_law_draw"]) (fun _ _ _ _ _ _ us hl => match us, hl with | [_, _, _], _ => rfl)) sc__law_step_good rfl fun cdv A outer s H E hr tk hp =>
  xs_cons (xs_set 3 sc__law_step_good.nd (xe_dict0 rfl))
  (xs_cons (xs_forW hp rfl (xw_name 1 rfl) (xg_name 4 sc__law_step_good.nd) (xs_one (xs_forW hp rfl (xw_name 4 rfl) (xg_name 8 sc__law_step_good.nd) (xs_one (xs_setD 3 hr.units rfl rfl (xv_ix rfl (xv_name 8) (xv_int)) (xe_v (xv_bl)))))))
  (xs_cons (xs_set 5 sc__law_step_good.nd (xe_sortedKD k__law_rank hr (by decide) rfl rfl rfl T.z_sorted (xv_name 3)))
  (xs_cons (xs_if ((xw_or (xb_not (xb_e (xe_v (xv_isi "list" rfl T.z_isinstance T.z_list (xv_name 0) (by decide +kernel))))) (xw_or1 (xb_cmpv (op_neP hr.units) vop_ne (xv_bi bop_len call_len T.z_len (by decide +kernel) (xva_cons (xv_name 0) (xva_nil))) (xv_bi bop_len call_len T.z_len (by decide +kernel) (xva_cons (xv_name 5) (xva_nil))) (nomark _)))).pb) (xs_one (xs_ret (xe_v (xv_bl)))) (xs_nil))
  (xs_cons (xs_set 6 sc__law_step_good.nd (xe_bi bop_sum (cr_sum rfl) T.z_sum (by decide +kernel) (xa_cons (xe_lcW (own := [("_law_pair", 8)]) rfl sc__law_step_good.nd (blkOk_by (own := [("_law_pair", 8)]) (N := N__law_step_good) (sc := defScope st__law_step_good) (by decide +kernel)) (xw_name 2 rfl) (fun _ _ _ _ _ => xg_name 8 sc__law_step_good.nd) (fun _ _ _ _ _ => xe_v (xv_ix rfl (xv_name 8) (xv_int)))) (xa_nil))))
  (xs_cons (xs_for hp rfl (xi_range1 T.z_range (xa_cons (xe_v (xv_bi bop_len call_len T.z_len (by decide +kernel) (xva_cons (xv_name 5) (xva_nil)))) (xa_nil))) (xg_name 7 sc__law_step_good.nd) (xs_cons (xs_set 8 sc__law_step_good.nd (xe_v (xv_ix rfl (xv_name 0) (xv_name 7))))
  (xs_cons (xs_if ((xw_or (xb_not (xb_e (xe_v (xv_isi "tuple" rfl T.z_isinstance T.z_tuple (xv_name 8) (by decide +kernel))))) (xw_or (xb_cmpv (op_neP hr.units) vop_ne (xv_bi bop_len call_len T.z_len (by decide +kernel) (xva_cons (xv_name 8) (xva_nil))) (xv_int) (nomark _)) (xw_or1 (xb_not (xb_e (xe_call' h__law_same rfl hr (by decide) tk (xa_cons (xe_v (xv_ix rfl (xv_name 8) (xv_int))) (xa_cons (xe_v (xv_ix rfl (xv_name 5) (xv_name 7))) (xa_nil))) (saCons_len (saCons_len saNil_len)))))))).pb) (xs_one (xs_ret (xe_v (xv_bl)))) (xs_nil))
  (xs_cons (xs_if (xb_not (xb_e (xe_call' h__law_is_share rfl hr (by decide) tk (xa_cons (xe_v (xv_ix rfl (xv_name 8) (xv_int))) (xa_nil)) (saCons_len saNil_len)))) (xs_one (xs_ret (xe_v (xv_bl)))) (xs_nil))
  (xs_cons (xs_set 9 sc__law_step_good.nd (xe_v (xv_int)))
  (xs_cons (xs_set 10 sc__law_step_good.nd (xe_v (xv_int)))
  (xs_cons (xs_for hp rfl (xi_range1 T.z_range (xa_cons (xe_v (xv_bi bop_len call_len T.z_len (by decide +kernel) (xva_cons (xv_name 2) (xva_nil)))) (xa_nil))) (xg_name 11 sc__law_step_good.nd) (xs_cons (xs_set 12 sc__law_step_good.nd (xe_call' h__law_share rfl hr (by decide) tk (xa_cons (xe_v (xv_ix rfl (xv_name 1) (xv_name 11))) (xa_cons (xe_v (xv_ix rfl (xv_name 5) (xv_name 7))) (xa_nil))) (saCons_len (saCons_len saNil_len))))
  (xs_cons (xs_set 9 sc__law_step_good.nd (xe_v (xv_op opr_add vop_add (xv_op opr_mul vop_mul (xv_name 9) (xv_ix rfl (xv_name 12) (xv_int))) (xv_op opr_mul vop_mul (xv_op opr_mul vop_mul (xv_ix rfl (xv_ix rfl (xv_name 2) (xv_name 11)) (xv_int)) (xv_ix rfl (xv_name 12) (xv_int))) (xv_name 10)))))
  (xs_one (xs_set 10 sc__law_step_good.nd (xe_v (xv_op opr_mul vop_mul (xv_name 10) (xv_ix rfl (xv_name 12) (xv_int)))))))))
  (xs_one (xs_if (xb_cmpv (op_neP hr.units) vop_ne (xv_op opr_mul vop_mul (xv_name 9) (xv_ix rfl (xv_ix rfl (xv_name 8) (xv_int)) (xv_int))) (xv_op opr_mul vop_mul (xv_op opr_mul vop_mul (xv_ix rfl (xv_ix rfl (xv_name 8) (xv_int)) (xv_int)) (xv_name 6)) (xv_name 10)) (nomark _)) (xs_one (xs_ret (xe_v (xv_bl)))) (xs_nil))))))))))
  (xs_one (xs_ret (xe_v (xv_bl)))))))))
theorem a_law {P : Program} {G : Gx} {mg : Str → Option Value} {base : Heap} {f : Addr} {fd : FuncData} (T : Tx G mg) (h__law_chain : FnA P G.w G mg base 2 "_law_chain" 2 F__law_chain) (h__law_chain_draws : FnA P G.w G mg base 2 "_law_chain_draws" 1 F__law_chain_draws) (h__law_copy : FnA P G.w G mg base 1 "_law_copy" 1 F__law_copy) (h__law_same : FnA P G.w G mg base 61 "_law_same" 2 (F__law_same 60)) (h__law_step_good : FnA P G.w G mg base 62 "_law_step_good" 3 F__law_step_good) (h_weighed : FnA P G.w G mg base 7 "weighed" 2 F_weighed) (Ff : Fun G.K "law" "law" st_law f fd) : FnOk P G.w G.K mg base (L2.CX P G.w) 63 f fd ["_law_script"] (spF G 1 F_law) :=
  fn_ok [] Ff sc_law rfl fun cdv A outer s H E hr tk hp =>
  xs_cons (xs_set 1 sc_law.nd (xe_call' h__law_chain_draws rfl hr (by decide) tk (xa_cons (xe_name 0) (xa_nil)) (saCons_len saNil_len)))
  (xs_cons (xs_set 2 sc_law.nd (xe_call' h__law_chain rfl hr (by decide) tk (xa_cons (xe_name 0) (xa_cons (xe_name 1) (xa_nil))) (saCons_len (saCons_len saNil_len))))
  (xs_cons (xs_set 3 sc_law.nd (xe_call' h_weighed rfl hr (by decide) tk (xa_cons (xe_fz (xe_call' h__law_copy rfl hr (by decide) tk (xa_cons (xe_name 2) (xa_nil)) (saCons_len saNil_len))) (xa_cons (xe_fz (xe_lcW (own := [("_law_draw", 6)]) rfl sc_law.nd (blkOk_by (own := [("_law_draw", 6)]) (N := N_law) (sc := defScope st_law) (by decide +kernel)) (xw_name 1 rfl) (fun _ _ _ _ _ => xg_name 6 sc_law.nd) (fun _ _ _ _ _ => xe_listV rfl T.z_list (xv_name 6)))) (xa_nil))) (saCons_len (saCons_len saNil_len))))
  (xs_cons (xs_if ((xw_or (xb_not (xb_e (xe_v (xv_isi "list" rfl T.z_isinstance T.z_list (xv_name 3) (by decide +kernel))))) (xw_or1 (xb_cmpv (op_neP hr.units) vop_ne (xv_bi bop_len call_len T.z_len (by decide +kernel) (xva_cons (xv_name 3) (xva_nil))) (xv_bi bop_len call_len T.z_len (by decide +kernel) (xva_cons (xv_name 2) (xva_nil))) (nomark _)))).pb) (xs_one (xs_ret (xe_v (xv_bl)))) (xs_nil))
  (xs_cons (xs_for hp rfl (xi_range1 T.z_range (xa_cons (xe_v (xv_bi bop_len call_len T.z_len (by decide +kernel) (xva_cons (xv_name 2) (xva_nil)))) (xa_nil))) (xg_name 4 sc_law.nd) (xs_cons (xs_set 5 sc_law.nd (xe_v (xv_ix rfl (xv_name 2) (xv_name 4))))
  (xs_one (xs_if (xb_cmpv (op_eqP hr.units) vop_eq (xv_ix rfl (xv_name 5) (xv_int)) (xv_str) (nomark _)) (xs_one (xs_if (xb_not (xb_e (xe_call' h__law_same rfl hr (by decide) tk (xa_cons (xe_v (xv_ix rfl (xv_name 3) (xv_name 4))) (xa_cons (xe_fz (xe_lst (xa_cons (xe_tup (xa_cons (xe_v (xv_ix rfl (xv_name 5) (xv_int))) (xa_cons (xe_tup (xa_cons (xe_v (xv_int)) (xa_cons (xe_v (xv_int)) (xa_nil)))) (xa_nil)))) (xa_nil)))) (xa_nil))) (saCons_len (saCons_len saNil_len))))) (xs_one (xs_ret (xe_v (xv_bl)))) (xs_nil))) (xs_one (xs_if (xb_not (xb_e (xe_call' h__law_step_good rfl hr (by decide) tk (xa_cons (xe_v (xv_ix rfl (xv_name 3) (xv_name 4))) (xa_cons (xe_lc (own := [("_law_child", 7)]) rfl sc_law.nd (blkOk_by (own := [("_law_child", 7)]) (N := N_law) (sc := defScope st_law) (by decide +kernel)) (xi_q rfl (xe_v (xv_ix rfl (xv_name 5) (xv_int)))) (fun _ _ _ _ _ => xg_name 7 sc_law.nd) (fun _ _ _ _ _ => xe_v (xv_ix rfl (xv_name 3) (xv_name 7)))) (xa_cons (xe_v (xv_ix rfl (xv_name 1) (xv_ix rfl (xv_name 5) (xv_int)))) (xa_nil)))) (saCons_len (saCons_len (saCons_len saNil_len)))))) (xs_one (xs_ret (xe_v (xv_bl)))) (xs_nil)))))))
  (xs_one (xs_ret (xe_v (xv_bl))))))))

set_option maxHeartbeats 1000000
set_option exponentiation.threshold 10000
open PySem L2 FL Classical
theorem whole_int (i : Int) : F__law_whole [.d (.int i)] = .ok (.d (.bl true), [some (.d (.int i))]) := by
  simp [F__law_whole, b__law_whole, runF, ssSeq, ssSet, ssIf, ssRet, ssDrop, ssNil, ssRaise, ssPar, setAll, ssAsg, sgN, sgNil, sgCons, sgTup, sbE, sbNot, sbAnd, sbOr, sNotV, sAndV, sOrV, sIf, sV, v2, vN, vC, getE, sN, sT, s2, s2v, s2n, sCall, saCons, saNil, putBack, killAll, sTup, mTup, isD, unD, sLst, vIx, mIdx, M.seq, atI, ixN, vB, vaCons, vaNil, bAbs, b1I, b2I, bLen, vIsi, tyM, tyD, isiB, fz, oAdd_int, oSub_int, oMul_int, oFdiv_int, oMod_int, oPow_int, oLt_int, oLe_int, oGt_int, oGe_int, oEq_int, oNe_int, sizeLine_eq, vNeg, ssSetI, sMeth, isLst, mAppend]
theorem div_loop : ∀ (n : Nat) (a b : Int) (z0 z1 z4 : Option M), 0 ≤ a → 0 ≤ b → b.natAbs ≤ n → ∃ z, ssWhile wc_divisor_1 wb_divisor_1 [z0, z1, some (.d (.int a)), some (.d (.int b)), z4] = .ok (.nx, [z0, z1, some (.d (.int (gI a b))), some (.d (.int 0)), z]) := by
  intro n
  induction n with
  | zero =>
    intro a b z0 z1 z4 ha hb hn
    have : b = 0 := by omega
    subst this
    refine ⟨z4, ?_⟩
    rw [ssWhile_end (e := [z0, z1, some (.d (.int a)), some (.d (.int 0)), z4]) (by simp [wc_divisor_1, runF, ssSeq, ssSet, ssIf, ssRet, ssDrop, ssNil, ssRaise, ssPar, setAll, ssAsg, sgN, sgNil, sgCons, sgTup, sbE, sbNot, sbAnd, sbOr, sNotV, sAndV, sOrV, sIf, sV, v2, vN, vC, getE, sN, sT, s2, s2v, s2n, sCall, saCons, saNil, putBack, killAll, sTup, mTup, isD, unD, sLst, vIx, mIdx, M.seq, atI, ixN, vB, vaCons, vaNil, bAbs, b1I, b2I, bLen, vIsi, tyM, tyD, isiB, fz, oAdd_int, oSub_int, oMul_int, oFdiv_int, oMod_int, oPow_int, oLt_int, oLe_int, oGt_int, oGe_int, oEq_int, oNe_int, sizeLine_eq, vNeg, ssSetI, sMeth, isLst, mAppend]), show gI a 0 = a from gcd_zero_right ha]
  | succ n ih =>
    intro a b z0 z1 z4 ha hb hn
    by_cases h0 : b = 0
    · subst h0
      refine ⟨z4, ?_⟩
      rw [ssWhile_end (e := [z0, z1, some (.d (.int a)), some (.d (.int 0)), z4]) (by simp [wc_divisor_1, runF, ssSeq, ssSet, ssIf, ssRet, ssDrop, ssNil, ssRaise, ssPar, setAll, ssAsg, sgN, sgNil, sgCons, sgTup, sbE, sbNot, sbAnd, sbOr, sNotV, sAndV, sOrV, sIf, sV, v2, vN, vC, getE, sN, sT, s2, s2v, s2n, sCall, saCons, saNil, putBack, killAll, sTup, mTup, isD, unD, sLst, vIx, mIdx, M.seq, atI, ixN, vB, vaCons, vaNil, bAbs, b1I, b2I, bLen, vIsi, tyM, tyD, isiB, fz, oAdd_int, oSub_int, oMul_int, oFdiv_int, oMod_int, oPow_int, oLt_int, oLe_int, oGt_int, oGe_int, oEq_int, oNe_int, sizeLine_eq, vNeg, ssSetI, sMeth, isLst, mAppend]), show gI a 0 = a from gcd_zero_right ha]
    · have hp : 0 < b := by omega
      rw [ssWhile_go (e := [z0, z1, some (.d (.int a)), some (.d (.int b)), z4]) (e2 := [z0, z1, some (.d (.int b)), some (.d (.int (a % b))), some (.d (.int (a % b)))]) (fl := .nx) (by simp [wc_divisor_1, h0, runF, ssSeq, ssSet, ssIf, ssRet, ssDrop, ssNil, ssRaise, ssPar, setAll, ssAsg, sgN, sgNil, sgCons, sgTup, sbE, sbNot, sbAnd, sbOr, sNotV, sAndV, sOrV, sIf, sV, v2, vN, vC, getE, sN, sT, s2, s2v, s2n, sCall, saCons, saNil, putBack, killAll, sTup, mTup, isD, unD, sLst, vIx, mIdx, M.seq, atI, ixN, vB, vaCons, vaNil, bAbs, b1I, b2I, bLen, vIsi, tyM, tyD, isiB, fz, oAdd_int, oSub_int, oMul_int, oFdiv_int, oMod_int, oPow_int, oLt_int, oLe_int, oGt_int, oGe_int, oEq_int, oNe_int, sizeLine_eq, vNeg, ssSetI, sMeth, isLst, mAppend]) (by simp [wb_divisor_1, h0, modI_pos hp, runF, ssSeq, ssSet, ssIf, ssRet, ssDrop, ssNil, ssRaise, ssPar, setAll, ssAsg, sgN, sgNil, sgCons, sgTup, sbE, sbNot, sbAnd, sbOr, sNotV, sAndV, sOrV, sIf, sV, v2, vN, vC, getE, sN, sT, s2, s2v, s2n, sCall, saCons, saNil, putBack, killAll, sTup, mTup, isD, unD, sLst, vIx, mIdx, M.seq, atI, ixN, vB, vaCons, vaNil, bAbs, b1I, b2I, bLen, vIsi, tyM, tyD, isiB, fz, oAdd_int, oSub_int, oMul_int, oFdiv_int, oMod_int, oPow_int, oLt_int, oLe_int, oGt_int, oGe_int, oEq_int, oNe_int, sizeLine_eq, vNeg, ssSetI, sMeth, isLst, mAppend]) (.inl rfl)]
      have h1 := Int.emod_nonneg a h0
      have h2 := Int.emod_lt_of_pos a hp
      obtain ⟨z, hz⟩ := ih b (a % b) z0 z1 (some (.d (.int (a % b)))) hb h1 (by omega)
      refine ⟨z, ?_⟩
      rw [hz, show gI b (a % b) = gI a b from congrArg _ (gcd_step hp)]
theorem divisor_int (a b : Int) : F_divisor [.d (.int a), .d (.int b)] = .ok (.d (.int (gI a b)), [some (.d (.int a)), some (.d (.int b))]) := by
  obtain ⟨z, hz⟩ := div_loop (if b < 0 then -b else b).natAbs (if a < 0 then -a else a) (if b < 0 then -b else b) (some (.d (.int a))) (some (.d (.int b))) none (by split <;> omega) (by split <;> omega) (Nat.le_refl _)
  have e : gI (if a < 0 then -a else a) (if b < 0 then -b else b) = gI a b := congrArg _ (gcd_abs a b)
  simp [F_divisor, b_divisor, hz, e, runF, ssSeq, ssSet, ssIf, ssRet, ssDrop, ssNil, ssRaise, ssPar, setAll, ssAsg, sgN, sgNil, sgCons, sgTup, sbE, sbNot, sbAnd, sbOr, sNotV, sAndV, sOrV, sIf, sV, v2, vN, vC, getE, sN, sT, s2, s2v, s2n, sCall, saCons, saNil, putBack, killAll, sTup, mTup, isD, unD, sLst, vIx, mIdx, M.seq, atI, ixN, vB, vaCons, vaNil, bAbs, b1I, b2I, bLen, vIsi, tyM, tyD, isiB, fz, oAdd_int, oSub_int, oMul_int, oFdiv_int, oMod_int, oPow_int, oLt_int, oLe_int, oGt_int, oGe_int, oEq_int, oNe_int, sizeLine_eq, vNeg, ssSetI, sMeth, isLst, mAppend]
theorem ldiv_loop : ∀ (n : Nat) (a b : Int), 0 ≤ a → 0 ≤ b → b.natAbs ≤ n → ssWhile wc__law_divisor_1 wb__law_divisor_1 [some (.d (.int a)), some (.d (.int b))] = .ok (.nx, [some (.d (.int (gI a b))), some (.d (.int 0))]) := by
  intro n
  induction n with
  | zero =>
    intro a b ha hb hn
    have : b = 0 := by omega
    subst this
    rw [ssWhile_end (e := [some (.d (.int a)), some (.d (.int 0))]) (by simp [wc__law_divisor_1, runF, ssSeq, ssSet, ssIf, ssRet, ssDrop, ssNil, ssRaise, ssPar, setAll, ssAsg, sgN, sgNil, sgCons, sgTup, sbE, sbNot, sbAnd, sbOr, sNotV, sAndV, sOrV, sIf, sV, v2, vN, vC, getE, sN, sT, s2, s2v, s2n, sCall, saCons, saNil, putBack, killAll, sTup, mTup, isD, unD, sLst, vIx, mIdx, M.seq, atI, ixN, vB, vaCons, vaNil, bAbs, b1I, b2I, bLen, vIsi, tyM, tyD, isiB, fz, oAdd_int, oSub_int, oMul_int, oFdiv_int, oMod_int, oPow_int, oLt_int, oLe_int, oGt_int, oGe_int, oEq_int, oNe_int, sizeLine_eq, vNeg, ssSetI, sMeth, isLst, mAppend]), show gI a 0 = a from gcd_zero_right ha]
  | succ n ih =>
    intro a b ha hb hn
    by_cases h0 : b = 0
    · subst h0
      rw [ssWhile_end (e := [some (.d (.int a)), some (.d (.int 0))]) (by simp [wc__law_divisor_1, runF, ssSeq, ssSet, ssIf, ssRet, ssDrop, ssNil, ssRaise, ssPar, setAll, ssAsg, sgN, sgNil, sgCons, sgTup, sbE, sbNot, sbAnd, sbOr, sNotV, sAndV, sOrV, sIf, sV, v2, vN, vC, getE, sN, sT, s2, s2v, s2n, sCall, saCons, saNil, putBack, killAll, sTup, mTup, isD, unD, sLst, vIx, mIdx, M.seq, atI, ixN, vB, vaCons, vaNil, bAbs, b1I, b2I, bLen, vIsi, tyM, tyD, isiB, fz, oAdd_int, oSub_int, oMul_int, oFdiv_int, oMod_int, oPow_int, oLt_int, oLe_int, oGt_int, oGe_int, oEq_int, oNe_int, sizeLine_eq, vNeg, ssSetI, sMeth, isLst, mAppend]), show gI a 0 = a from gcd_zero_right ha]
    · have hp : 0 < b := by omega
      rw [ssWhile_go (e := [some (.d (.int a)), some (.d (.int b))]) (e2 := [some (.d (.int b)), some (.d (.int (a % b)))]) (fl := .nx) (by simp [wc__law_divisor_1, hp, runF, ssSeq, ssSet, ssIf, ssRet, ssDrop, ssNil, ssRaise, ssPar, setAll, ssAsg, sgN, sgNil, sgCons, sgTup, sbE, sbNot, sbAnd, sbOr, sNotV, sAndV, sOrV, sIf, sV, v2, vN, vC, getE, sN, sT, s2, s2v, s2n, sCall, saCons, saNil, putBack, killAll, sTup, mTup, isD, unD, sLst, vIx, mIdx, M.seq, atI, ixN, vB, vaCons, vaNil, bAbs, b1I, b2I, bLen, vIsi, tyM, tyD, isiB, fz, oAdd_int, oSub_int, oMul_int, oFdiv_int, oMod_int, oPow_int, oLt_int, oLe_int, oGt_int, oGe_int, oEq_int, oNe_int, sizeLine_eq, vNeg, ssSetI, sMeth, isLst, mAppend]) (by simp [wb__law_divisor_1, h0, modI_pos hp, runF, ssSeq, ssSet, ssIf, ssRet, ssDrop, ssNil, ssRaise, ssPar, setAll, ssAsg, sgN, sgNil, sgCons, sgTup, sbE, sbNot, sbAnd, sbOr, sNotV, sAndV, sOrV, sIf, sV, v2, vN, vC, getE, sN, sT, s2, s2v, s2n, sCall, saCons, saNil, putBack, killAll, sTup, mTup, isD, unD, sLst, vIx, mIdx, M.seq, atI, ixN, vB, vaCons, vaNil, bAbs, b1I, b2I, bLen, vIsi, tyM, tyD, isiB, fz, oAdd_int, oSub_int, oMul_int, oFdiv_int, oMod_int, oPow_int, oLt_int, oLe_int, oGt_int, oGe_int, oEq_int, oNe_int, sizeLine_eq, vNeg, ssSetI, sMeth, isLst, mAppend]) (.inl rfl)]
      have h1 := Int.emod_nonneg a h0
      have h2 := Int.emod_lt_of_pos a hp
      rw [ih b (a % b) hb h1 (by omega), show gI b (a % b) = gI a b from congrArg _ (gcd_step hp)]
theorem ldivisor_int {a b : Int} (ha : 0 ≤ a) (hb : 0 ≤ b) : F__law_divisor [.d (.int a), .d (.int b)] = .ok (.d (.int (gI a b)), [none, none]) := by
  have hz := ldiv_loop b.natAbs a b ha hb (Nat.le_refl _)
  simp [F__law_divisor, b__law_divisor, hz, runF, ssSeq, ssSet, ssIf, ssRet, ssDrop, ssNil, ssRaise, ssPar, setAll, ssAsg, sgN, sgNil, sgCons, sgTup, sbE, sbNot, sbAnd, sbOr, sNotV, sAndV, sOrV, sIf, sV, v2, vN, vC, getE, sN, sT, s2, s2v, s2n, sCall, saCons, saNil, putBack, killAll, sTup, mTup, isD, unD, sLst, vIx, mIdx, M.seq, atI, ixN, vB, vaCons, vaNil, bAbs, b1I, b2I, bLen, vIsi, tyM, tyD, isiB, fz, oAdd_int, oSub_int, oMul_int, oFdiv_int, oMod_int, oPow_int, oLt_int, oLe_int, oGt_int, oGe_int, oEq_int, oNe_int, sizeLine_eq, vNeg, ssSetI, sMeth, isLst, mAppend]
/-! ### sizes -/
def Bd (k : Nat) (x : Int) : Prop := 0 ≤ x ∧ x ≤ ((2 ^ (22 * k) : Nat) : Int)
theorem Bd.mul {j k : Nat} {x y : Int} (h : Bd j x) (h' : Bd k y) : Bd (j + k) (x * y) := by
  refine ⟨Int.mul_nonneg h.1 h'.1, ?_⟩
  have := Int.mul_le_mul h.2 h'.2 h'.1 (Int.natCast_nonneg _)
  rw [Nat.mul_add, Nat.pow_add, Int.natCast_mul]
  exact this
theorem Bd.mono {j k : Nat} {x : Int} (h : Bd j x) (hk : j ≤ k) : Bd k x := by
  refine ⟨h.1, Int.le_trans h.2 ?_⟩
  have : 2 ^ (22 * j) ≤ 2 ^ (22 * k) := Nat.pow_le_pow_right (by decide) (by omega)
  omega
theorem Bd.nat {k : Nat} {x : Int} (h : Bd k x) (hk : k ≤ 200) : x.natAbs < 2 ^ 4500 := by
  have h1 := h.mono hk
  have : (2:Nat) ^ (22 * 200) < 2 ^ 4500 := Nat.pow_lt_pow_right (by decide) (by decide)
  obtain ⟨q, hq⟩ : ∃ q, q = (2:Nat) ^ (22 * 200) := ⟨_, rfl⟩
  have h2 := h1.1
  have h3 := h1.2
  rw [← hq] at h3 this
  exact Nat.lt_of_le_of_lt (by omega) this
theorem Bd1 {x : Int} (h : 0 ≤ x) (h' : x ≤ 4194304) : Bd 1 x := by
  have e : ((2 ^ (22 * 1) : Nat) : Int) = 4194304 := by decide
  exact ⟨h, by rw [e]; exact h'⟩
theorem Bd.one (k : Nat) : Bd k 1 := ⟨by decide, by have := Nat.one_le_two_pow (n := 22 * k); omega⟩
theorem Bd.zero (k : Nat) : Bd k 0 := ⟨by decide, Int.natCast_nonneg _⟩
theorem Bd.cmul {j k : Nat} {x y : Int} (h : Bd j x) (h' : Bd k y) (hj : j ≤ 200 := by omega) (hk : k ≤ 200 := by omega) : CMulD x y := mulD (h.nat hj) (h'.nat hk)
theorem Bd.lowT {k : Nat} {t b : Int} (h : Bd k t) (hb : 0 < b) : Bd k (FL.lowT t b) := by
  have h1 := lowT_le (t := t) (b := b)
  have h2 : 0 ≤ FL.lowT t b := Int.ediv_nonneg h.1 (by unfold gI; omega)
  have := h.1
  have := h.2
  exact ⟨h2, by omega⟩
theorem Bd.lowB {k : Nat} {t b : Int} (h : Bd k b) (hb : 0 < b) : Bd k (FL.lowB t b) := by
  have h1 := lowB_le (t := t) (b := b)
  have h2 := lowB_pos (t := t) hb
  have := h.2
  exact ⟨by omega, by omega⟩
/-! ### fractions -/
abbrev pI (a b : Int) : D := .tup [.int a, .int b]
theorem fraction_int {t b : Int} (hb : 0 < b) (hl : b.natAbs < 2 ^ 9000) : F_fraction [.d (.int t), .d (.int b)] = .ok (.d (pI (lowT t b) (lowB t b)), [some (.d (.int t)), some (.d (.int b))]) := by
  have hg := gI_pos (a := t) (b := b) (by omega)
  have hg2 : ∀ i, CFdiv i (gI t b) := fun i => fdivD (b := 9000) (by omega) (Nat.lt_of_le_of_lt (gI_le (by omega)) hl)
  have h1 : ¬ b = 0 := by omega
  have h2 : ¬ b < 0 := by omega
  simp [F_fraction, b_fraction, divisor_int, oFdiv_int (hg2 _), fdivI_pos hg, lowT, lowB, h1, h2, runF, ssSeq, ssSet, ssIf, ssRet, ssDrop, ssNil, ssRaise, ssPar, setAll, ssAsg, sgN, sgNil, sgCons, sgTup, sbE, sbNot, sbAnd, sbOr, sNotV, sAndV, sOrV, sIf, sV, v2, vN, vC, getE, sN, sT, s2, s2v, s2n, sCall, saCons, saNil, putBack, killAll, sTup, mTup, isD, unD, sLst, vIx, mIdx, M.seq, atI, ixN, vB, vaCons, vaNil, bAbs, b1I, b2I, bLen, vIsi, tyM, tyD, isiB, fz, oAdd_int, oSub_int, oMul_int, oFdiv_int, oMod_int, oPow_int, oLt_int, oLe_int, oGt_int, oGe_int, oEq_int, oNe_int, sizeLine_eq, vNeg, ssSetI, sMeth, isLst, mAppend]
theorem Bd.frac {k : Nat} {t b : Int} (h : Bd k b) (hk : k ≤ 200) (hb : 0 < b) : F_fraction [.d (.int t), .d (.int b)] = .ok (.d (pI (FL.lowT t b) (FL.lowB t b)), [some (.d (.int t)), some (.d (.int b))]) :=
  fraction_int hb (Nat.lt_of_lt_of_le (h.nat hk) (Nat.pow_le_pow_right (by decide) (by decide)))
theorem times_int {a b c d : Int} {j k : Nat} (ha : Bd j a) (hb : Bd j b) (hc : Bd k c) (hd : Bd k d) (h0 : 0 < b) (h1 : 0 < d) (hj : j + k ≤ 200) :
    F_times [.d (pI a b), .d (pI c d)] = .ok (.d (pI (lowT (a * c) (b * d)) (lowB (a * c) (b * d))), [some (.d (pI a b)), some (.d (pI c d))]) := by
  have hf := Bd.frac (t := a * c) (hb.mul hd) hj (Int.mul_pos h0 h1)
  have c1 : CMulD a c := ha.cmul hc
  have c2 : CMulD b d := hb.cmul hd
  simp [F_times, b_times, oMul_int c1, oMul_int c2, hf, runF, ssSeq, ssSet, ssIf, ssRet, ssDrop, ssNil, ssRaise, ssPar, setAll, ssAsg, sgN, sgNil, sgCons, sgTup, sbE, sbNot, sbAnd, sbOr, sNotV, sAndV, sOrV, sIf, sV, v2, vN, vC, getE, sN, sT, s2, s2v, s2n, sCall, saCons, saNil, putBack, killAll, sTup, mTup, isD, unD, sLst, vIx, mIdx, M.seq, atI, ixN, vB, vaCons, vaNil, bAbs, b1I, b2I, bLen, vIsi, tyM, tyD, isiB, fz, oAdd_int, oSub_int, oMul_int, oFdiv_int, oMod_int, oPow_int, oLt_int, oLe_int, oGt_int, oGe_int, oEq_int, oNe_int, sizeLine_eq, vNeg, ssSetI, sMeth, isLst, mAppend]
/-! ### draws -/
def drwD (d : List (Int × Int)) : D := .lst (d.map fun p => pI p.1 p.2)
def sW (d : List (Int × Int)) : Int := (d.map Prod.snd).sum
def mW (d : List (Int × Int)) : Int := maxI (d.map Prod.snd)
structure GDr (d : List (Int × Int)) : Prop where
  ne : d ≠ []
  len : d.length ≤ 3
  w : ∀ p ∈ d, 0 < p.2 ∧ p.2 ≤ 1000000
theorem sum_le {K : Int} : ∀ {l : List Int}, (∀ x ∈ l, x ≤ K) → l.sum ≤ l.length * K
  | [], _ => by simp
  | x :: l, h => by
    have h1 := sum_le (l := l) fun y hy => h y (by simp [hy])
    have h2 := h x (by simp)
    simp only [List.sum_cons, List.length_cons]
    rw [Int.natCast_add, Int.add_mul]
    simp
    omega
theorem sum_ge : ∀ {l : List Int}, (∀ x ∈ l, 0 ≤ x) → 0 ≤ l.sum ∧ ∀ x ∈ l, x ≤ l.sum
  | [], _ => by simp
  | x :: l, h => by
    have h1 := sum_ge (l := l) fun y hy => h y (by simp [hy])
    have h2 := h x (by simp)
    simp only [List.sum_cons]
    refine ⟨by omega, fun y hy => ?_⟩
    rcases List.mem_cons.mp hy with rfl | hy
    · omega
    · have := h1.2 y hy; omega
theorem GDr.m {d : List (Int × Int)} (h : GDr d) : 0 < mW d ∧ mW d ≤ 1000000 := by
  have hne : d.map Prod.snd ≠ [] := by simpa using h.ne
  have := (maxI_spec hne).1
  obtain ⟨p, hp, e⟩ := List.mem_map.mp this
  have := h.w p hp
  unfold mW
  omega
theorem GDr.s {d : List (Int × Int)} (h : GDr d) : 0 < sW d ∧ sW d ≤ 3000000 := by
  have h1 : ∀ x ∈ d.map Prod.snd, 0 < x ∧ x ≤ 1000000 := fun x hx => by obtain ⟨p, hp, rfl⟩ := List.mem_map.mp hx; exact h.w p hp
  have h2 := sum_le (K := 1000000) fun x hx => (h1 x hx).2
  have h3 := sum_ge (l := d.map Prod.snd) fun x hx => by have := h1 x hx; omega
  have h4 := h.len
  simp only [List.length_map] at h2
  have hne : d.map Prod.snd ≠ [] := by simpa using h.ne
  obtain ⟨x, hx⟩ := List.exists_mem_of_ne_nil _ hne
  have := h1 x hx
  have := h3.2 x hx
  unfold sW
  omega
theorem GDr.bm {d : List (Int × Int)} (h : GDr d) : Bd 1 (mW d) := Bd1 (by have := h.m; omega) (by have := h.m; omega)
theorem GDr.bs {d : List (Int × Int)} (h : GDr d) : Bd 1 (sW d) := Bd1 (by have := h.s; omega) (by have := h.s; omega)
theorem GDr.bw {d : List (Int × Int)} (h : GDr d) {p : Int × Int} (hp : p ∈ d) : Bd 1 p.2 := Bd1 (by have := h.w p hp; omega) (by have := h.w p hp; omega)
def wM (d : List (Int × Int)) : M := .lst (d.map fun p => .d (.int p.2))
theorem intsOf_w : ∀ d : List (Int × Int), intsOf (d.map fun p => M.d (.int p.2)) = some (d.map Prod.snd)
  | [] => rfl
  | p :: d => by simp [intsOf, intsOf_w d]
theorem bSum_w (d : List (Int × Int)) : bSum [wM d] = .ok (.int (sW d)) := by
  simp only [wM, bSum, M.seq, intsOf_w]
  rfl
theorem bMax_w {d : List (Int × Int)} (h : d ≠ []) : bMaxL [wM d] = .ok (.int (mW d)) := by
  simp only [wM, bMaxL, M.seq, intsOf_w]
  cases d with
  | nil => exact absurd rfl h
  | cons p d => rfl
def pT (ds : List (List (Int × Int))) : Int := (ds.map mW).foldr (· * ·) 1
def pS (ds : List (List (Int × Int))) : Int := (ds.map sW).foldr (· * ·) 1
theorem pT_bd : ∀ {ds : List (List (Int × Int))}, (∀ d ∈ ds, GDr d) → Bd ds.length (pT ds)
  | [], _ => Bd.one 0
  | d :: ds, h => by
    have h1 := pT_bd (ds := ds) fun x hx => h x (by simp [hx])
    have h2 := (h d (by simp)).bm.mul h1
    rw [Nat.add_comm] at h2
    exact h2
theorem pS_bd : ∀ {ds : List (List (Int × Int))}, (∀ d ∈ ds, GDr d) → Bd ds.length (pS ds) ∧ 0 < pS ds
  | [], _ => ⟨Bd.one 0, by decide⟩
  | d :: ds, h => by
    have h1 := pS_bd (ds := ds) fun x hx => h x (by simp [hx])
    have h2 := (h d (by simp)).bs.mul h1.1
    rw [Nat.add_comm] at h2
    exact ⟨h2, Int.mul_pos (h d (by simp)).s.1 h1.2⟩
theorem brw_drw (d : List (Int × Int)) : brw (.d (drwD d)) = some (false, d.map fun p => pI p.1 p.2) := rfl
abbrev dsD (ds : List (List (Int × Int))) : D := .lst (ds.map drwD)
def midD (ds : List (List (Int × Int))) (lo hi : Nat) : List (List (Int × Int)) := (ds.take hi).drop lo
/-! ### entries -/
inductive Ent where
  | leaf (x : D) | ask (s : Nat) (cs : List Nat)
def entD : Ent → D
  | .leaf x => .tup [.str (Str.ofString "leaf"), x]
  | .ask s cs => .tup [.str (Str.ofString "ask"), .int s, .lst (cs.map fun (c : Nat) => .int (c : Int))]
def site (n : Nat) : Ent → Nat
  | .leaf _ => n
  | .ask s _ => s
theorem lf_sl : Str.ofString "leaf" = sl [108, 101, 97, 102] := by rw [slOf]; congr 1
theorem ak_sl : Str.ofString "ask" = sl [97, 115, 107] := by rw [slOf]; congr 1
theorem eq_ll : oEq (.d (.str (Str.ofString "leaf"))) (.d (.str (Str.ofString "leaf"))) = .ok (.bl true) := by rw [lf_sl, oEq_str]; rfl
theorem eq_al : oEq (.d (.str (Str.ofString "ask"))) (.d (.str (Str.ofString "leaf"))) = .ok (.bl false) := by rw [lf_sl, ak_sl, oEq_str]; rfl
theorem ix_l0 {x : D} : mIdx (.d (entD (.leaf x))) (.d (.int 0)) = .ok (.d (.str (Str.ofString "leaf"))) := rfl
theorem ix_l1 {x : D} : mIdx (.d (entD (.leaf x))) (.d (.int 1)) = .ok (.d x) := rfl
theorem ix_a0 {s : Nat} {cs : List Nat} : mIdx (.d (entD (.ask s cs))) (.d (.int 0)) = .ok (.d (.str (Str.ofString "ask"))) := rfl
theorem ix_a1 {s : Nat} {cs : List Nat} : mIdx (.d (entD (.ask s cs))) (.d (.int 1)) = .ok (.d (.int s)) := rfl
theorem ix_a2 {s : Nat} {cs : List Nat} : mIdx (.d (entD (.ask s cs))) (.d (.int 2)) = .ok (.d (.lst (cs.map fun (c : Nat) => .int (c : Int)))) := rfl
theorem mIdx_n {xs : List D} {c : Nat} {x : D} (h : xs[c]? = some x) : mIdx (.d (.lst xs)) (.d (.int (c : Int))) = .ok (.d x) := by
  have hl := (List.getElem?_eq_some_iff.mp h).1
  have e : atI (xs.map M.d) (c : Int) = some (.d x) := by rw [atI_nat (by simpa using hl)]; simp [h]
  simp only [mIdx, M.seq, e]
theorem mIdx_m {ms : List M} {c : Nat} {x : M} (h : ms[c]? = some x) : mIdx (.lst ms) (.d (.int (c : Int))) = .ok x := by
  have hl := (List.getElem?_eq_some_iff.mp h).1
  have e : atI ms (c : Int) = some x := by rw [atI_nat hl]; exact h
  simp only [mIdx, M.seq, e]
theorem bLen_ds (ds : List (List (Int × Int))) : bLen [.d (dsD ds)] = .ok (.int ds.length) := by simp [bLen, dsD, M.seq]
theorem site_int (e : Ent) (ds : List (List (Int × Int))) : F__law_site [.d (entD e), .d (dsD ds)] = .ok (.d (.int (site ds.length e)), [some (.d (entD e)), some (.d (dsD ds))]) := by
  cases e with
  | leaf x => simp [F__law_site, b__law_site, runF, ssSeq, ssIf, sbE, sV, v2, vIx, vN, vC, getE, ix_l0, eq_ll, ssRet, vB, vaCons, vaNil, bLen_ds, killAll, site]
  | ask s cs => simp [F__law_site, b__law_site, runF, ssSeq, ssIf, sbE, sV, v2, vIx, vN, vC, getE, ix_a0, ix_a1, eq_al, ssRet, vB, vaCons, vaNil, ssNil, killAll, site]
theorem mm4 (a b c d : Int) : a * b * (c * d) = a * c * (b * d) := by rw [Int.mul_assoc, Int.mul_assoc, Int.mul_left_comm b]
/-! ### low products -/
theorem low_times {w S T B : Int} (hS : 0 < S) (hB : 0 < B) : lowT (lowT w S * lowT T B) (lowB w S * lowB T B) = lowT (w * T) (S * B) ∧ lowB (lowT w S * lowT T B) (lowB w S * lowB T B) = lowB (w * T) (S * B) :=
  low_eq (Int.mul_pos (lowB_pos hS) (lowB_pos hB)) (Int.mul_pos hS hB) (by rw [mm4, low_cross, low_cross, mm4])
theorem low_times2 {X Y t b : Int} (hY : 0 < Y) (hb : 0 < b) : lowT (lowT X Y * t) (lowB X Y * b) = lowT (X * t) (Y * b) ∧ lowB (lowT X Y * t) (lowB X Y * b) = lowB (X * t) (Y * b) :=
  low_eq (Int.mul_pos (lowB_pos hY) hb) (Int.mul_pos hY hb) (by rw [mm4, low_cross, mm4])
abbrev pD (q : Int × Int) : D := pI q.1 q.2
/-! ### shares_of -/
theorem shares_int {d : List (Int × Int)} (hd : GDr d) : F_shares_of [.d (drwD d)] = .ok (.lst (d.map fun p => .d (pI (lowT p.2 (sW d)) (lowB p.2 (sW d)))), [some (.d (drwD d))]) := by
  have h1 := lclw_map (own := [2, 3]) (ws := [0]) (env0 := [some (.d (drwD d)), none, none, none]) (g := sgTup 2 (sgCons (sgN 2) (sgCons (sgN 3) (sgNil)))) (c := sbYes) (f := sN 3) (env := [some (.d (drwD d)), none, none, none]) (fun p : Int × Int => pI p.1 p.2) (fun p => M.d (.int p.2)) (fun _ _ => rfl) d [] (fun p hp =>
    ⟨[some (.d (drwD d)), none, some (.d (.int p.1)), some (.d (.int p.2))], _, _, by simp [itemsD, itemsLT, runF, ssSeq, ssSet, ssIf, ssRet, ssDrop, ssNil, ssRaise, ssPar, setAll, ssAsg, sgN, sgNil, sgCons, sgTup, sbE, sbNot, sbAnd, sbOr, sNotV, sAndV, sOrV, sIf, sV, v2, vN, vC, getE, sN, sT, s2, s2v, s2n, sCall, saCons, saNil, putBack, killAll, sTup, mTup, isD, unD, sLst, vIx, mIdx, M.seq, atI, ixN, vB, vaCons, vaNil, bAbs, b1I, b2I, bLen, vIsi, tyM, tyD, isiB, fz, oAdd_int, oSub_int, oMul_int, oFdiv_int, oMod_int, oPow_int, oLt_int, oLe_int, oGt_int, oGe_int, oEq_int, oNe_int, sizeLine_eq, vNeg, ssSetI, sMeth, isLst, mAppend], rfl, by simp [runF, ssSeq, ssSet, ssIf, ssRet, ssDrop, ssNil, ssRaise, ssPar, setAll, ssAsg, sgN, sgNil, sgCons, sgTup, sbE, sbNot, sbAnd, sbOr, sNotV, sAndV, sOrV, sIf, sV, v2, vN, vC, getE, sN, sT, s2, s2v, s2n, sCall, saCons, saNil, putBack, killAll, sTup, mTup, isD, unD, sLst, vIx, mIdx, M.seq, atI, ixN, vB, vaCons, vaNil, bAbs, b1I, b2I, bLen, vIsi, tyM, tyD, isiB, fz, oAdd_int, oSub_int, oMul_int, oFdiv_int, oMod_int, oPow_int, oLt_int, oLe_int, oGt_int, oGe_int, oEq_int, oNe_int, sizeLine_eq, vNeg, ssSetI, sMeth, isLst, mAppend]; rfl, rfl⟩)
  have h2 := lclw_map (own := [2, 3]) (ws := [0]) (env0 := [some (.d (drwD d)), some (.d (.int (sW d))), none, none]) (g := sgTup 2 (sgCons (sgN 2) (sgCons (sgN 3) (sgNil)))) (c := sbYes) (f := sCall F_fraction [none, none] (saCons (sN 3) (saCons (sN 1) (saNil)))) (env := [some (.d (drwD d)), some (.d (.int (sW d))), none, none]) (fun p : Int × Int => pI p.1 p.2) (fun p => M.d (pI (lowT p.2 (sW d)) (lowB p.2 (sW d)))) (fun _ _ => rfl) d [] (fun p hp =>
    ⟨[some (.d (drwD d)), some (.d (.int (sW d))), some (.d (.int p.1)), some (.d (.int p.2))], _, _, by simp [itemsD, itemsLT, runF, ssSeq, ssSet, ssIf, ssRet, ssDrop, ssNil, ssRaise, ssPar, setAll, ssAsg, sgN, sgNil, sgCons, sgTup, sbE, sbNot, sbAnd, sbOr, sNotV, sAndV, sOrV, sIf, sV, v2, vN, vC, getE, sN, sT, s2, s2v, s2n, sCall, saCons, saNil, putBack, killAll, sTup, mTup, isD, unD, sLst, vIx, mIdx, M.seq, atI, ixN, vB, vaCons, vaNil, bAbs, b1I, b2I, bLen, vIsi, tyM, tyD, isiB, fz, oAdd_int, oSub_int, oMul_int, oFdiv_int, oMod_int, oPow_int, oLt_int, oLe_int, oGt_int, oGe_int, oEq_int, oNe_int, sizeLine_eq, vNeg, ssSetI, sMeth, isLst, mAppend], rfl, by
      have hf := Bd.frac (t := p.2) hd.bs (by decide) hd.s.1
      simp [hf, runF, ssSeq, ssSet, ssIf, ssRet, ssDrop, ssNil, ssRaise, ssPar, setAll, ssAsg, sgN, sgNil, sgCons, sgTup, sbE, sbNot, sbAnd, sbOr, sNotV, sAndV, sOrV, sIf, sV, v2, vN, vC, getE, sN, sT, s2, s2v, s2n, sCall, saCons, saNil, putBack, killAll, sTup, mTup, isD, unD, sLst, vIx, mIdx, M.seq, atI, ixN, vB, vaCons, vaNil, bAbs, b1I, b2I, bLen, vIsi, tyM, tyD, isiB, fz, oAdd_int, oSub_int, oMul_int, oFdiv_int, oMod_int, oPow_int, oLt_int, oLe_int, oGt_int, oGe_int, oEq_int, oNe_int, sizeLine_eq, vNeg, ssSetI, sMeth, isLst, mAppend]; rfl, rfl⟩)
  have hl := hd.len
  unfold F_shares_of
  refine runF_ret (e := [some (.d (drwD d)), some (.d (.int (sW d))), none, none]) ?_
  unfold b_shares_of
  show ssSeq _ _ [some (.d (drwD d)), none, none, none] = _
  have k1 : killAll [2, 3] [some (.d (drwD d)), none, none, none] = [some (.d (drwD d)), none, none, none] := rfl
  have k2 : killAll [2, 3] [some (.d (drwD d)), some (.d (.int (sW d))), none, none] = [some (.d (drwD d)), some (.d (.int (sW d))), none, none] := rfl
  have b1 := bSum_w d
  unfold wM at b1
  rw [ssSeq_nx (e := [some (.d (drwD d)), some (.d (.int (sW d))), none, none]) (by
    simp only [ssSet, sB, saCons, saNil, sLcW, iwN, getE, List.getElem?_cons_zero, brw_drw, k1, h1]
    rw [if_pos ⟨by simp only [List.length_map, sizeLine_eq]; omega, by decide⟩]
    simp [b1])]
  simp only [ssRet, sLcW, iwN, getE, List.getElem?_cons_zero, brw_drw, k2, h2]
  rw [if_pos ⟨by simp only [List.length_map, sizeLine_eq]; omega, by decide⟩]
  simp
theorem zip_pairs {α β : Type} (f : α → D) (g : β → D) : ∀ (xs : List α) (ys : List β), List.zipWith pairD (xs.map f) (ys.map g) = (List.zip xs ys).map fun p => pairD (f p.1) (g p.2)
  | [], _ => by simp
  | _ :: _, [] => by simp
  | x :: xs, y :: ys => by simp [zip_pairs f g xs ys]
theorem mul3 {a b : Int} (ha : a.natAbs < 2 ^ 604) (hb : b.natAbs < 2 ^ 604) : (a * b).natAbs < 2 ^ 9000 :=
  Nat.lt_of_lt_of_le (mul_lt ha hb) (Nat.pow_le_pow_right (by decide) (by decide))
theorem plus_int {a b c d : Int} (hb : 0 < b) (hd : 0 < d) (ha : a.natAbs < 2 ^ 604) (hb' : b.natAbs < 2 ^ 604) (hc : c.natAbs < 2 ^ 604) (hd' : d.natAbs < 2 ^ 604) :
    F_plus [.d (.tup [.int a, .int b]), .d (.tup [.int c, .int d])] = .ok (.d (.tup [.int (lowT (a * d + c * b) (b * d)), .int (lowB (a * d + c * b) (b * d))]), [some (.d (.tup [.int a, .int b])), some (.d (.tup [.int c, .int d]))]) := by
  have c1 : CMulD a d := mulD (a := 604) (b := 604) ha hd'
  have c2 : CMulD c b := mulD (a := 604) (b := 604) hc hb'
  have c3 : CMulD b d := mulD (a := 604) (b := 604) hb' hd'
  have h0 : 0 < b * d := Int.mul_pos hb hd
  have hf := fraction_int (t := a * d + c * b) (b := b * d) (by omega) (mul3 hb' hd')
  simp [F_plus, b_plus, oMul_int c1, oMul_int c2, oMul_int c3, hf, runF, ssSeq, ssSet, ssIf, ssRet, ssDrop, ssNil, ssRaise, ssPar, setAll, ssAsg, sgN, sgNil, sgCons, sgTup, sbE, sbNot, sbAnd, sbOr, sNotV, sAndV, sOrV, sIf, sV, v2, vN, vC, getE, sN, sT, s2, s2v, s2n, sCall, saCons, saNil, putBack, killAll, sTup, mTup, isD, unD, sLst, vIx, mIdx, M.seq, atI, ixN, vB, vaCons, vaNil, bAbs, b1I, b2I, bLen, vIsi, tyM, tyD, isiB, fz, oAdd_int, oSub_int, oMul_int, oFdiv_int, oMod_int, oPow_int, oLt_int, oLe_int, oGt_int, oGe_int, oEq_int, oNe_int, sizeLine_eq, vNeg, ssSetI, sMeth, isLst, mAppend]
def frP (C : Int) (w : Int) : D := .tup [.int (lowT w C), .int (lowB w C)]
def frD (C : Int) (p : D × Int) : D := .tup [p.1, frP C p.2]
abbrev W112 (C : Int) : Prop := 0 < C ∧ C < 2 ^ 600
theorem low_sz {w C : Int} (hC : W112 C) (hw : 0 ≤ w ∧ w < 2 ^ 600) : (lowT w C).natAbs < 2 ^ 604 ∧ (lowB w C).natAbs < 2 ^ 604 ∧ 0 < lowB w C := by
  have h1 := lowT_le (t := w) (b := C)
  have h2 := lowB_le (t := w) (b := C)
  have h3 := lowB_pos (t := w) hC.1
  have e : (2 : Nat) ^ 604 = 16 * 2 ^ 600 := by decide
  have := hC.1
  have := hC.2
  refine ⟨by omega, by omega, h3⟩
theorem put1 {e : FL.Env} {env : FL.Env} : putBack [none] e env = env := by cases e <;> rfl
/-! the order of outcomes -/
def rlt : List (List Nat × Int) → List (List Nat × Int) → Bool
  | [], [] => false
  | [], _ :: _ => true
  | _ :: _, [] => false
  | (a, i) :: r, (b, j) :: s => if a = b then (if i = j then rlt r s else decide (i < j)) else decide (a < b)
theorem ibeq (i j : Int) : (i == j) = decide (i = j) := by
  by_cases q : i = j <;> simp [q]
theorem sl_inj {a b : List Nat} (h : sl a = sl b) : a = b := by
  have := congrArg (fun x : Str => x.cps.toList) h
  simpa [sl] using this
theorem eqv_row (a b : List Nat) (i j : Int) : PyData.eqv (toPy (rowD (a, i))) (toPy (rowD (b, j))) = (decide (a = b) && decide (i = j)) := by
  have h : (sl a == sl b) = decide (a = b) := by
    by_cases q : a = b
    · subst q; simp
    · have : sl a ≠ sl b := fun z => q (sl_inj z)
      simp [q, this]
  simp [rowD, toPy, toPys, PyData.eqv, PyData.eqvAll, h, ibeq]
theorem alike_row (a b : List Nat) (i j : Int) : PySem.W.alike (toPy (rowD (a, i))) (toPy (rowD (b, j))) = true := by
  simp [rowD, toPy, toPys, PySem.W.alike, PySem.W.alikeAll]
theorem lt_row (a b : List Nat) (i j : Int) : PySem.W.dataLt (toPy (rowD (a, i))) (toPy (rowD (b, j))) = if a = b then decide (i < j) else decide (a < b) := by
  have h : (sl a == sl b) = decide (a = b) := by
    by_cases q : a = b
    · subst q; simp
    · have : sl a ≠ sl b := fun z => q (sl_inj z)
      simp [q, this]
  simp only [rowD, toPy, toPys]
  rw [PySem.W.dataLt_pair (by simp [PySem.W.alike]) (by simp [PySem.W.alike])]
  rw [PySem.W.dataLt_int, PySem.W.dataLt_str]
  simp only [PyData.eqv, h, ibeq, decide_eq_true_eq]
  have e : ∀ x : List Nat, (sl x).cps.toList = x := fun x => by simp [sl]
  rw [e, e]
  by_cases q : a = b
  · simp only [q, if_true]
    by_cases q2 : i = j
    · simp [q2]
    · simp [q2]
  · simp only [q, if_false]
theorem rows_lt : ∀ rs ss : List (List Nat × Int), PyProof.Rows.lexLt PyProof.Rows.itemOrd (PySem.W.keyToksAll (toPys (rs.map rowD))) (PySem.W.keyToksAll (toPys (ss.map rowD))) = rlt rs ss
  | [], [] => by simp [toPys, rlt, PySem.W.keyToksAll, PyProof.Rows.lex_irrefl]
  | [], s :: ss => by
    simp only [List.map_nil, List.map_cons, toPys, rlt, PySem.W.keyToksAll]
    rw [PyProof.Rows.lex_diff (O := PyProof.Rows.itemOrd) (by simp)]
    rfl
  | r :: rs, [] => by
    simp only [List.map_nil, List.map_cons, toPys, rlt, PySem.W.keyToksAll]
    rw [PyProof.Rows.lex_diff (O := PyProof.Rows.itemOrd) (by simp)]
    rfl
  | (a, i) :: r, (b, j) :: s => by
    simp only [List.map_cons, toPys]
    rw [PySem.W.dataLt_cons (alike_row a b i j), rows_lt r s, eqv_row, lt_row]
    rw [rlt]
    by_cases q : a = b
    · subst q
      by_cases q2 : i = j
      · simp [q2]
      · simp [q2]
    · simp [q]
noncomputable abbrev lt (x y : D) : Bool := PySem.W.dataLt (keyOf rankK x) (keyOf rankK y)
theorem lt_irr (x : D) : lt x x = false := PyProof.Rows.lex_irrefl _
theorem lt_trans {x y z : D} (h : lt x y = true) (h' : lt y z = true) : lt x z = true := PyProof.Rows.lex_trans _ _ _ h h'
theorem key_out {x : D} (h : Out x) : ∃ a b c, keyOf rankK x = .tuple [.int a, .int b, .tuple c] := by
  cases h with
  | non => exact ⟨0, 0, [], rfl⟩
  | int i => exact ⟨1, i, [], rfl⟩
  | rcd rs => exact ⟨2, 0, _, rfl⟩
theorem lt_key (a b a' b' : Int) (c c' : List PyData) (h : PySem.W.alikeAll c c' = true) (h2 : PyData.eqvAll c c' = true → PyProof.Rows.lexLt PyProof.Rows.itemOrd (PySem.W.keyToksAll c) (PySem.W.keyToksAll c') = false) :
    PySem.W.dataLt (.tuple [.int a, .int b, .tuple c]) (.tuple [.int a', .int b', .tuple c']) = if a = a' then (if b = b' then PyProof.Rows.lexLt PyProof.Rows.itemOrd (PySem.W.keyToksAll c) (PySem.W.keyToksAll c') else decide (b < b')) else decide (a < a') := by
  rw [PySem.W.dataLt_tuple, PySem.W.dataLt_cons (by simp [PySem.W.alike]), PySem.W.dataLt_cons (by simp [PySem.W.alike]), PySem.W.dataLt_cons (by simpa [PySem.W.alike] using h), PySem.W.dataLt_int, PySem.W.dataLt_int, PySem.W.dataLt_tuple, PyProof.Rows.lex_irrefl]
  have h3 : PyData.eqv (.tuple c) (.tuple c') = PyData.eqvAll c c' := by simp [PyData.eqv]
  rw [← h3] at h2
  have h4 : ∀ i j : Int, PyData.eqv (.int i) (.int j) = decide (i = j) := fun i j => by simp [PyData.eqv, ibeq]
  rw [h4, h4]
  generalize PyData.eqv (.tuple c) (.tuple c') = e at h2 ⊢
  by_cases q : a = a'
  · by_cases q2 : b = b'
    · cases e with
      | true => simp [q, q2, h2]
      | false => simp [q, q2]
    · simp [q, q2]
  · simp [q]
theorem lt_nn : lt .non .non = false := lt_irr _
theorem lt_ni (i : Int) : lt .non (.int i) = true := by
  show PySem.W.dataLt (.tuple [.int 0, .int 0, .tuple []]) (.tuple [.int 1, .int i, .tuple []]) = true
  rw [lt_key _ _ _ _ _ _ (by simp [PySem.W.alikeAll]) (fun _ => PyProof.Rows.lex_irrefl _)]
  simp
theorem lt_in (i : Int) : lt (.int i) .non = false := by
  show PySem.W.dataLt (.tuple [.int 1, .int i, .tuple []]) (.tuple [.int 0, .int 0, .tuple []]) = false
  rw [lt_key _ _ _ _ _ _ (by simp [PySem.W.alikeAll]) (fun _ => PyProof.Rows.lex_irrefl _)]
  simp
theorem lt_ii (i j : Int) : lt (.int i) (.int j) = decide (i < j) := by
  show PySem.W.dataLt (.tuple [.int 1, .int i, .tuple []]) (.tuple [.int 1, .int j, .tuple []]) = _
  rw [lt_key _ _ _ _ _ _ (by simp [PySem.W.alikeAll]) (fun _ => PyProof.Rows.lex_irrefl _), PyProof.Rows.lex_irrefl]
  by_cases q : i = j <;> simp [q]
theorem rows_alike : ∀ rs ss : List (List Nat × Int), PySem.W.alikeAll (toPys (rs.map rowD)) (toPys (ss.map rowD)) = true
  | [], _ => by simp [toPys, PySem.W.alikeAll]
  | _ :: _, [] => by simp [toPys, PySem.W.alikeAll]
  | (a, i) :: r, (b, j) :: s => by
    simp only [List.map_cons, toPys, PySem.W.alikeAll, alike_row, rows_alike r s, Bool.and_self]
theorem rows_eq : ∀ rs ss : List (List Nat × Int), PyData.eqvAll (toPys (rs.map rowD)) (toPys (ss.map rowD)) = decide (rs = ss)
  | [], [] => by simp [toPys, PyData.eqvAll]
  | [], _ :: _ => by simp [toPys, PyData.eqvAll]
  | _ :: _, [] => by simp [toPys, PyData.eqvAll]
  | (a, i) :: r, (b, j) :: s => by
    simp only [List.map_cons, toPys, PyData.eqvAll, eqv_row, rows_eq r s]
    by_cases q : a = b <;> by_cases q2 : i = j <;> by_cases q3 : r = s <;> simp [q, q2, q3]
theorem lt_nr (rs : List (List Nat × Int)) : lt .non (.tup (rs.map rowD)) = true := by
  show PySem.W.dataLt (.tuple [.int 0, .int 0, .tuple []]) (.tuple [.int 2, .int 0, .tuple (toPys (rs.map rowD))]) = true
  rw [PySem.W.dataLt_tuple, PySem.W.dataLt_cons (by simp [PySem.W.alike]), PySem.W.dataLt_int]
  simp [PyData.eqv]
theorem lt_rn (rs : List (List Nat × Int)) : lt (.tup (rs.map rowD)) .non = false := by
  show PySem.W.dataLt (.tuple [.int 2, .int 0, .tuple (toPys (rs.map rowD))]) (.tuple [.int 0, .int 0, .tuple []]) = false
  rw [PySem.W.dataLt_tuple, PySem.W.dataLt_cons (by simp [PySem.W.alike]), PySem.W.dataLt_int]
  simp [PyData.eqv]
theorem lt_ir (i : Int) (rs : List (List Nat × Int)) : lt (.int i) (.tup (rs.map rowD)) = true := by
  show PySem.W.dataLt (.tuple [.int 1, .int i, .tuple []]) (.tuple [.int 2, .int 0, .tuple (toPys (rs.map rowD))]) = true
  rw [PySem.W.dataLt_tuple, PySem.W.dataLt_cons (by simp [PySem.W.alike]), PySem.W.dataLt_int]
  simp [PyData.eqv]
theorem lt_ri (i : Int) (rs : List (List Nat × Int)) : lt (.tup (rs.map rowD)) (.int i) = false := by
  show PySem.W.dataLt (.tuple [.int 2, .int 0, .tuple (toPys (rs.map rowD))]) (.tuple [.int 1, .int i, .tuple []]) = false
  rw [PySem.W.dataLt_tuple, PySem.W.dataLt_cons (by simp [PySem.W.alike]), PySem.W.dataLt_int]
  simp [PyData.eqv]
theorem rlt_self : ∀ rs : List (List Nat × Int), rlt rs rs = false
  | [] => rfl
  | (a, i) :: r => by rw [rlt]; simp [rlt_self r]
theorem lt_rr (rs ss : List (List Nat × Int)) : lt (.tup (rs.map rowD)) (.tup (ss.map rowD)) = rlt rs ss := by
  show PySem.W.dataLt (.tuple [.int 2, .int 0, .tuple (toPys (rs.map rowD))]) (.tuple [.int 2, .int 0, .tuple (toPys (ss.map rowD))]) = _
  rw [lt_key _ _ _ _ _ _ (rows_alike rs ss) (fun h => by
    rw [rows_eq] at h
    have := of_decide_eq_true h
    subst this
    exact PyProof.Rows.lex_irrefl _)]
  simp [rows_lt]
theorem rlt_tot : ∀ rs ss : List (List Nat × Int), rlt rs ss = false → rlt ss rs = false → rs = ss
  | [], [], _, _ => rfl
  | [], _ :: _, h, _ => by simp [rlt] at h
  | _ :: _, [], _, h => by simp [rlt] at h
  | (a, i) :: r, (b, j) :: s, h, h' => by
    rw [rlt] at h h'
    by_cases q : a = b
    · subst q
      by_cases q2 : i = j
      · subst q2
        simp at h h'
        rw [rlt_tot r s h h']
      · have q3 : ¬ j = i := fun z => q2 z.symm
        simp [q2, q3] at h h'
        omega
    · have q3 : ¬ b = a := fun z => q z.symm
      simp [q, q3] at h h'
      exact absurd (List.le_antisymm h' h) q
theorem lt_tot {x y : D} (hx : Out x) (hy : Out y) (h : lt x y = false) (h' : lt y x = false) : x = y := by
  cases hx with
  | non => cases hy with
    | non => rfl
    | int j => rw [lt_ni] at h; cases h
    | rcd ss => rw [lt_nr] at h; cases h
  | int i => cases hy with
    | non => rw [lt_ni] at h'; cases h'
    | int j =>
      rw [lt_ii] at h h'
      have : i = j := by simp at h h'; omega
      rw [this]
    | rcd ss => rw [lt_ir] at h; cases h
  | rcd rs => cases hy with
    | non => rw [lt_nr] at h'; cases h'
    | int j => rw [lt_ir] at h'; cases h'
    | rcd ss =>
      rw [lt_rr] at h h'
      rw [rlt_tot rs ss h h']
theorem out_eq {x y : D} (hx : Out x) (hy : Out y) : eqD x y = decide (x = y) := by
  by_cases q : x = y
  · subst q; rw [hx.eqD]; simp
  · have : eqD x y = false := by
      cases hx with
      | non => cases hy <;> first | exact absurd rfl q | simp [eqD, toPy, PyData.eqv]
      | int i => cases hy with
        | non => simp [eqD, toPy, PyData.eqv]
        | int j =>
          have : i ≠ j := fun z => q (by rw [z])
          simp [eqD, toPy, PyData.eqv, this]
        | rcd ss => simp [eqD, toPy, PyData.eqv]
      | rcd rs => cases hy with
        | non => simp [eqD, toPy, PyData.eqv]
        | int j => simp [eqD, toPy, PyData.eqv]
        | rcd ss =>
          have : rs ≠ ss := fun z => q (by rw [z])
          simp [eqD, toPy, PyData.eqv, rows_eq, this]
    rw [this]; simp [q]
/-! rising lists of outcomes -/
abbrev Ris (L : List D) : Prop := L.Pairwise fun a b => lt a b = true
theorem ris_one : ∀ {L L' : List D}, Ris L → Ris L' → (∀ x, x ∈ L ↔ x ∈ L') → L = L'
  | [], [], _, _, _ => rfl
  | [], y :: s, _, _, h => by have := (h y).mpr (by simp); simp at this
  | x :: r, [], _, _, h => by have := (h x).mp (by simp); simp at this
  | x :: r, y :: s, hr, hs, h => by
    obtain ⟨r1, r2⟩ := List.pairwise_cons.mp hr
    obtain ⟨s1, s2⟩ := List.pairwise_cons.mp hs
    have exy : x = y := by
      rcases List.mem_cons.mp ((h x).mp (by simp)) with q | q
      · exact q
      · rcases List.mem_cons.mp ((h y).mpr (by simp)) with q' | q'
        · exact q'.symm
        · have := lt_trans (s1 x q) (r1 y q')
          rw [lt_irr] at this; cases this
    subst exy
    rw [ris_one r2 s2 fun z => ⟨fun hz => ?_, fun hz => ?_⟩]
    · rcases List.mem_cons.mp ((h z).mp (by simp [hz])) with q | q
      · subst q; have := r1 z hz; rw [lt_irr] at this; cases this
      · exact q
    · rcases List.mem_cons.mp ((h z).mpr (by simp [hz])) with q | q
      · subst q; have := s1 z hz; rw [lt_irr] at this; cases this
      · exact q
theorem ris_add {L : List D} {x : D} (h : Ris L) (hx : ∀ y ∈ L, lt y x = true) : Ris (L ++ [x]) := by
  rw [Ris, List.pairwise_append]
  exact ⟨h, by simp, fun a ha b hb => by simp at hb; subst hb; exact hx a ha⟩
theorem ris_ins {L : List D} {x : D} {k : Nat} (h : Ris L) (h1 : ∀ y ∈ L.take k, lt y x = true) (h2 : ∀ y ∈ L.drop k, lt x y = true) : Ris (L.take k ++ [x] ++ L.drop k) := by
  have h0 : Ris (L.take k ++ L.drop k) := by rw [List.take_append_drop]; exact h
  rw [Ris, List.pairwise_append] at h0
  obtain ⟨a, b, c⟩ := h0
  rw [Ris, List.pairwise_append]
  refine ⟨ris_add a h1, b, fun u hu v hv => ?_⟩
  rcases List.mem_append.mp hu with q | q
  · exact c u q v hv
  · simp at q; subst q; exact h2 v hv
theorem pl_out {L : List D} (h : ∀ x ∈ L, Out x) : Pl 60 (.lst L) := by
  have key : ∀ {xs : List D}, (∀ x ∈ xs, Out x) → PyData.plainAll (toPys xs) = true ∧ PyData.depthAll (toPys xs) ≤ 50 := by
    intro xs
    induction xs with
    | nil => intro _; simp [toPys, PyData.plainAll, PyData.depthAll]
    | cons x xs ih =>
      intro hh
      obtain ⟨a, b⟩ := ih fun y hy => hh y (by simp [hy])
      have c := (hh x (by simp)).pl
      simp only [toPys, PyData.plainAll, PyData.depthAll, a, c.1, Bool.and_self, true_and]
      omega
  obtain ⟨a, b⟩ := key h
  unfold Pl
  simp only [toPy, PyData.plain, PyData.depth, a, true_and]
  omega
theorem eqv_outs : ∀ {xs : List D}, (∀ x ∈ xs, Out x) → PyData.eqvAll (toPys xs) (toPys xs) = true
  | [], _ => by simp [toPys, PyData.eqvAll]
  | x :: xs, h => by
    have ih := eqv_outs (xs := xs) fun y hy => h y (by simp [hy])
    simp only [toPys, PyData.eqvAll, ih, (h x (by simp)).eqv, Bool.and_self]
theorem eqD_outs {xs : List D} (h : ∀ x ∈ xs, Out x) : eqD (.lst xs) (.lst xs) = true := by
  simp only [eqD, toPy, PyData.eqv]; exact eqv_outs h
theorem eq_nil {L : List D} (h : ∀ x ∈ L, Out x) {m : M} (hm : fz m = .lst L) : oEq m (.lst []) = .ok (.bl (decide (L = []))) := by
  have h1 := pl_out h
  have h2 : Pl 60 (.lst ([] : List D)) := pl_out (by simp)
  unfold oEq
  have hz : fz (M.lst []) = .lst [] := rfl
  rw [if_pos (by rw [hm, hz]; exact ⟨h1.1, h2.1, by have := h1.2; omega⟩), hm, hz]
  cases L with
  | nil => simp [eqD, toPy, toPys, PyData.eqv, PyData.eqvAll]
  | cons x xs => simp [eqD, toPy, toPys, PyData.eqv, PyData.eqvAll]
theorem mIdx_own {L : List D} {k : Nat} {x : D} (h : L[k]? = some x) : mIdx (.lst (L.map .d)) (.d (.int (k : Int))) = .ok (.d x) := by
  have hk : k < L.length := (List.getElem?_eq_some_iff.mp h).1
  have : (L.map M.d)[k]? = some (.d x) := by rw [List.getElem?_map, h]; rfl
  simp only [mIdx, M.seq, atI_nat (show k < (L.map M.d).length by simpa using hk), this]
theorem mIdx_last {L : List D} {x : D} : mIdx (.lst ((L ++ [x]).map .d)) (.d (.int (-1))) = .ok (.d x) := by
  have e : ((L ++ [x]).map M.d)[L.length]? = some (.d x) := by simp
  have hi : ixN (L.length + 1) (-1) = some L.length := by
    unfold ixN
    simp
    omega
  simp only [mIdx, M.seq, atI, List.length_map, List.length_append, List.length_cons, List.length_nil, Nat.zero_add, hi]
  simp
/-! in_order -/
theorem key_depth {x : D} (h : Out x) : (keyOf rankK x).depth ≤ 60 := by
  cases h with
  | non => simp [keyOf, rankK, toPy, PyData.depth, PyData.depthAll]
  | int i => simp [keyOf, rankK, toPy, PyData.depth, PyData.depthAll]
  | rcd rs =>
    have := (rows_plain rs).2
    simp only [keyOf, rankK, toPy, Option.getD_some, PyData.depth, PyData.depthAll]
    omega
theorem noL_rows : ∀ rs : List (List Nat × Int), noLs (toPys (rs.map rowD)) = true
  | [] => by simp [toPys, noLs]
  | r :: rs => by simp [toPys, noLs, noL, rowD, toPy, noL_rows rs]
theorem key_alike {x y : D} (hx : Out x) (hy : Out y) : PySem.W.alike (keyOf rankK x) (keyOf rankK y) = true := by
  have h0 : ∀ xs : List PyData, PySem.W.alikeAll xs [] = true := fun xs => by cases xs <;> simp [PySem.W.alikeAll]
  cases hx <;> cases hy <;> simp [keyOf, rankK, toPy, PySem.W.alike, PySem.W.alikeAll, rows_alike, h0]
theorem srtOk_out {xs : List D} (h : ∀ x ∈ xs, Out x) : SrtKOk rankK xs := by
  refine ⟨fun x hx => ?_, ?_, ?_⟩
  · have ho := h x hx
    refine ⟨ho.pl.1, ?_, ?_, key_depth ho⟩
    · cases ho with
      | non => rfl
      | int i => rfl
      | rcd rs => simp only [toPy, noL]; exact noL_rows rs
    · cases ho <;> rfl
  · intro d hd d' hd'
    obtain ⟨x, hx, rfl⟩ := List.mem_map.mp hd
    obtain ⟨y, hy, rfl⟩ := List.mem_map.mp hd'
    exact key_alike (h x hx) (h y hy)
  · left
    intro d hd
    obtain ⟨x, hx, rfl⟩ := List.mem_map.mp hd
    obtain ⟨a, b, c, e⟩ := key_out (h x hx)
    exact ⟨_, _, e⟩
theorem srt_mem {xs : List D} (x : D) : x ∈ srtK rankK xs ↔ x ∈ xs := (List.mergeSort_perm _ _).mem_iff
theorem srt_len (xs : List D) : (srtK rankK xs).length = xs.length := List.length_mergeSort _
theorem srt_pw (xs : List D) : (srtK rankK xs).Pairwise fun a b => lt b a = false := by
  have h := PySem.W.sort_pairwise (PySem.W.sortLe_total (PyProof.Rows.listOrd PyProof.Rows.itemOrd) false fun b => PySem.W.keyToks (keyOf rankK b)) xs
  have h' : (srtK rankK xs).Pairwise fun a b => PySem.W.dataLe false (keyOf rankK) a b = true := h
  refine h'.imp fun {a b} q => ?_
  rw [PySem.W.dataLe_eq] at q
  simpa using q
abbrev oE (A : Option M) (L : List D) (z : Option M) : FL.Env := [A, some (.lst (L.map .d)), z]
theorem in_order_ok {A : M} {xs : List D} (hA : brw A = some (false, xs)) (ho : ∀ x ∈ xs, Out x) (hl : xs.length ≤ 100) :
    ∃ L, (Ris L ∧ (∀ x, x ∈ L ↔ x ∈ xs) ∧ L.length ≤ 100) ∧ F_in_order [A] = .ok (.lst (L.map .d), [some A]) := by
  obtain ⟨e', h1, L, z2, ⟨hR, hO, hm, hlen⟩, rfl⟩ := fl_all (g := fg_in_order_1) (b := fb_in_order_1) (fun x : D => x)
    (fun rest env => ∃ L z2, (Ris L ∧ (∀ x ∈ rest, Out x ∧ ∀ y ∈ L, lt x y = false) ∧ (∀ x, x ∈ L ∨ x ∈ rest ↔ x ∈ xs) ∧ L.length + rest.length ≤ 100 ∧ rest.Pairwise fun a b => lt b a = false) ∧ env = oE (some A) L z2)
    (fun x rest env hI => by
      obtain ⟨L, z2, ⟨hR, hO, hm, hlen, hP⟩, rfl⟩ := hI
      obtain ⟨p1, p2⟩ := List.pairwise_cons.mp hP
      simp only [List.length_cons] at hlen
      have hx := (hO x (by simp)).1
      have hLo : ∀ y ∈ L, Out y := fun y hy => ho y ((hm y).mp (.inl hy))
      have hs : L.length < 16777216 := by omega
      have happ : (∀ y ∈ L, lt y x = true) → Ris (L ++ [x]) ∧ (∀ z ∈ rest, Out z ∧ ∀ y ∈ L ++ [x], lt z y = false) ∧ (∀ z, z ∈ L ++ [x] ∨ z ∈ rest ↔ z ∈ xs) ∧ (L ++ [x]).length + rest.length ≤ 100 ∧ rest.Pairwise fun a b => lt b a = false := fun hlt =>
        ⟨ris_add hR hlt, fun z hz => ⟨(hO z (by simp [hz])).1, fun y hy => by
          rcases List.mem_append.mp hy with q | q
          · exact (hO z (by simp [hz])).2 y q
          · simp at q; subst q; exact p1 z hz⟩, fun z => by rw [← hm z]; simp [or_assoc], by simp; omega, p2⟩
      refine ⟨oE (some A) L (some (.d x)), ?_⟩
      by_cases hn : L = []
      · subst hn
        have := happ (by simp)
        refine ⟨oE (some A) ([] ++ [x]) (some (.d x)), .nx, by simp [fg_in_order_1, sgN, oE], ?_, .inl rfl, [] ++ [x], _, this, rfl⟩
        unfold fb_in_order_1
        simp [oE, eq_nil (L := []) (m := .lst []) (by simp) rfl, runF, ssSeq, ssSet, ssIf, ssRet, ssDrop, ssNil, ssRaise, ssPar, setAll, ssAsg, sgN, sgNil, sgCons, sgTup, sbE, sbNot, sbAnd, sbOr, sNotV, sAndV, sOrV, sIf, sV, v2, vN, vC, getE, sN, sT, s2, s2v, s2n, sCall, saCons, saNil, putBack, killAll, sTup, mTup, isD, unD, sLst, vIx, mIdx, M.seq, atI, ixN, vB, vaCons, vaNil, bAbs, b1I, b2I, bLen, vIsi, tyM, tyD, isiB, fz, oAdd_int, oSub_int, oMul_int, oFdiv_int, oMod_int, oPow_int, oLt_int, oLe_int, oGt_int, oGe_int, oEq_int, oNe_int, sizeLine_eq, vNeg, ssSetI, sMeth, isLst, mAppend]
      · obtain ⟨L0, y, rfl⟩ : ∃ L0 y, L = L0 ++ [y] := ⟨L.dropLast, L.getLast hn, (List.dropLast_concat_getLast hn).symm⟩
        have hy := hLo y (by simp)
        have hne : oNe (.d y) (.d x) = .ok (.bl (!decide (y = x))) := by rw [oNe_out hy hx, out_eq hy hx]
        have hq := eq_nil (m := .lst ((L0 ++ [y]).map .d)) hLo (by simp only [fz, fzs_d])
        simp only [hn, decide_false] at hq
        obtain ⟨B, hB⟩ : ∃ B : M, B = .lst ((L0 ++ [y]).map .d) := ⟨_, rfl⟩
        have hlast : mIdx B (.d (.int (-1))) = .ok (.d y) := by rw [hB]; exact mIdx_last
        have happ2 : mAppend B [.d x] = .ok (.d .non, .lst (((L0 ++ [y]) ++ [x]).map .d)) := by
          rw [hB]
          have hz : ((L0 ++ [y]).map M.d).length < sizeLine := by rw [List.length_map, sizeLine_eq]; exact hs
          simp only [mAppend]
          rw [if_pos hz]
          simp
        have hi : isLst B = true := by rw [hB]; rfl
        by_cases hyx : y = x
        · subst hyx
          refine ⟨oE (some A) (L0 ++ [y]) (some (.d y)), .nx, by simp [fg_in_order_1, sgN, oE], ?_, .inl rfl, L0 ++ [y], _, ⟨hR, fun z hz => hO z (by simp [hz]), fun z => by rw [← hm z]; by_cases hzy : z = y <;> simp [hzy], by omega, p2⟩, rfl⟩
          unfold fb_in_order_1
          rw [← hB] at hq
          simp only [oE, ← hB]
          simp [ssIf, sbOr, sbE, s2n, sLst, saNil, getE, hq, sV, v2, vIx, vN, vNeg, vC, hlast, hne, ssNil]
        · have hlt : ∀ w ∈ L0 ++ [y], lt w x = true := fun w hw => by
            have h0 := (hO x (by simp)).2 w hw
            cases hc : lt w x with
            | true => rfl
            | false =>
              exfalso
              have e := lt_tot (hLo w hw) hx hc h0
              subst e
              rcases List.mem_append.mp hw with q | q
              · have h2 := (List.pairwise_append.mp hR).2.2 w q y (by simp)
                rw [(hO w (by simp)).2 y (by simp)] at h2
                cases h2
              · simp at q; exact hyx q.symm
          refine ⟨oE (some A) ((L0 ++ [y]) ++ [x]) (some (.d x)), .nx, by simp [fg_in_order_1, sgN, oE], ?_, .inl rfl, (L0 ++ [y]) ++ [x], _, happ hlt, rfl⟩
          unfold fb_in_order_1
          rw [← hB] at hq
          simp only [oE, ← hB]
          simp [ssIf, sbOr, sbE, s2n, sLst, saNil, getE, hq, sV, v2, vIx, vN, vNeg, vC, hlast, hne, hyx, ssDrop, sMeth, hi, saCons, sN, fz, happ2])
    (srtK rankK xs) (oE (some A) [] none) ⟨[], none, ⟨List.Pairwise.nil, fun x hx => ⟨ho x ((srt_mem x).mp hx), by simp⟩, fun x => by simp [srt_mem], by rw [srt_len]; simpa using hl, srt_pw xs⟩, rfl⟩
  refine ⟨L, ⟨hR, fun x => by rw [← hm x]; simp, by simp at hlen; omega⟩, ?_⟩
  unfold F_in_order
  refine runF_ret (e := [some A, none, z2]) ?_
  unfold b_in_order
  show ssSeq _ _ [some A, none, none] = _
  rw [ssSeq_nx (e := oE (some A) [] none) (by simp [oE, runF, ssSeq, ssSet, ssIf, ssRet, ssDrop, ssNil, ssRaise, ssPar, setAll, ssAsg, sgN, sgNil, sgCons, sgTup, sbE, sbNot, sbAnd, sbOr, sNotV, sAndV, sOrV, sIf, sV, v2, vN, vC, getE, sN, sT, s2, s2v, s2n, sCall, saCons, saNil, putBack, killAll, sTup, mTup, isD, unD, sLst, vIx, mIdx, M.seq, atI, ixN, vB, vaCons, vaNil, bAbs, b1I, b2I, bLen, vIsi, tyM, tyD, isiB, fz, oAdd_int, oSub_int, oMul_int, oFdiv_int, oMod_int, oPow_int, oLt_int, oLe_int, oGt_int, oGe_int, oEq_int, oNe_int, sizeLine_eq, vNeg, ssSetI, sMeth, isLst, mAppend])]
  rw [ssSeq_nx (show ssFor (siQ (sSortedK rankK (vN 0))) fg_in_order_1 fb_in_order_1 (oE (some A) [] none) = .ok (.nx, oE (some A) L z2) from by
    have e1 : siQ (sSortedK rankK (vN 0)) (oE (some A) [] none) = .ok (srtK rankK xs, oE (some A) [] none) := by
      simp only [siQ, sSortedK, vN, oE, getE, List.getElem?_cons_zero, hA, if_pos (srtOk_out ho), fz, fzs_d]
      rfl
    simp only [ssFor, e1]
    simpa using h1)]
  simp [ssRet, sT, sN, getE, oE]
/-! weights by outcome -/
noncomputable def wt : List (D × Int) → D → Int
  | [], _ => 0
  | p :: ps, o => (if p.1 = o then p.2 else 0) + wt ps o
theorem wt_app (ps qs : List (D × Int)) (o : D) : wt (ps ++ qs) o = wt ps o + wt qs o := by
  induction ps with
  | nil => simp [wt]
  | cons p ps ih => simp only [List.cons_append, wt, ih]; omega
theorem wt_not {ps : List (D × Int)} {o : D} (h : o ∉ ps.map (·.1)) : wt ps o = 0 := by
  induction ps with
  | nil => rfl
  | cons p ps ih =>
    simp only [List.map_cons, List.mem_cons, not_or] at h
    rw [wt, if_neg (fun e => h.1 e.symm), ih h.2]; rfl
theorem wt_bd {ps : List (D × Int)} {o : D} {B : Int} (hB : 0 ≤ B) (h : ∀ p ∈ ps, 0 ≤ p.2 ∧ p.2 ≤ B) : 0 ≤ wt ps o ∧ wt ps o ≤ B * ps.length := by
  induction ps with
  | nil => simp [wt]
  | cons p ps ih =>
    obtain ⟨a, b⟩ := ih fun q hq => h q (by simp [hq])
    have c := h p (by simp)
    have e : B * ((p :: ps).length : Int) = B * ps.length + B := by rw [List.length_cons]; push_cast; rw [Int.mul_add, Int.mul_one]
    rw [wt]
    split <;> omega
abbrev W100 (ps : List (D × Int)) : Prop := (∀ p ∈ ps, Out p.1 ∧ 0 ≤ p.2 ∧ p.2 ≤ 2 ^ 560) ∧ ps.length ≤ 100
theorem W100.wt {ps : List (D × Int)} (h : W100 ps) (o : D) : 0 ≤ wt ps o ∧ wt ps o < 2 ^ 600 := by
  have h1 := wt_bd (o := o) (B := 2 ^ 560) (by decide) fun p hp => (h.1 p hp).2
  have h2 : ((2 : Int) ^ 560) * ps.length ≤ 2 ^ 560 * 100 := Int.mul_le_mul_of_nonneg_left (by have := h.2; omega) (by decide)
  have h3 : (2 : Int) ^ 560 * 100 < 2 ^ 600 := by decide
  omega
theorem frP_0 {C : Int} (hC : W112 C) : frP C 0 = g_NOTHING := by
  obtain ⟨a, b⟩ := low_zero hC.1
  simp only [frP, a, b, g_NOTHING]
theorem ne_nothing {C w : Int} (hC : W112 C) (hw : 0 ≤ w) : oNe (.d (frP C w)) (.d g_NOTHING) = .ok (.bl (decide (0 < w))) := by
  have h0 : ∀ a b c d : Int, oNe (.d (.tup [.int a, .int b])) (.d (.tup [.int c, .int d])) = .ok (.bl (!(decide (a = c) && decide (b = d)))) := fun a b c d => by
    have := oEq_pair a b c d
    unfold oEq at this
    unfold oNe
    split at this
    · rename_i h
      rw [if_pos h]
      injection this with h1
      injection h1 with h2
      rw [h2]
    · cases this
  rw [frP, g_NOTHING, h0]
  by_cases q : w = 0
  · subst q
    obtain ⟨a, b⟩ := low_zero hC.1
    simp [a, b]
  · have := lowT_pos hC.1 (show 0 < w by omega)
    have h1 : ¬ lowT w C = 0 := by omega
    have h2 : 0 < w := by omega
    simp [h1, h2]
theorem plus_frP {C a b : Int} (hC : W112 C) (ha : 0 ≤ a ∧ a < 2 ^ 600) (hb : 0 ≤ b ∧ b < 2 ^ 600) : F_plus [.d (frP C a), .d (frP C b)] = .ok (.d (frP C (a + b)), [some (.d (frP C a)), some (.d (frP C b))]) := by
  obtain ⟨a1, a2, a3⟩ := low_sz hC ha
  obtain ⟨b1, b2, b3⟩ := low_sz hC hb
  have h := plus_int a3 b3 a1 a2 b1 b2
  obtain ⟨e1, e2⟩ := low_add (w := a) (v := b) hC.1
  rw [e1, e2] at h
  exact h
/-! the table's dict -/
structure Dct (ps : List (D × Int)) (ks : List D) : Prop where
  nd : ks.Nodup
  mem : ∀ o, o ∈ ks ↔ o ∈ ps.map (·.1)
  len : ks.length ≤ ps.length
noncomputable abbrev dcM (C : Int) (ps : List (D × Int)) (ks : List D) : M := .dic ks (ks.map fun o => M.d (frP C (wt ps o)))
abbrev tE (A : M) (m : M) (z2 z3 : Option M) : FL.Env := [some A, some m, z2, z3]
theorem table_turn {A : M} {C : Int} {ps : List (D × Int)} {ks : List D} {o : D} {w : Int} (hC : W112 C) (hp : W100 (ps ++ [(o, w)])) (hk : Dct ps ks) :
    ∃ ks', Dct (ps ++ [(o, w)]) ks' ∧ fb_table_1 (tE A (dcM C ps ks) (some (.d o)) (some (.d (frP C w)))) = .ok (.nx, tE A (dcM C (ps ++ [(o, w)]) ks') (some (.d o)) (some (.d (frP C w)))) := by
  have hpo := hp.1 (o, w) (by simp)
  have hp0 : W100 ps := ⟨fun p h => hp.1 p (by simp [h]), by have := hp.2; simp at this; omega⟩
  have hwo := hp0.wt o
  have hkey := hpo.1.key
  have hget : mGet (dcM C ps ks) o (.d g_NOTHING) = .ok (.d (frP C (wt ps o))) := by
    rw [mGet_map hkey]
    by_cases h : o ∈ ks
    · rw [if_pos h]
    · rw [if_neg h, wt_not (fun z => h ((hk.mem o).mpr z)), frP_0 hC]
  have hplus := plus_frP hC hwo (show 0 ≤ w ∧ w < 2 ^ 600 from ⟨hpo.2.1, Int.lt_of_le_of_lt hpo.2.2 (by decide)⟩)
  have e1 : sCall F_plus [none, none] (saCons (sV (vGet2 (vN 1) (vN 2) (vC g_NOTHING))) (saCons (sN 3) (saNil))) (tE A (dcM C ps ks) (some (.d o)) (some (.d (frP C w)))) = .ok (.d (frP C (wt ps o + w)), tE A (dcM C ps ks) (some (.d o)) (some (.d (frP C w)))) := by
    simp only [sCall, saCons, saNil, sV, vGet2, vN, vC, tE, getE, List.getElem?_cons_succ, List.getElem?_cons_zero, hget, sN, fz, hplus, putBack]
  have hz : ks.length < sizeLine := by rw [sizeLine_eq]; have := hk.len; have := hp0.2; omega
  have e2 : fb_table_1 (tE A (dcM C ps ks) (some (.d o)) (some (.d (frP C w)))) = .ok (.nx, tE A (putD ks (ks.map fun o => M.d (frP C (wt ps o))) o (.d (frP C (wt ps o + w)))) (some (.d o)) (some (.d (frP C w)))) := by
    unfold fb_table_1
    simp only [ssSetD, e1]
    simp only [tE, dcM, vN, getE, List.getElem?_cons_succ, List.getElem?_cons_zero]
    rw [if_pos ⟨hkey, hz⟩]
    rfl
  have hval : ∀ k : D, (if k = o then M.d (frP C (wt ps o + w)) else M.d (frP C (wt ps k))) = M.d (frP C (wt (ps ++ [(o, w)]) k)) := fun k => by
    rw [wt_app]
    by_cases h : k = o
    · subst h; simp [wt]
    · have h2 : ¬ o = k := fun z => h z.symm
      simp [wt, h, h2]
  by_cases h : o ∈ ks
  · refine ⟨ks, ⟨hk.nd, fun x => ?_, by have := hk.len; simp; omega⟩, ?_⟩
    · rw [hk.mem x, List.map_append, List.mem_append]
      constructor
      · exact .inl
      · rintro (q | q)
        · exact q
        · simp at q; subst q; exact (hk.mem _).mp h
    · rw [e2, putD_in hk.nd h]
      simp only [hval]
  · refine ⟨ks ++ [o], ⟨?_, fun x => ?_, by have := hk.len; simp; omega⟩, ?_⟩
    · rw [List.nodup_append]
      exact ⟨hk.nd, by simp, fun a ha b hb => by simp at hb; subst hb; exact fun e => h (e ▸ ha)⟩
    · rw [List.map_append, List.mem_append, List.mem_append, hk.mem x]
      simp
    · rw [e2, putD_new h]
      simp only [hval]
/-- the rows in order, each with its outcome's weight -/
structure Rws (ps R : List (D × Int)) : Prop where
  ris : Ris (R.map (·.1))
  mem : ∀ o, o ∈ R.map (·.1) ↔ o ∈ ps.map (·.1)
  val : ∀ p ∈ R, p.2 = wt ps p.1
theorem rws_one {ps qs R R' : List (D × Int)} (h : Rws ps R) (h' : Rws qs R') (hm : ∀ o, o ∈ ps.map (·.1) ↔ o ∈ qs.map (·.1)) (hw : ∀ o, wt ps o = wt qs o) : R = R' := by
  have e := ris_one h.ris h'.ris fun o => by rw [h.mem, h'.mem, hm]
  have key : ∀ {A B : List (D × Int)}, A.map (·.1) = B.map (·.1) → (∀ p ∈ A, p.2 = wt ps p.1) → (∀ p ∈ B, p.2 = wt qs p.1) → A = B := by
    intro A
    induction A with
    | nil => intro B e _ _; cases B with
      | nil => rfl
      | cons b B => simp at e
    | cons a A ih =>
      intro B e h1 h2
      cases B with
      | nil => simp at e
      | cons b B =>
        simp only [List.map_cons, List.cons.injEq] at e
        have e1 := h1 a (by simp)
        have e2 := h2 b (by simp)
        rw [ih e.2 (fun p hp => h1 p (by simp [hp])) (fun p hp => h2 p (by simp [hp]))]
        have : a = b := Prod.ext e.1 (by rw [e1, e2, hw, e.1])
        rw [this]
  exact key e h.val h'.val
noncomputable abbrev pos (R : List (D × Int)) : List (D × Int) := R.filter fun p => decide (0 < p.2)
theorem table_ok {A : M} {C : Int} {ps : List (D × Int)} (hA : brw A = some (false, ps.map (frD C))) (hC : W112 C) (hp : W100 ps) :
    ∃ R, Rws ps R ∧ R.length ≤ 100 ∧ F_table [A] = .ok (.lst (((pos R).map (frD C)).map .d), [some A]) := by
  obtain ⟨e', h1, done, ks, z2, z3, ⟨hd, hk⟩, rfl⟩ := flw_all (ws := [0]) (env0 := tE A (.dic [] []) none none) (g := fg_table_1) (b := fb_table_1) (frD C)
    (fun rest env => ∃ done ks z2 z3, (done ++ rest = ps ∧ Dct done ks) ∧ env = tE A (dcM C done ks) z2 z3)
    (fun xs env ⟨done, ks, z2, z3, _, h⟩ => by subst h; intro i hi; simp at hi; subst hi; rfl)
    (fun p rest env ⟨done, ks, z2, z3, ⟨hd, hk⟩, h⟩ => by
      subst h
      obtain ⟨o, w⟩ := p
      have hp1 : W100 (done ++ [(o, w)]) := by
        have e : done ++ (o, w) :: rest = (done ++ [(o, w)]) ++ rest := by simp
        rw [e] at hd
        refine ⟨fun q hq => hp.1 q (by rw [← hd]; simp at hq ⊢; rcases hq with hq | hq <;> simp [hq]), ?_⟩
        have := hp.2
        rw [← hd, List.length_append] at this
        omega
      obtain ⟨ks', hk', hb⟩ := table_turn hC hp1 hk
      exact ⟨tE A (dcM C done ks) (some (.d o)) (some (.d (frP C w))), _, .nx, by simp [fg_table_1, frD, itemsD, itemsLT, tE, runF, ssSeq, ssSet, ssIf, ssRet, ssDrop, ssNil, ssRaise, ssPar, setAll, ssAsg, sgN, sgNil, sgCons, sgTup, sbE, sbNot, sbAnd, sbOr, sNotV, sAndV, sOrV, sIf, sV, v2, vN, vC, getE, sN, sT, s2, s2v, s2n, sCall, saCons, saNil, putBack, killAll, sTup, mTup, isD, unD, sLst, vIx, mIdx, M.seq, atI, ixN, vB, vaCons, vaNil, bAbs, b1I, b2I, bLen, vIsi, tyM, tyD, isiB, fz, oAdd_int, oSub_int, oMul_int, oFdiv_int, oMod_int, oPow_int, oLt_int, oLe_int, oGt_int, oGe_int, oEq_int, oNe_int, sizeLine_eq, vNeg, ssSetI, sMeth, isLst, mAppend], hb, .inl rfl, done ++ [(o, w)], ks', _, _, ⟨by rw [← hd]; simp, hk'⟩, rfl⟩)
    ps (tE A (.dic [] []) none none) ⟨[], [], none, none, ⟨rfl, ⟨List.nodup_nil, fun o => by simp, by simp⟩⟩, rfl⟩
  rw [List.append_nil] at hd
  subst hd
  have hks : ∀ o ∈ ks, Out o := fun o h => by
    obtain ⟨p, hpm, e⟩ := List.mem_map.mp ((hk.mem o).mp h)
    rw [← e]; exact (hp.1 p hpm).1
  obtain ⟨L, ⟨rL, mL, lL⟩, hin⟩ := in_order_ok (A := .lst (ks.map .d)) (xs := ks) (by simp only [brw, all_isD, map_unD, if_true]) hks (by have := hk.len; have := hp.2; omega)
  obtain ⟨R, hR⟩ : ∃ R, R = L.map fun o => (o, wt done o) := ⟨_, rfl⟩
  have hRf : R.map (·.1) = L := by rw [hR, List.map_map]; simp [Function.comp_def]
  refine ⟨R, ⟨by rw [hRf]; exact rL, fun o => by rw [hRf, mL, hk.mem], fun p h => by
    rw [hR] at h
    obtain ⟨o, _, rfl⟩ := List.mem_map.mp h
    rfl⟩, by rw [hR]; simpa using lL, ?_⟩
  unfold F_table
  obtain ⟨m, hm⟩ : ∃ m : M, m = dcM C done ks := ⟨_, rfl⟩
  refine runF_ret (e := tE A m none z3) ?_
  unfold b_table
  show ssSeq _ _ (tE A m none none |>.set 1 none) = _
  rw [show (tE A m none none).set 1 none = [some A, none, none, none] from rfl]
  rw [ssSeq_nx (e := tE A (.dic [] []) none none) (by simp [tE, sDict0, ssSet])]
  rw [ssSeq_nx (e := tE A m z2 z3) (by
    have : iwN 0 (tE A (.dic [] []) none none) = .ok (done.map (frD C)) := by simp only [iwN, tE, getE, List.getElem?_cons_zero, hA]
    simp only [ssForW, this, hm]
    exact h1)]
  have e1 : siQ (sCall F_in_order [none] (saCons (sListD (vN 1)) (saNil))) (tE A m z2 z3) = .ok (L, tE A m z2 z3) := by
    have e0 : sListD (vN 1) (tE A m z2 z3) = .ok (.lst (ks.map .d), tE A m z2 z3) := by
      simp only [sListD, vN, tE, getE, List.getElem?_cons_succ, List.getElem?_cons_zero, hm, dcM, dicM]
    simp only [siQ, sCall, saCons, saNil, e0, hin, put1, fz, fzs_d]
    rfl
  have e2 := lcl_if (own := [2]) (g := sgN 2) (c := sbE (sV (v2 oNe (vDx (vN 1) (vN 2)) (vC g_NOTHING)))) (f := sTup (saCons (sN 2) (saCons (sV (vDx (vN 1) (vN 2))) (saNil)))) (env := tE A m none z3) (fun o : D => o) (fun o => M.d (frD C (o, wt done o))) (fun o => decide (0 < wt done o)) L [] (fun o ho => by
    have hok := (mL o).mp ho
    have hdx : mDx m o = .ok (.d (frP C (wt done o))) := by rw [hm]; exact mDx_map (hks o hok).key hok
    have hne := ne_nothing hC (hp.wt o).1
    refine ⟨tE A m (some (.d o)) z3, tE A m (some (.d o)) z3, tE A m (some (.d o)) z3, by simp [sgN, tE], ?_, fun _ => ⟨?_, rfl⟩, fun _ => rfl⟩
    · simp only [sbE, sV, v2, vDx, vN, vC, tE, getE, List.getElem?_cons_succ, List.getElem?_cons_zero, hdx, hne]
    · simp only [sTup, saCons, saNil, sN, sV, vDx, vN, tE, getE, List.getElem?_cons_succ, List.getElem?_cons_zero, hdx, fz]
      simp [mTup, isD, unD, frD, sizeLine_eq])
  have hk2 : killAll [2] (tE A m z2 z3) = tE A m none z3 := rfl
  have e4 : L.length ≤ sizeLine := by rw [sizeLine_eq]; omega
  have e5 : (L.filter fun o => decide (0 < wt done o)).map (fun o => M.d (frD C (o, wt done o))) = ((pos R).map (frD C)).map .d := by
    rw [hR, pos, List.filter_map, List.map_map, List.map_map]
    rfl
  rw [List.map_id' L] at e2
  simp only [ssRet, sLc, e1, if_pos e4, hk2, e2, List.nil_append, e5]
theorem wt_ris {Q : List (D × Int)} (h : Ris (Q.map (·.1))) {p : D × Int} (hp : p ∈ Q) : wt Q p.1 = p.2 := by
  induction Q with
  | nil => simp at hp
  | cons q Q ih =>
    rw [List.map_cons, Ris, List.pairwise_cons] at h
    rcases List.mem_cons.mp hp with rfl | hp
    · have : p.1 ∉ Q.map (·.1) := fun hm => by have := h.1 _ hm; rw [lt_irr] at this; cases this
      rw [wt, if_pos rfl, wt_not this]; omega
    · have hne : ¬ q.1 = p.1 := fun e => by have := h.1 _ (List.mem_map_of_mem hp); rw [e, lt_irr] at this; cases this
      rw [wt, if_neg hne, ih h.2 hp]; omega
/-! ### the common bottoms -/
theorem pS_app (a b : List (List (Int × Int))) : pS (a ++ b) = pS a * pS b := by
  induction a with
  | nil => show pS b = 1 * pS b; rw [Int.one_mul]
  | cons x a ih =>
    show sW x * pS (a ++ b) = sW x * pS a * pS b
    rw [ih, Int.mul_assoc]
def CS (ds : List (List (Int × Int))) (t : Nat) : Int := pS (ds.drop t)
theorem midD_len {ds : List (List (Int × Int))} {lo hi : Nat} : (midD ds lo hi).length ≤ hi - lo := by unfold midD; simp; omega
theorem midD_g {ds : List (List (Int × Int))} {lo hi : Nat} (h : ∀ d ∈ ds, GDr d) : ∀ d ∈ midD ds lo hi, GDr d := fun d h' => h d (List.mem_of_mem_take (List.mem_of_mem_drop h'))
theorem CS_bd {ds : List (List (Int × Int))} {t : Nat} (h : ∀ d ∈ ds, GDr d) : Bd (ds.length - t) (CS ds t) ∧ 0 < CS ds t := by
  have := pS_bd (ds := ds.drop t) fun d hd => h d (List.mem_of_mem_drop hd)
  rw [List.length_drop] at this
  exact this
theorem CS_end {ds : List (List (Int × Int))} : CS ds ds.length = 1 := by unfold CS; rw [List.drop_length]; rfl
theorem CS_split {ds : List (List (Int × Int))} {s t : Nat} {d : List (Int × Int)} (hd : ds[s]? = some d) (ht : s < t) : CS ds s = sW d * pS (midD ds (s + 1) t) * CS ds t := by
  have hs := (List.getElem?_eq_some_iff.mp hd).1
  have e1 : ds.drop s = d :: ds.drop (s + 1) := by
    rw [List.drop_eq_getElem_cons hs]
    congr 1
    exact (List.getElem?_eq_some_iff.mp hd).2
  have e2 : ds.drop (s + 1) = midD ds (s + 1) t ++ ds.drop t := by
    unfold midD
    conv => lhs; rw [← List.take_append_drop t ds]
    rw [List.drop_append]
    congr 1
    by_cases q : t ≤ ds.length
    · rw [List.length_take, Nat.min_eq_left q]
      have : s + 1 - t = 0 := by omega
      rw [this]; rfl
    · rw [List.drop_eq_nil_of_le (show ds.length ≤ t by omega)]
      simp
  unfold CS
  rw [e1]
  show sW d * pS (ds.drop (s + 1)) = _
  rw [e2, pS_app, Int.mul_assoc]
theorem CS_w {ds : List (List (Int × Int))} {t : Nat} (h : ∀ d ∈ ds, GDr d) (hl : ds.length ≤ 24) : W112 (CS ds t) := by
  obtain ⟨h1, h2⟩ := CS_bd (t := t) h
  have h3 := h1.mono (show ds.length - t ≤ 24 by omega)
  refine ⟨h2, Int.lt_of_le_of_lt h3.2 ?_⟩
  decide
/-! ### weights -/
theorem wt_mul (a b : Int) (R : List (D × Int)) (o : D) : wt (R.map fun p => (p.1, a * p.2 * b)) o = a * (wt R o * b) := by
  induction R with
  | nil => simp [wt]
  | cons p R ih =>
    rw [List.map_cons, wt, wt, ih]
    by_cases h : p.1 = o
    · rw [if_pos h, if_pos h, Int.add_mul, Int.mul_add, Int.mul_assoc]
    · rw [if_neg h, if_neg h, Int.zero_add, Int.zero_add]
theorem wt_pos {ps : List (D × Int)} {o : D} (h : ∀ p ∈ ps, 0 < p.2) (ho : o ∈ ps.map (·.1)) : 0 < wt ps o := by
  induction ps with
  | nil => simp at ho
  | cons p ps ih =>
    have h0 := h p (by simp)
    have h1 : 0 ≤ wt ps o := by
      clear ih ho
      induction ps with
      | nil => exact Int.le_refl _
      | cons q qs ih =>
        have := h q (by simp)
        have := ih fun x hx => h x (by
          rcases List.mem_cons.mp hx with e | e
          · rw [e]; simp
          · simp [e])
        rw [wt]; split <;> omega
    rw [wt]
    by_cases e : p.1 = o
    · rw [if_pos e]; omega
    · rw [if_neg e]
      rw [List.map_cons, List.mem_cons] at ho
      rcases ho with q | q
      · exact absurd q.symm e
      · have := ih (fun x hx => h x (by simp [hx])) q
        omega
theorem pos_all {R : List (D × Int)} (h : ∀ p ∈ R, 0 < p.2) : pos R = R := by
  unfold pos
  rw [List.filter_eq_self]
  intro p hp
  exact decide_eq_true (h p hp)
/-! ### mixed -/
structure Itm where
  w : Int
  C : Int
  P : Int
  R : List (D × Int)
def itD (S : Int) (x : Itm) : D := .tup [frP S x.w, .lst (x.R.map (frD x.C))]
def itP (x : Itm) : List (D × Int) := x.R.map fun p => (p.1, x.w * p.2 * x.P)
structure ItOk (S C0 : Int) (x : Itm) : Prop where
  w : Bd 1 x.w
  c : 0 < x.C ∧ Bd 24 x.C
  p : 0 < x.P
  e : S * x.C * x.P = C0
  r : (∀ p ∈ x.R, Out p.1 ∧ Bd 24 p.2) ∧ x.R.length ≤ 3
abbrev mE (A : M) (b z2 z3 z4 z5 : Option M) : FL.Env := [some A, b, z2, z3, z4, z5]
def prM (C : Int) (ps : List (D × Int)) : M := .lst ((ps.map (frD C)).map .d)
theorem times_frP {S C0 w v C P : Int} (hS : 0 < S) (bS : Bd 1 S) (bw : Bd 1 w) (hC : 0 < C) (bC : Bd 24 C) (bv : Bd 24 v) (hP : 0 < P) (he : S * C * P = C0) :
    F_times [.d (frP S w), .d (frP C v)] = .ok (.d (frP C0 (w * v * P)), [some (.d (frP S w)), some (.d (frP C v))]) := by
  have h := times_int (bw.lowT (b := S) hS) (bS.lowB (t := w) hS) (bv.lowT (b := C) hC) (bC.lowB (t := v) hC) (lowB_pos hS) (lowB_pos hC) (by decide)
  rw [(low_times hS hC).1, (low_times hS hC).2] at h
  have h2 := low_scale (t := w * v) (b := S * C) (k := P) hP
  rw [he] at h2
  unfold frP
  rw [h2.1, h2.2]
  exact h
theorem mixed_in {A : M} {S C0 : Int} {x : Itm} {p : D × Int} {done : List (D × Int)} (hS : 0 < S) (bS : Bd 1 S) (ok : ItOk S C0 x) (hp : p ∈ x.R) (hd : done.length < 1000) :
    fb_mixed_2 (mE A (some (prM C0 done)) (some (.d (frP S x.w))) (some (.d (.lst (x.R.map (frD x.C))))) (some (.d p.1)) (some (.d (frP x.C p.2)))) = .ok (.nx, mE A (some (prM C0 (done ++ [(p.1, x.w * p.2 * x.P)]))) (some (.d (frP S x.w))) (some (.d (.lst (x.R.map (frD x.C))))) (some (.d p.1)) (some (.d (frP x.C p.2)))) := by
  have ht := times_frP hS bS ok.w ok.c.1 ok.c.2 (ok.r.1 p hp).2 ok.p ok.e
  obtain ⟨B, hB⟩ : ∃ B, B = mE A (some (prM C0 done)) (some (.d (frP S x.w))) (some (.d (.lst (x.R.map (frD x.C))))) (some (.d p.1)) (some (.d (frP x.C p.2))) := ⟨_, rfl⟩
  have n4 : sN 4 B = .ok (.d p.1, B) := by rw [hB]; rfl
  have n2 : sN 2 B = .ok (.d (frP S x.w), B) := by rw [hB]; rfl
  have n5 : sN 5 B = .ok (.d (frP x.C p.2), B) := by rw [hB]; rfl
  have hc := sCall_n (bk := [none, none]) (by decide) (sa2_eq n2 n5) ht
  have htup : sTup (saCons (sN 4) (saCons (sCall F_times [none, none] (saCons (sN 2) (saCons (sN 5) (saNil)))) (saNil))) B = .ok (.d (frD C0 (p.1, x.w * p.2 * x.P)), B) := by
    unfold sTup
    rw [sa2_eq n4 hc]
    simp [mTup, isD, unD, frD, sizeLine_eq]
  have hg : getE B 1 = .ok (prM C0 done) := by rw [hB]; rfl
  have happ : mAppend (prM C0 done) [.d (frD C0 (p.1, x.w * p.2 * x.P))] = .ok (.d .non, prM C0 (done ++ [(p.1, x.w * p.2 * x.P)])) := by
    have : ((done.map (frD C0)).map M.d).length < sizeLine := by rw [sizeLine_eq, List.length_map, List.length_map]; omega
    simp only [mAppend, prM, if_pos this]
    simp
  unfold fb_mixed_2
  rw [← hB]
  rw [ssDrop_eq (sMeth_eq hg rfl (sa1_eq htup) hg happ), hB]
  rfl
theorem mixed_one {A : M} {S C0 : Int} {x : Itm} {done : List (D × Int)} {z4 z5 : Option M} (hS : 0 < S) (bS : Bd 1 S) (ok : ItOk S C0 x) (hd : done.length < 900) :
    ∃ z4' z5', fb_mixed_1 (mE A (some (prM C0 done)) (some (.d (frP S x.w))) (some (.d (.lst (x.R.map (frD x.C))))) z4 z5) = .ok (.nx, mE A (some (prM C0 (done ++ itP x))) (some (.d (frP S x.w))) (some (.d (.lst (x.R.map (frD x.C))))) z4' z5') := by
  obtain ⟨e', h1, dn, z4', z5', ⟨e1, _⟩, rfl⟩ := flw_all (ws := [3]) (env0 := mE A (some (prM C0 done)) (some (.d (frP S x.w))) (some (.d (.lst (x.R.map (frD x.C))))) z4 z5) (g := fg_mixed_2) (b := fb_mixed_2) (frD x.C)
    (fun rest env => ∃ dn z4 z5, (dn ++ rest.map (fun p => (p.1, x.w * p.2 * x.P)) = done ++ itP x ∧ ∀ p ∈ rest, p ∈ x.R) ∧ env = mE A (some (prM C0 dn)) (some (.d (frP S x.w))) (some (.d (.lst (x.R.map (frD x.C))))) z4 z5)
    (fun xs env ⟨dn, z4, z5, _, h⟩ => by subst h; intro i hi; simp at hi; subst hi; rfl)
    (fun p rest env ⟨dn, z4, z5, ⟨e1, e2⟩, h⟩ => by
      subst h
      have hl : dn.length < 1000 := by
        have := congrArg List.length e1
        rw [List.length_append, List.length_append, itP, List.length_map, List.length_map] at this
        have := ok.r.2
        omega
      refine ⟨mE A (some (prM C0 dn)) (some (.d (frP S x.w))) (some (.d (.lst (x.R.map (frD x.C))))) (some (.d p.1)) (some (.d (frP x.C p.2))), _, .nx, by simp [fg_mixed_2, frD, itemsD, itemsLT, mE, runF, ssSeq, ssSet, ssIf, ssRet, ssDrop, ssNil, ssRaise, ssPar, setAll, ssAsg, sgN, sgNil, sgCons, sgTup, sbE, sbNot, sbAnd, sbOr, sNotV, sAndV, sOrV, sIf, sV, v2, vN, vC, getE, sN, sT, s2, s2v, s2n, sCall, saCons, saNil, putBack, killAll, sTup, mTup, isD, unD, sLst, vIx, mIdx, M.seq, atI, ixN, vB, vaCons, vaNil, bAbs, b1I, b2I, bLen, vIsi, tyM, tyD, isiB, fz, oAdd_int, oSub_int, oMul_int, oFdiv_int, oMod_int, oPow_int, oLt_int, oLe_int, oGt_int, oGe_int, oEq_int, oNe_int, sizeLine_eq, vNeg, ssSetI, sMeth, isLst, mAppend], mixed_in hS bS ok (e2 p (by simp)) hl, .inl rfl, _, _, _, ⟨?_, fun q hq => e2 q (by simp [hq])⟩, rfl⟩
      rw [← e1]
      simp)
    x.R (mE A (some (prM C0 done)) (some (.d (frP S x.w))) (some (.d (.lst (x.R.map (frD x.C))))) z4 z5) ⟨done, z4, z5, ⟨rfl, fun p hp => hp⟩, rfl⟩
  refine ⟨z4', z5', ?_⟩
  rw [List.map_nil, List.append_nil] at e1
  subst e1
  unfold fb_mixed_1
  have hi : iwN 3 (mE A (some (prM C0 done)) (some (.d (frP S x.w))) (some (.d (.lst (x.R.map (frD x.C))))) z4 z5) = .ok (x.R.map (frD x.C)) := rfl
  rw [ssForW_eq hi]
  exact h1
def allP (its : List Itm) : List (D × Int) := its.flatMap itP
theorem allP_len {its : List Itm} {S C0 : Int} (h : ∀ x ∈ its, ItOk S C0 x) : (allP its).length ≤ 3 * its.length := by
  induction its with
  | nil => simp [allP]
  | cons x xs ih =>
    have := ih fun y hy => h y (by simp [hy])
    have h0 := (h x (by simp)).r.2
    unfold allP at this ⊢
    rw [List.flatMap_cons, List.length_append, itP, List.length_map, List.length_cons]
    omega
theorem mixed_ok {A : M} {S C0 : Int} {its : List Itm} (hA : brw A = some (false, its.map (itD S))) (hS : 0 < S) (bS : Bd 1 S) (ok : ∀ x ∈ its, ItOk S C0 x) (hl : its.length ≤ 3) (hC : W112 C0) (hw : W100 (allP its)) :
    ∃ R, Rws (allP its) R ∧ R.length ≤ 100 ∧ ∃ e, F_mixed [A] = .ok (.lst (((pos R).map (frD C0)).map .d), e) := by
  obtain ⟨e', h1, dn, z2, z3, z4, z5, ⟨e1, _⟩, rfl⟩ := flw_all (ws := [0]) (env0 := mE A (some (prM C0 [])) none none none none) (g := fg_mixed_1) (b := fb_mixed_1) (itD S)
    (fun rest env => ∃ dn z2 z3 z4 z5, (dn ++ allP rest = allP its ∧ ∀ x ∈ rest, x ∈ its) ∧ env = mE A (some (prM C0 dn)) z2 z3 z4 z5)
    (fun xs env ⟨dn, z2, z3, z4, z5, _, h⟩ => by subst h; intro i hi; simp at hi; subst hi; rfl)
    (fun x rest env ⟨dn, z2, z3, z4, z5, ⟨e1, e2⟩, h⟩ => by
      subst h
      have hl' : dn.length < 900 := by
        have := congrArg List.length e1
        rw [List.length_append] at this
        have := allP_len ok
        omega
      obtain ⟨z4', z5', hb⟩ := mixed_one (A := A) (done := dn) (z4 := z4) (z5 := z5) hS bS (ok x (e2 x (by simp))) hl'
      refine ⟨mE A (some (prM C0 dn)) (some (.d (frP S x.w))) (some (.d (.lst (x.R.map (frD x.C))))) z4 z5, _, .nx, by simp [fg_mixed_1, itD, itemsD, itemsLT, mE, runF, ssSeq, ssSet, ssIf, ssRet, ssDrop, ssNil, ssRaise, ssPar, setAll, ssAsg, sgN, sgNil, sgCons, sgTup, sbE, sbNot, sbAnd, sbOr, sNotV, sAndV, sOrV, sIf, sV, v2, vN, vC, getE, sN, sT, s2, s2v, s2n, sCall, saCons, saNil, putBack, killAll, sTup, mTup, isD, unD, sLst, vIx, mIdx, M.seq, atI, ixN, vB, vaCons, vaNil, bAbs, b1I, b2I, bLen, vIsi, tyM, tyD, isiB, fz, oAdd_int, oSub_int, oMul_int, oFdiv_int, oMod_int, oPow_int, oLt_int, oLe_int, oGt_int, oGe_int, oEq_int, oNe_int, sizeLine_eq, vNeg, ssSetI, sMeth, isLst, mAppend], hb, .inl rfl, _, _, _, _, _, ⟨?_, fun q hq => e2 q (by simp [hq])⟩, rfl⟩
      rw [← e1]
      simp [allP])
    its (mE A (some (prM C0 [])) none none none none) ⟨[], none, none, none, none, ⟨rfl, fun x hx => hx⟩, rfl⟩
  have e2 : dn = allP its := by simpa [allP] using e1
  subst e2
  have hbr : brw (prM C0 (allP its)) = some (false, (allP its).map (frD C0)) := by simp only [prM, brw, all_isD, map_unD, if_true]
  obtain ⟨R, hR, hRl, ht⟩ := table_ok hbr hC hw
  refine ⟨R, hR, hRl, ?_⟩
  unfold F_mixed
  refine ⟨_, runF_ret (m := .lst (((pos R).map (frD C0)).map .d)) (e := mE A (some (prM C0 (allP its))) z2 z3 z4 z5) ?_⟩
  unfold b_mixed
  show ssSeq _ _ (mE A none none none none none) = _
  rw [ssSeq_nx (e := mE A (some (prM C0 [])) none none none none) (by simp [mE, prM, runF, ssSeq, ssSet, ssIf, ssRet, ssDrop, ssNil, ssRaise, ssPar, setAll, ssAsg, sgN, sgNil, sgCons, sgTup, sbE, sbNot, sbAnd, sbOr, sNotV, sAndV, sOrV, sIf, sV, v2, vN, vC, getE, sN, sT, s2, s2v, s2n, sCall, saCons, saNil, putBack, killAll, sTup, mTup, isD, unD, sLst, vIx, mIdx, M.seq, atI, ixN, vB, vaCons, vaNil, bAbs, b1I, b2I, bLen, vIsi, tyM, tyD, isiB, fz, oAdd_int, oSub_int, oMul_int, oFdiv_int, oMod_int, oPow_int, oLt_int, oLe_int, oGt_int, oGe_int, oEq_int, oNe_int, sizeLine_eq, vNeg, ssSetI, sMeth, isLst, mAppend])]
  have hi : iwN 0 (mE A (some (prM C0 [])) none none none none) = .ok (its.map (itD S)) := by simp only [iwN, mE, getE, List.getElem?_cons_zero, hA]
  rw [ssSeq_nx ((ssForW_eq hi).trans h1)]
  have n1 : sT 1 (mE A (some (prM C0 (allP its))) z2 z3 z4 z5) = .ok (prM C0 (allP its), mE A none z2 z3 z4 z5) := rfl
  rw [ssRet_eq (sCall_eq (bk := [some 1]) (sa1_eq n1) ht)]
  rfl
def GEnt (ds : List (List (Int × Int))) (ps : List Ent) (i : Nat) : Ent → Prop
  | .leaf _ => True
  | .ask s cs => s < ds.length ∧ ∀ c ∈ cs, c < i ∧ ∃ e, ps[c]? = some e ∧ s < site ds.length e ∧ site ds.length e ≤ ds.length
def GP (ds : List (List (Int × Int))) (ps : List Ent) : Prop := ∀ i e, ps[i]? = some e → GEnt ds ps i e
theorem range_in {n : Nat} : ∀ i ∈ (List.range n).map (fun (i : Nat) => (i : Int)), 0 ≤ i ∧ i < n := by
  intro i hi
  obtain ⟨k, hk, rfl⟩ := List.mem_map.mp hi
  have := List.mem_range.mp hk
  omega
theorem range_D (n : Nat) : (List.range n).map (fun (i : Nat) => D.int (0 + (i : Int))) = ((List.range n).map fun (i : Nat) => (i : Int)).map D.int := by
  rw [List.map_map]
  apply List.map_congr_left
  intro a _
  simp
abbrev scrM (ns : List Int) : M := .d (.scr (ns.map D.int))
theorem mIdx_scr {ns : List Int} {c : Nat} {x : Int} (h : ns[c]? = some x) : mIdx (scrM ns) (.d (.int (c : Int))) = .ok (.d (.int x)) := by
  have hl := (List.getElem?_eq_some_iff.mp h).1
  have e : atI ((ns.map D.int).map M.d) (c : Int) = some (.d (.int x)) := by rw [atI_nat (by simpa using hl)]; simp [h]
  simp only [mIdx, M.seq, e]
theorem bLen_scr (ns : List Int) : bLen [scrM ns] = .ok (.int ns.length) := by simp [bLen, M.seq]
theorem cell_int (ns : List Int) (k : Nat) : F__law_cell_at [scrM ns, .d (.int (k : Int))] = .ok (.d (.int (ns.getD k 0)), [some (scrM ns), some (.d (.int (k : Int)))]) := by
  by_cases h : k < ns.length
  · have h1 : ns[k]? = some ns[k] := List.getElem?_eq_getElem h
    have h2 := mIdx_scr h1
    have h3 : ns.getD k 0 = ns[k] := by simp [h]
    have h4 : (k : Int) < ns.length := by omega
    simp [F__law_cell_at, b__law_cell_at, runF, ssSeq, ssIf, sbE, sV, v2, vIx, vN, vC, getE, vB, vaCons, vaNil, bLen_scr, oLt_int, h4, h2, ssRet, h, killAll]
  · have h3 : ns.getD k 0 = 0 := by simp [h]
    have h4 : ¬ (k : Int) < ns.length := by omega
    simp [F__law_cell_at, b__law_cell_at, runF, ssSeq, ssIf, sbE, sV, v2, vIx, vN, vC, getE, vB, vaCons, vaNil, bLen_scr, oLt_int, h4, ssRet, h, ssNil, killAll]
theorem mix_int {c k : Int} (hk : 0 ≤ k ∧ k < 2 ^ 32) : ∃ m : Int, (0 ≤ m ∧ m < 2147483587) ∧ F__law_mix [.d (.int c), .d (.int k)] = .ok (.d (.int m), [some (.d (.int c)), some (.d (.int k))]) := by
  have c1 : CMulD 7919 k := mulD (a := 20) (b := 33) (by decide) (by omega)
  have c2 : CMulD (7919 * k) k := mulD (a := 60) (b := 33) (by omega) (by omega)
  have hk2 : (7919 * k * k).natAbs < 2 ^ (60 + 33) := mul_lt (i := 7919 * k) (j := k) (a := 60) (b := 33) (by omega) (by omega)
  have h0 := Int.emod_nonneg c (show (2147483647:Int) ≠ 0 by decide)
  have h1 := Int.emod_lt_of_pos c (show (0:Int) < 2147483647 by decide)
  have c3 : CMulD (c % 2147483647 + 7919 * k * k + k + 1) 48271 := by
    refine mulD (a := 120) (b := 20) ?_ (by decide)
    obtain ⟨y, hy⟩ : ∃ y, y = 7919 * k * k := ⟨_, rfl⟩
    rw [← hy] at hk2 ⊢
    omega
  obtain ⟨f, hf⟩ : ∃ f, f = (c % 2147483647 + 7919 * k * k + k + 1) * 48271 % 2147483629 := ⟨_, rfl⟩
  have f0 := Int.emod_nonneg ((c % 2147483647 + 7919 * k * k + k + 1) * 48271) (show (2147483629:Int) ≠ 0 by decide)
  have f1 := Int.emod_lt_of_pos ((c % 2147483647 + 7919 * k * k + k + 1) * 48271) (show (0:Int) < 2147483629 by decide)
  rw [← hf] at f0 f1
  have c4 : CMulD f f := mulD (a := 32) (b := 32) (by omega) (by omega)
  refine ⟨f * f % 2147483587, ⟨Int.emod_nonneg _ (by decide), Int.emod_lt_of_pos _ (by decide)⟩, ?_⟩
  simp [F__law_mix, b__law_mix, oMul_int c1, oMul_int c2, oMul_int c3, modI_pos, ← hf, oMul_int c4, runF, ssSeq, ssSet, ssIf, ssRet, ssDrop, ssNil, ssRaise, ssPar, setAll, ssAsg, sgN, sgNil, sgCons, sgTup, sbE, sbNot, sbAnd, sbOr, sNotV, sAndV, sOrV, sIf, sV, v2, vN, vC, getE, sN, sT, s2, s2v, s2n, sCall, saCons, saNil, putBack, killAll, sTup, mTup, isD, unD, sLst, vIx, mIdx, M.seq, atI, ixN, vB, vaCons, vaNil, bAbs, b1I, b2I, bLen, vIsi, tyM, tyD, isiB, fz, oAdd_int, oSub_int, oMul_int, oFdiv_int, oMod_int, oPow_int, oLt_int, oLe_int, oGt_int, oGe_int, oEq_int, oNe_int, sizeLine_eq, vNeg, ssSetI, sMeth, isLst, mAppend]
abbrev cE (ns : List Int) (h gr : Int) (ds : M) (z4 z5 z6 z7 : Option M) : FL.Env := [some (scrM ns), some (.d (.int h)), some (.d (.int gr)), some ds, z4, z5, z6, z7]
def dM (d : List (Int × Int)) : M := .lst (d.map fun p => .d (pI p.1 p.2))
theorem draw_in {ns : List Int} {h gr cell k : Int} {ds : M} {z4 : Option M} {d : List (Int × Int)} (hg : gr = 0 ∨ gr = 1) (hk : 0 ≤ k ∧ k < 3) (hc : 0 ≤ cell ∧ cell < 2147483587) (hd : d.length < 100) :
    ∃ p : Int × Int, (0 < p.2 ∧ p.2 ≤ 1000000) ∧ fb__law_chain_draws_2 (cE ns h gr ds z4 (some (.d (.int cell))) (some (dM d)) (some (.d (.int k)))) = .ok (.nx, cE ns h gr ds z4 (some (.d (.int cell))) (some (dM (d ++ [p]))) (some (.d (.int k)))) := by
  obtain ⟨m, hm, hmix⟩ := mix_int (c := cell) (k := k) (by omega)
  have c1 : CMulD 5 k := mulD (a := 4) (b := 4) (by omega) (by omega)
  have c2 : CPowD 10 6 := by decide
  obtain ⟨g, hg2, hix⟩ : ∃ g : Int, (0 < g ∧ g ≤ 1000000) ∧ oIdx (.lst [M.d (.int 9), .d (.int 1000000)]) (.d (.int gr)) = .ok (.int g) := by
    rcases hg with q | q
    · rw [q]; exact ⟨9, by decide, rfl⟩
    · rw [q]; exact ⟨1000000, by decide, rfl⟩
  have g0 : g ≠ 0 := by omega
  have m0 := Int.emod_nonneg m g0
  have m1 := Int.emod_lt_of_pos m hg2.1
  refine ⟨(cell % 89 + 5 * k, 1 + m % g), by constructor <;> (show _ ; omega), ?_⟩
  have h1 : (d.map fun p => M.d (pI p.1 p.2)).length < sizeLine := by rw [sizeLine_eq, List.length_map]; omega
  unfold fb__law_chain_draws_2
  simp only [ssDrop, sMeth, saCons, saNil, sTup, sV, v2, vN, vC, getE, cE, List.getElem?_cons_succ, List.getElem?_cons_zero, oMod_int (show (89:Int) ≠ 0 by decide), modI_pos (show (0:Int) < 89 by decide), oMul_int c1, oAdd_int, s2, s2v, sN, fz, sCall, hmix, putBack, sLst, oPow_int c2, dM, isLst, if_true, List.length_cons, List.length_nil, sizeLine_eq]
  simp [hix, oMod_int g0, modI_pos hg2.1, mTup, isD, unD, mAppend, sizeLine_eq, oAdd_int]
  rw [if_pos (by omega)]
theorem draws_in {ns : List Int} {h gr t : Int} {ds : List (List (Int × Int))} {z5 z6 z7 : Option M} (hg : gr = 0 ∨ gr = 1) (ht : 0 ≤ t ∧ t < 30) (hd : ds.length < 100) :
    ∃ d, GDr d ∧ ∃ z5' z6' z7', fb__law_chain_draws_1 (cE ns h gr (.lst (ds.map fun d => .d (drwD d))) (some (.d (.int t))) z5 z6 z7) = .ok (.nx, cE ns h gr (.lst ((ds ++ [d]).map fun d => .d (drwD d))) (some (.d (.int t))) z5' z6' z7') := by
  obtain ⟨cell, hc, hmix⟩ := mix_int (c := ns.getD 1 0) (k := t + 30) (by omega)
  have hcell := cell_int ns 1
  obtain ⟨A, hA⟩ : ∃ A : M, A = .lst (ds.map fun d => .d (drwD d)) := ⟨_, rfl⟩
  obtain ⟨e', h1, d, z7', ⟨hw, hlen, _⟩, rfl⟩ := fl_all (g := fg__law_chain_draws_2) (b := fb__law_chain_draws_2) D.int
    (fun rest env => ∃ (d : List (Int × Int)) (z7 : Option M), ((∀ p ∈ d, 0 < p.2 ∧ p.2 ≤ 1000000) ∧ d.length + rest.length = (1 + cell % 3).toNat ∧ ∀ k ∈ rest, 0 ≤ k ∧ k < 3) ∧ env = cE ns h gr A (some (.d (.int t))) (some (.d (.int cell))) (some (dM d)) z7)
    (fun k rest env hI => by
      obtain ⟨d, z7, ⟨hw, hlen, hk⟩, rfl⟩ := hI
      simp only [List.length_cons] at hlen
      obtain ⟨p, hp, hb⟩ := draw_in (ns := ns) (h := h) (ds := A) (z4 := some (.d (.int t))) (d := d) hg (hk k (by simp)) hc (by omega)
      refine ⟨cE ns h gr A (some (.d (.int t))) (some (.d (.int cell))) (some (dM d)) (some (.d (.int k))), _, .nx, by simp [fg__law_chain_draws_2, sgN, cE], hb, .inl rfl, _, _, ⟨fun q hq => ?_, by simp; omega, fun j hj => hk j (by simp [hj])⟩, rfl⟩
      rcases List.mem_append.mp hq with hq | hq
      · exact hw q hq
      · simp at hq; subst hq; exact hp)
    ((List.range (1 + cell % 3).toNat).map fun (i : Nat) => (i : Int)) (cE ns h gr A (some (.d (.int t))) (some (.d (.int cell))) (some (dM [])) z7) ⟨[], z7, ⟨fun p hp => by simp at hp, by simp, fun k hk => by have := range_in k hk; omega⟩, rfl⟩
  simp only [List.length_nil, Nat.add_zero] at hlen
  have hgd : GDr d := ⟨fun z => by subst z; simp at hlen; omega, by omega, hw⟩
  refine ⟨d, hgd, some (.d (.int cell)), some (.d (drwD d)), z7', ?_⟩
  have hr : C62 (1 + cell % 3) := ⟨by omega, by omega⟩
  have h3 : (ds.map fun d => M.d (drwD d)).length < sizeLine := by rw [sizeLine_eq, List.length_map]; omega
  unfold fb__law_chain_draws_1
  rw [← hA]
  rw [ssSeq_nx (e := cE ns h gr A (some (.d (.int t))) (some (.d (.int cell))) z6 z7) (by
    simp only [ssSet, sCall, saCons, saNil, sN, sV, v2, vN, vC, getE, cE, List.getElem?_cons_succ, List.getElem?_cons_zero, fz]
    have hcell' : F__law_cell_at [M.d (.scr (ns.map D.int)), .d (.int 1)] = .ok (.d (.int (ns.getD 1 0)), [some (scrM ns), some (.d (.int 1))]) := hcell
    simp only [hcell', putBack, oAdd_int, List.getElem?_cons_succ, List.getElem?_cons_zero, hmix]
    simp)]
  rw [ssSeq_nx (e := cE ns h gr A (some (.d (.int t))) (some (.d (.int cell))) (some (dM [])) z7) (by simp [cE, dM, runF, ssSeq, ssSet, ssIf, ssRet, ssDrop, ssNil, ssRaise, ssPar, setAll, ssAsg, sgN, sgNil, sgCons, sgTup, sbE, sbNot, sbAnd, sbOr, sNotV, sAndV, sOrV, sIf, sV, v2, vN, vC, getE, sN, sT, s2, s2v, s2n, sCall, saCons, saNil, putBack, killAll, sTup, mTup, isD, unD, sLst, vIx, mIdx, M.seq, atI, ixN, vB, vaCons, vaNil, bAbs, b1I, b2I, bLen, vIsi, tyM, tyD, isiB, fz, oAdd_int, oSub_int, oMul_int, oFdiv_int, oMod_int, oPow_int, oLt_int, oLe_int, oGt_int, oGe_int, oEq_int, oNe_int, sizeLine_eq, vNeg, ssSetI, sMeth, isLst, mAppend])]
  rw [ssSeq_nx (show ssFor (siR1 (saCons (sV (v2 oAdd (vC (.int 1)) (v2 oMod (vN 5) (vC (.int 3))))) (saNil))) fg__law_chain_draws_2 fb__law_chain_draws_2 _ = _ from by
    simp only [ssFor, siR1, saCons, saNil, sV, v2, vC, vN, cE, getE, List.getElem?_cons_succ, List.getElem?_cons_zero, oMod_int (show (3:Int) ≠ 0 by decide), modI_pos (show (0:Int) < 3 by decide), oAdd_int, if_pos hr, range_D]
    exact h1)]
  have hfz : fz (dM d) = drwD d := by simp [dM, drwD, fz, fzs_comp, fzs_map_d]
  rw [hA]
  have hdM : dM d = .lst (d.map fun p => .d (pI p.1 p.2)) := rfl
  simp only [ssDrop, sMeth, saCons, saNil, sN, getE, cE, List.getElem?_cons_succ, List.getElem?_cons_zero, isLst, if_true, hfz]
  rw [hdM]
  simp only [List.set_cons_succ, List.set_cons_zero, List.getElem?_cons_succ, List.getElem?_cons_zero, mAppend, if_pos h3]
  simp
theorem chain_draws_int (ns : List Int) : ∃ ds : List (List (Int × Int)), (∀ d ∈ ds, GDr d) ∧ (0 < ds.length ∧ ds.length ≤ 24) ∧ ∃ e, F__law_chain_draws [scrM ns] = .ok (.lst (ds.map fun d => .d (drwD d)), e) := by
  obtain ⟨h, hh⟩ : ∃ h, h = ns.getD 0 0 := ⟨_, rfl⟩
  have hcell := cell_int ns 0
  rw [← hh] at hcell
  obtain ⟨m, hm, hmix⟩ := mix_int (c := h) (k := 1) (by decide)
  have hg : m % 2 = 0 ∨ m % 2 = 1 := by omega
  obtain ⟨g, hg2, hix⟩ : ∃ g : Int, (0 < g ∧ g ≤ 24) ∧ oIdx (.lst [M.d (.int 24), .d (.int 12)]) (.d (.int (m % 2))) = .ok (.int g) := by
    rcases hg with q | q
    · rw [q]; exact ⟨24, by decide, rfl⟩
    · rw [q]; exact ⟨12, by decide, rfl⟩
  have g0 : g ≠ 0 := by omega
  have m0 := Int.emod_nonneg h g0
  have m1 := Int.emod_lt_of_pos h hg2.1
  obtain ⟨e', h1, ds, z4, z5, z6, z7, ⟨hd, hlen, _⟩, rfl⟩ := fl_all (g := fg__law_chain_draws_1) (b := fb__law_chain_draws_1) D.int
    (fun rest env => ∃ (ds : List (List (Int × Int))) (z4 z5 z6 z7 : Option M), ((∀ d ∈ ds, GDr d) ∧ ds.length + rest.length = (1 + h % g).toNat ∧ ∀ k ∈ rest, 0 ≤ k ∧ k < 30) ∧ env = cE ns h (m % 2) (.lst (ds.map fun d => .d (drwD d))) z4 z5 z6 z7)
    (fun t rest env hI => by
      obtain ⟨ds, z4, z5, z6, z7, ⟨hd, hlen, hk⟩, rfl⟩ := hI
      simp only [List.length_cons] at hlen
      obtain ⟨d, hgd, z5', z6', z7', hb⟩ := draws_in (ns := ns) (h := h) (ds := ds) (z5 := z5) (z6 := z6) (z7 := z7) hg (hk t (by simp)) (by omega)
      refine ⟨cE ns h (m % 2) (.lst (ds.map fun d => .d (drwD d))) (some (.d (.int t))) z5 z6 z7, _, .nx, by simp [fg__law_chain_draws_1, sgN, cE], hb, .inl rfl, _, _, _, _, _, ⟨fun q hq => ?_, by simp; omega, fun j hj => hk j (by simp [hj])⟩, rfl⟩
      rcases List.mem_append.mp hq with hq | hq
      · exact hd q hq
      · simp at hq; subst hq; exact hgd)
    ((List.range (1 + h % g).toNat).map fun (i : Nat) => (i : Int)) (cE ns h (m % 2) (.lst []) none none none none) ⟨[], none, none, none, none, ⟨fun p hp => by simp at hp, by simp, fun k hk => by have := range_in k hk; omega⟩, rfl⟩
  simp only [List.length_nil, Nat.add_zero] at hlen
  refine ⟨ds, hd, ⟨by omega, by omega⟩, [some (scrM ns)], ?_⟩
  have hr : C62 (1 + h % g) := ⟨by omega, by omega⟩
  have hcell' : F__law_cell_at [M.d (.scr (ns.map D.int)), .d (.int 0)] = .ok (.d (.int h), [some (scrM ns), some (.d (.int 0))]) := hcell
  unfold F__law_chain_draws
  rw [runF_ret (m := .lst (ds.map fun d => .d (drwD d))) (e := [some (scrM ns), some (.d (.int h)), some (.d (.int (m % 2))), none, z4, z5, z6, z7]) ?_]
  · rfl
  unfold b__law_chain_draws
  show ssSeq _ _ [some (scrM ns), none, none, none, none, none, none, none] = _
  rw [ssSeq_nx (e := [some (scrM ns), some (.d (.int h)), none, none, none, none, none, none]) (by simp [hcell', runF, ssSeq, ssSet, ssIf, ssRet, ssDrop, ssNil, ssRaise, ssPar, setAll, ssAsg, sgN, sgNil, sgCons, sgTup, sbE, sbNot, sbAnd, sbOr, sNotV, sAndV, sOrV, sIf, sV, v2, vN, vC, getE, sN, sT, s2, s2v, s2n, sCall, saCons, saNil, putBack, killAll, sTup, mTup, isD, unD, sLst, vIx, mIdx, M.seq, atI, ixN, vB, vaCons, vaNil, bAbs, b1I, b2I, bLen, vIsi, tyM, tyD, isiB, fz, oAdd_int, oSub_int, oMul_int, oFdiv_int, oMod_int, oPow_int, oLt_int, oLe_int, oGt_int, oGe_int, oEq_int, oNe_int, sizeLine_eq, vNeg, ssSetI, sMeth, isLst, mAppend])]
  rw [ssSeq_nx (e := [some (scrM ns), some (.d (.int h)), some (.d (.int (m % 2))), none, none, none, none, none]) (by simp [hmix, modI_pos, runF, ssSeq, ssSet, ssIf, ssRet, ssDrop, ssNil, ssRaise, ssPar, setAll, ssAsg, sgN, sgNil, sgCons, sgTup, sbE, sbNot, sbAnd, sbOr, sNotV, sAndV, sOrV, sIf, sV, v2, vN, vC, getE, sN, sT, s2, s2v, s2n, sCall, saCons, saNil, putBack, killAll, sTup, mTup, isD, unD, sLst, vIx, mIdx, M.seq, atI, ixN, vB, vaCons, vaNil, bAbs, b1I, b2I, bLen, vIsi, tyM, tyD, isiB, fz, oAdd_int, oSub_int, oMul_int, oFdiv_int, oMod_int, oPow_int, oLt_int, oLe_int, oGt_int, oGe_int, oEq_int, oNe_int, sizeLine_eq, vNeg, ssSetI, sMeth, isLst, mAppend])]
  rw [ssSeq_nx (e := cE ns h (m % 2) (.lst []) none none none none) (by simp [cE, runF, ssSeq, ssSet, ssIf, ssRet, ssDrop, ssNil, ssRaise, ssPar, setAll, ssAsg, sgN, sgNil, sgCons, sgTup, sbE, sbNot, sbAnd, sbOr, sNotV, sAndV, sOrV, sIf, sV, v2, vN, vC, getE, sN, sT, s2, s2v, s2n, sCall, saCons, saNil, putBack, killAll, sTup, mTup, isD, unD, sLst, vIx, mIdx, M.seq, atI, ixN, vB, vaCons, vaNil, bAbs, b1I, b2I, bLen, vIsi, tyM, tyD, isiB, fz, oAdd_int, oSub_int, oMul_int, oFdiv_int, oMod_int, oPow_int, oLt_int, oLe_int, oGt_int, oGe_int, oEq_int, oNe_int, sizeLine_eq, vNeg, ssSetI, sMeth, isLst, mAppend])]
  rw [ssSeq_nx (show ssFor (siR1 (saCons (s2 oAdd (sV (vC (.int 1))) (s2 oMod (sN 1) (s2v oIdx (sLst (saCons (sV (vC (.int 24))) (saCons (sV (vC (.int 12))) (saNil)))) (vN 2)))) (saNil))) fg__law_chain_draws_1 fb__law_chain_draws_1 _ = _ from by
    simp only [ssFor, siR1, saCons, saNil, s2, s2v, sN, fz, sLst, sV, v2, vC, vN, cE, getE, List.getElem?_cons_succ, List.getElem?_cons_zero, List.length_cons, List.length_nil, sizeLine_eq]
    simp only [show (0 + 1 + 1 ≤ 16777216) from by decide, if_true, getE, List.getElem?_cons_succ, List.getElem?_cons_zero, hix, oMod_int g0, modI_pos hg2.1, oAdd_int, if_pos hr, range_D]
    exact h1)]
  simp [ssRet, sT, getE, cE]
noncomputable def mixI (c k : Int) : Int := match F__law_mix [.d (.int c), .d (.int k)] with
  | .ok (.d (.int m), _) => m
  | _ => 0
theorem mix_eq {c k : Int} (hk : 0 ≤ k ∧ k < 2 ^ 32) : (0 ≤ mixI c k ∧ mixI c k < 2147483587) ∧ F__law_mix [.d (.int c), .d (.int k)] = .ok (.d (.int (mixI c k)), [some (.d (.int c)), some (.d (.int k))]) := by
  obtain ⟨m, hm, h⟩ := mix_int (c := c) hk
  have e : mixI c k = m := by simp [mixI, h]
  rw [e]
  exact ⟨hm, h⟩
def pM (ps : List Ent) : M := .lst (ps.map fun e => .d (entD e))
abbrev hE (ns : List Int) (ds : List (List (Int × Int))) (ps : List Ent) (sh : Int) (z4 z5 z6 : Option M) : FL.Env := [some (scrM ns), some (.d (dsD ds)), some (pM ps), some (.d (.int sh)), z4, z5, z6, none, none]
def iM (xs : List Nat) : M := .lst (xs.map fun (c : Nat) => .d (.int (c : Int)))
theorem some_step {ns : List Int} {ds : List (List (Int × Int))} {ps : List Ent} {sh : Nat} {z4 z5 z6 : Option M} {i : Nat} (hi' : i < ps.length) :
    ∃ e1 e2 e3, sgN 7 (.d (.int (0 + (i : Int)))) (hE ns ds ps sh z4 z5 z6) = .ok e1 ∧ sbE (s2v oGt (sCall F__law_site [none, none] (saCons (sV (vIx (vN 2) (vN 7))) (saCons (sN 1) (saNil)))) (vN 3)) e1 = .ok (decide ((sh : Int) < ((site ds.length (ps.getD i (.leaf .non)) : Nat) : Int)), e2) ∧
      (decide ((sh : Int) < ((site ds.length (ps.getD i (.leaf .non)) : Nat) : Int)) = true → sN 7 e2 = .ok (M.d (.int (i : Int)), e3) ∧ killAll [7] e3 = hE ns ds ps sh z4 z5 z6) ∧ (decide ((sh : Int) < ((site ds.length (ps.getD i (.leaf .non)) : Nat) : Int)) = false → killAll [7] e2 = hE ns ds ps sh z4 z5 z6) := by
  have he : ps[i]? = some (ps.getD i (.leaf .non)) := by rw [List.getD_eq_getElem?_getD, List.getElem?_eq_getElem hi']; rfl
  obtain ⟨e, hee⟩ : ∃ e, e = ps.getD i (.leaf .non) := ⟨_, rfl⟩
  rw [← hee] at he ⊢
  have i1 : mIdx (pM ps) (.d (.int (i : Int))) = .ok (.d (entD e)) := mIdx_m (by simp [he])
  have hs := site_int e ds
  have hz : (0 : Int) + (i : Int) = (i : Int) := Int.zero_add _
  rw [hz]
  obtain ⟨A, hA⟩ : ∃ A, A = pM ps := ⟨_, rfl⟩
  rw [← hA] at i1
  simp only [hE]
  rw [← hA]
  refine ⟨[some (scrM ns), some (.d (dsD ds)), some A, some (.d (.int sh)), z4, z5, z6, some (.d (.int (i : Int))), none], [some (scrM ns), some (.d (dsD ds)), some A, some (.d (.int sh)), z4, z5, z6, some (.d (.int (i : Int))), none], [some (scrM ns), some (.d (dsD ds)), some A, some (.d (.int sh)), z4, z5, z6, some (.d (.int (i : Int))), none], rfl, ?_, fun _ => ⟨rfl, rfl⟩, fun _ => rfl⟩
  simp only [sbE, s2v, sCall, saCons, saNil, sV, vIx, vN, sN, getE, List.getElem?_cons_succ, List.getElem?_cons_zero, i1, fz, hs, putBack, oGt_int]
theorem some_range {ns : List Int} {ds : List (List (Int × Int))} {ps : List Ent} {sh : Nat} {z4 z5 z6 : Option M} (hpl : ps.length < 500) :
    siR1 (saCons (sV (vB bLen (vaCons (vN 2) (vaNil)))) (saNil)) (hE ns ds ps sh z4 z5 z6) = .ok ((List.range ps.length).map fun (i : Nat) => D.int (0 + (i : Int)), hE ns ds ps sh z4 z5 z6) := by
  have hr : C62 (ps.length : Int) := ⟨by omega, by omega⟩
  have hb : bLen [pM ps] = .ok (.int ps.length) := by simp [bLen, pM, M.seq]
  simp only [siR1, saCons, saNil, sV, vB, vaCons, vaNil, vN, getE, hE, List.getElem?_cons_succ, List.getElem?_cons_zero, hb, if_pos hr, Int.toNat_natCast]
/-- the places whose site is further on -/
theorem some_in {ns : List Int} {ds : List (List (Int × Int))} {ps : List Ent} {sh : Nat} {z4 z5 z6 : Option M} (hpl : ps.length < 500) :
    ssSet 6 (sLc [7] (siR1 (saCons (sV (vB bLen (vaCons (vN 2) (vaNil)))) (saNil))) (sgN 7) (sbE (s2v oGt (sCall F__law_site [none, none] (saCons (sV (vIx (vN 2) (vN 7))) (saCons (sN 1) (saNil)))) (vN 3))) (sN 7)) (hE ns ds ps sh z4 z5 z6) =
      .ok (.nx, hE ns ds ps sh z4 z5 (some (iM ((List.range ps.length).filter fun i => decide ((sh : Int) < ((site ds.length (ps.getD i (.leaf .non)) : Nat) : Int)))))) := by
  have h := lcl_if (own := [7]) (g := sgN 7) (c := sbE (s2v oGt (sCall F__law_site [none, none] (saCons (sV (vIx (vN 2) (vN 7))) (saCons (sN 1) (saNil)))) (vN 3))) (f := sN 7) (env := hE ns ds ps sh z4 z5 z6) (fun (i : Nat) => D.int (0 + (i : Int))) (fun (i : Nat) => M.d (.int (i : Int))) (fun i => decide ((sh : Int) < ((site ds.length (ps.getD i (.leaf .non)) : Nat) : Int))) (List.range ps.length) [] (fun i hi => some_step (List.mem_range.mp hi))
  have hk : killAll [7] (hE ns ds ps sh z4 z5 z6) = hE ns ds ps sh z4 z5 z6 := rfl
  have hsz : ((List.range ps.length).map fun (i : Nat) => D.int (0 + (i : Int))).length ≤ sizeLine := by rw [sizeLine_eq, List.length_map, List.length_range]; omega
  have hl := sLc_eq (some_range hpl) hsz (by rw [hk]; exact h)
  have h2 := ssSet_eq (i := 6) hl (show (6:Nat) < 9 by decide)
  exact h2
theorem slices_in {ns : List Int} {ds : List (List (Int × Int))} {ps : List Ent} {sh : Int} {z4 z5 : Option M} {xs : List Nat} (hx : xs ≠ []) (hl : xs.length < 500) :
    ∃ ys, ys ≠ [] ∧ ys.length < 1000 ∧ (∀ y ∈ ys, y ∈ xs) ∧ ssSet 6 (s2m mAdd (sSl (vN 6) (voNo) (voI (vC (.int 2)))) (sSl (vN 6) (voI (vNeg (vC (.int 4)))) (voNo))) (hE ns ds ps sh z4 z5 (some (iM xs))) = .ok (.nx, hE ns ds ps sh z4 z5 (some (iM ys))) := by
  obtain ⟨us, hus, husl⟩ : ∃ us, cutL xs (some (-4)) none = us ∧ ((∀ y ∈ us, y ∈ xs) ∧ us.length ≤ xs.length) := by
    refine ⟨_, rfl, fun y hy => ?_, ?_⟩
    · unfold cutL at hy
      exact List.mem_of_mem_drop (List.mem_of_mem_take hy)
    · unfold cutL
      simp
      omega
  have hcm : ∀ lo hi, cutL (xs.map fun (c : Nat) => D.int (c : Int)) lo hi = (cutL xs lo hi).map fun (c : Nat) => D.int (c : Int) := by
    intro lo hi
    unfold cutL
    simp [List.map_take, List.map_drop]
  have hM : iM xs = .lst ((xs.map fun (c : Nat) => D.int (c : Int)).map .d) := by simp [iM]
  have s1 : slM (iM xs) none (some 2) = .ok (iM (xs.take 2)) := by
    rw [hM, slM_own, hcm, cutL_take _ (by decide)]
    simp [iM]
    rfl
  have s2' : slM (iM xs) (some (-4)) none = .ok (iM us) := by
    rw [hM, slM_own, hcm, hus]
    simp [iM]
  have hadd : mAdd (iM (xs.take 2)) (iM us) = .ok (iM (xs.take 2 ++ us)) := by
    have h0 : oAdd (iM (xs.take 2)) (iM us) = .bad := rfl
    have h1 : ((xs.take 2).map fun (c : Nat) => M.d (.int (c : Int))).length + (us.map fun (c : Nat) => M.d (.int (c : Int))).length ≤ sizeLine := by
      rw [sizeLine_eq, List.length_map, List.length_map, List.length_take]; omega
    simp only [mAdd, mOr, h0]
    simp only [iM, mCatL, lstItems, if_pos h1]
    simp
  refine ⟨xs.take 2 ++ us, ?_, by simp; omega, fun y hy => ?_, ?_⟩
  · cases xs with
    | nil => exact absurd rfl hx
    | cons x xs => simp
  · rcases List.mem_append.mp hy with h | h
    · exact List.mem_of_mem_take h
    · exact husl.1 y h
  · simp only [ssSet, s2m, sSl, vN, voNo, voI, vC, vNeg, getE, hE, List.getElem?_cons_succ, List.getElem?_cons_zero, s1]
    simp [s2', hadd]
noncomputable def chd (ys : List Nat) (cell : Int) (j : Nat) : Nat := ys.getD (mixI cell j % ys.length).toNat 0
theorem chd_mem {ys : List Nat} {cell : Int} {j : Nat} (h : ys ≠ []) : chd ys cell j ∈ ys := by
  have h0 : 0 < ys.length := List.length_pos_iff.mpr h
  have h1 : (ys.length : Int) ≠ 0 := by omega
  have h2 := Int.emod_nonneg (mixI cell j) h1
  have h3 := Int.emod_lt_of_pos (mixI cell j) (show (0:Int) < ys.length by omega)
  have h4 : (mixI cell j % ys.length).toNat < ys.length := by omega
  unfold chd
  rw [List.getD_eq_getElem?_getD, List.getElem?_eq_getElem h4]
  exact List.getElem_mem h4
theorem chd_step {ns : List Int} {ds : List (List (Int × Int))} {ps : List Ent} {sh cell : Int} {z4 : Option M} {ys : List Nat} {j : Nat} (hy : ys ≠ []) (hj : j < 100) :
    ∃ e1 e2 e3, sgN 8 (.d (.int (0 + (j : Int)))) (hE ns ds ps sh z4 (some (.d (.int cell))) (some (iM ys))) = .ok e1 ∧ sbYes e1 = .ok (true, e2) ∧
      s2n oIdx 6 (s2 oMod (sCall F__law_mix [none, none] (saCons (sN 5) (saCons (sN 8) (saNil)))) (sV (vB bLen (vaCons (vN 6) (vaNil))))) e2 = .ok (M.d (.int (chd ys cell j : Int)), e3) ∧ killAll [8] e3 = hE ns ds ps sh z4 (some (.d (.int cell))) (some (iM ys)) := by
  have hm := (mix_eq (c := cell) (k := j) (by omega)).2
  have h0 : 0 < ys.length := List.length_pos_iff.mpr hy
  have h1 : (ys.length : Int) ≠ 0 := by omega
  have h2 := Int.emod_nonneg (mixI cell j) h1
  have h3 := Int.emod_lt_of_pos (mixI cell j) (show (0:Int) < ys.length by omega)
  have h4 : (mixI cell j % ys.length).toNat < ys.length := by omega
  have hz : (0 : Int) + (j : Int) = (j : Int) := Int.zero_add _
  rw [hz]
  have hx : oIdx (iM ys) (.d (.int (mixI cell j % ys.length))) = .ok (.int (chd ys cell j : Int)) := by
    have hk : mixI cell j % ys.length = (((mixI cell j % ys.length).toNat : Nat) : Int) := by omega
    have : mIdx (iM ys) (.d (.int (mixI cell j % ys.length))) = .ok (.d (.int (chd ys cell j : Int))) := by
      rw [hk]
      refine mIdx_m ?_
      rw [List.getElem?_map, List.getElem?_eq_getElem h4]
      simp [chd, h4]
    simp only [oIdx, this]
  obtain ⟨A, hA⟩ : ∃ A, A = pM ps := ⟨_, rfl⟩
  have hb : bLen [iM ys] = .ok (.int ys.length) := by simp [bLen, iM, M.seq]
  obtain ⟨B, hB⟩ : ∃ B, B = iM ys := ⟨_, rfl⟩
  rw [← hB] at hx hb
  simp only [hE]
  rw [← hA, ← hB]
  refine ⟨[some (scrM ns), some (.d (dsD ds)), some A, some (.d (.int sh)), z4, some (.d (.int cell)), some B, none, some (.d (.int (j : Int)))], [some (scrM ns), some (.d (dsD ds)), some A, some (.d (.int sh)), z4, some (.d (.int cell)), some B, none, some (.d (.int (j : Int)))], [some (scrM ns), some (.d (dsD ds)), some A, some (.d (.int sh)), z4, some (.d (.int cell)), some B, none, some (.d (.int (j : Int)))], rfl, rfl, ?_, rfl⟩
  simp only [s2n, s2, sCall, saCons, saNil, sV, vB, vaCons, vaNil, vN, sN, getE, List.getElem?_cons_succ, List.getElem?_cons_zero, fz, hm, putBack, hb, oMod_int h1, modI_pos (show (0:Int) < ys.length by omega), hx]
theorem ask_val {ns : List Int} {ds : List (List (Int × Int))} {ps : List Ent} {s : Nat} {cell : Int} {z4 : Option M} {ys : List Nat} {d : List (Int × Int)} (hy : ys ≠ []) (hd : ds[s]? = some d) (hdl : d.length ≤ 3) :
    sFz (sTup (saCons (sV (vC (.str (Str.ofString "ask")))) (saCons (sN 3) (saCons (sLc [8] (siR1 (saCons (sV (vB bLen (vaCons (vIx (vN 1) (vN 3)) (vaNil)))) (saNil))) (sgN 8) sbYes (s2n oIdx 6 (s2 oMod (sCall F__law_mix [none, none] (saCons (sN 5) (saCons (sN 8) (saNil)))) (sV (vB bLen (vaCons (vN 6) (vaNil))))))) (saNil))))) (hE ns ds ps s z4 (some (.d (.int cell))) (some (iM ys))) =
      .ok (.d (entD (.ask s ((List.range d.length).map (chd ys cell)))), hE ns ds ps s z4 (some (.d (.int cell))) (some (iM ys))) := by
  obtain ⟨A, hA⟩ : ∃ A, A = hE ns ds ps s z4 (some (.d (.int cell))) (some (iM ys)) := ⟨_, rfl⟩
  have h := lcl_map (own := [8]) (g := sgN 8) (c := sbYes) (f := s2n oIdx 6 (s2 oMod (sCall F__law_mix [none, none] (saCons (sN 5) (saCons (sN 8) (saNil)))) (sV (vB bLen (vaCons (vN 6) (vaNil)))))) (env := A) (fun (i : Nat) => D.int (0 + (i : Int))) (fun (i : Nat) => M.d (.int (chd ys cell i : Int))) (List.range d.length) [] (fun i hi => by
    rw [hA]
    exact chd_step hy (by have := List.mem_range.mp hi; omega))
  have hr : C62 (d.length : Int) := ⟨by omega, by omega⟩
  have i1 : mIdx (.d (dsD ds)) (.d (.int (s : Int))) = .ok (.d (drwD d)) := mIdx_n (by simp [hd])
  have hb : bLen [.d (drwD d)] = .ok (.int d.length) := by simp [bLen, drwD, M.seq]
  have h1 : siR1 (saCons (sV (vB bLen (vaCons (vIx (vN 1) (vN 3)) (vaNil)))) (saNil)) A = .ok ((List.range d.length).map fun (i : Nat) => D.int (0 + (i : Int)), A) := by
    rw [hA]
    simp only [siR1, saCons, saNil, sV, vB, vaCons, vaNil, vIx, vN, getE, hE, List.getElem?_cons_succ, List.getElem?_cons_zero, i1, hb, if_pos hr, Int.toNat_natCast]
  have hsz : ((List.range d.length).map fun (i : Nat) => D.int (0 + (i : Int))).length ≤ sizeLine := by rw [sizeLine_eq, List.length_map, List.length_range]; omega
  have hk : killAll [8] A = A := by rw [hA]; rfl
  have hl := sLc_eq h1 hsz (by rw [hk]; exact h)
  have h3 : sN 3 A = .ok (.d (.int s), A) := by rw [hA]; rfl
  rw [← hA]
  simp only [sFz, sTup, saCons, saNil, sV, vC, h3, hl, List.length_cons, List.length_nil, sizeLine_eq]
  simp only [show (0 + 1 + 1 + 1 ≤ 16777216) from by decide, if_true, List.nil_append]
  have e : fz (mTup [.d (.str (Str.ofString "ask")), .d (.int s), .lst ((List.range d.length).map fun (i : Nat) => M.d (.int (chd ys cell i : Int)))]) = entD (.ask s ((List.range d.length).map (chd ys cell))) := by
    simp only [mTup, List.all_cons, isD, Bool.and_false, Bool.false_and, Bool.true_and]
    rw [if_neg (by simp)]
    simp only [fz, fzs, fzs_map_d, entD, List.map_map]
    rfl
  rw [e]
structure CI (ds : List (List (Int × Int))) (ps : List Ent) : Prop where
  gp : GP ds ps
  z : ps[0]? = some (.leaf .non)
  al : ∀ (i s : Nat) (cs : List Nat), ps[i]? = some (.ask s cs) → cs.length = (ds.getD s []).length
  lf : ∃ O : List D, O.length ≤ 3 ∧ (∀ x ∈ O, Out x ∧ ∀ xs, x = .tup xs → xs.length ≤ 1000) ∧ ∀ x, Ent.leaf x ∈ ps → x ∈ O
theorem site_le {ds : List (List (Int × Int))} {ps : List Ent} (c : CI ds ps) {i : Nat} {e : Ent} (h : ps[i]? = some e) : site ds.length e ≤ ds.length := by
  cases e with
  | leaf x => exact Nat.le_refl _
  | ask s cs => have := (c.gp i _ h).1; exact Nat.le_of_lt this
theorem CI.app {ds : List (List (Int × Int))} {ps : List Ent} {s : Nat} {cs : List Nat} (c : CI ds ps) (hs : s < ds.length) (hl : cs.length = (ds.getD s []).length) (hc : ∀ x ∈ cs, x < ps.length ∧ s < site ds.length (ps.getD x (.leaf .non))) : CI ds (ps ++ [.ask s cs]) := by
  have old : ∀ i e, ps[i]? = some e → GEnt ds (ps ++ [.ask s cs]) i e := fun i e h => by
    have g := c.gp i e h
    cases e with
    | leaf x => trivial
    | ask s' cs' =>
      refine ⟨g.1, fun x hx => ?_⟩
      obtain ⟨h1, e', h2, h3, h4⟩ := g.2 x hx
      have := (List.getElem?_eq_some_iff.mp h2).1
      exact ⟨h1, e', by rw [List.getElem?_append_left this]; exact h2, h3, h4⟩
  refine ⟨fun i e h => ?_, ?_, fun i s' cs' h => ?_, by obtain ⟨O, h1, h2, h3⟩ := c.lf; exact ⟨O, h1, h2, fun x hx => h3 x (by simpa using hx)⟩⟩
  · rcases Nat.lt_trichotomy i ps.length with q | q | q
    · rw [List.getElem?_append_left q] at h; exact old i e h
    · subst q
      simp at h; subst h
      refine ⟨hs, fun x hx => ?_⟩
      obtain ⟨h1, h2⟩ := hc x hx
      have h3 : ps[x]? = some (ps.getD x (.leaf .non)) := by rw [List.getD_eq_getElem?_getD, List.getElem?_eq_getElem h1]; rfl
      exact ⟨h1, _, by rw [List.getElem?_append_left h1]; exact h3, h2, site_le c h3⟩
    · rw [List.getElem?_eq_none (by simp; omega)] at h; cases h
  · have := (List.getElem?_eq_some_iff.mp c.z).1
    rw [List.getElem?_append_left this]; exact c.z
  · rcases Nat.lt_trichotomy i ps.length with q | q | q
    · rw [List.getElem?_append_left q] at h; exact c.al i s' cs' h
    · subst q
      simp at h
      obtain ⟨rfl, rfl⟩ := h
      exact hl
    · rw [List.getElem?_eq_none (by simp; omega)] at h; cases h
theorem chain_in {ns : List Int} {ds : List (List (Int × Int))} {ps : List Ent} {sh k : Nat} {z5 z6 : Option M} (hds : ∀ d ∈ ds, GDr d) (hn : 0 < ds.length ∧ ds.length ≤ 24) (ci : CI ds ps) (hpl : ps.length < 400) (hsh : sh ≤ ds.length) (hk : k < ns.length ∧ k < 1000) :
    ∃ s cs z5' z6', CI ds (ps ++ [.ask s cs]) ∧ s ≤ ds.length ∧ fb__law_chain_1 (hE ns ds ps sh (some (.d (.int (k : Int)))) z5 z6) = .ok (.nx, hE ns ds (ps ++ [.ask s cs]) s (some (.d (.int (k : Int)))) z5' z6') := by
  have i1 : mIdx (scrM ns) (.d (.int (k : Int))) = .ok (.d (.int ns[k])) := mIdx_scr (List.getElem?_eq_getElem hk.1)
  obtain ⟨hm1, hm⟩ := mix_eq (c := ns[k]'hk.1) (k := k) (by omega)
  obtain ⟨cell, hcell⟩ : ∃ cell, cell = mixI (ns[k]'hk.1) k := ⟨_, rfl⟩
  rw [← hcell] at hm hm1
  obtain ⟨x, hx, hix⟩ : ∃ x : Nat, (1 ≤ x ∧ x ≤ 3) ∧ oIdx (.lst [M.d (.int 1), .d (.int 1), .d (.int 1), .d (.int 2), .d (.int 3)]) (.d (.int (cell % 5))) = .ok (.int x) := by
    rcases (show cell % 5 = 0 ∨ cell % 5 = 1 ∨ cell % 5 = 2 ∨ cell % 5 = 3 ∨ cell % 5 = 4 by omega) with q | q | q | q | q
    · rw [q]; exact ⟨1, by decide, rfl⟩
    · rw [q]; exact ⟨1, by decide, rfl⟩
    · rw [q]; exact ⟨1, by decide, rfl⟩
    · rw [q]; exact ⟨2, by decide, rfl⟩
    · rw [q]; exact ⟨3, by decide, rfl⟩
  obtain ⟨s1, hs1, hs1e⟩ : ∃ s1 : Nat, (0 < s1 ∧ s1 ≤ ds.length) ∧ s1 = if sh = 0 then ds.length else sh := ⟨_, by split <;> omega, rfl⟩
  obtain ⟨s, hs, hse⟩ : ∃ s : Nat, s < ds.length ∧ (if (s1 : Int) - x > 0 then (s1 : Int) - x else 0) = (s : Int) := ⟨s1 - x, by omega, by split <;> omega⟩
  have hd : ds[s]? = some (ds.getD s []) := by rw [List.getD_eq_getElem?_getD, List.getElem?_eq_getElem hs]; rfl
  have hgd := hds _ (List.mem_of_getElem? hd)
  obtain ⟨xs, hxs⟩ : ∃ xs, xs = (List.range ps.length).filter fun i => decide ((s : Int) < ((site ds.length (ps.getD i (.leaf .non)) : Nat) : Int)) := ⟨_, rfl⟩
  have hxm : ∀ i ∈ xs, i < ps.length ∧ s < site ds.length (ps.getD i (.leaf .non)) := fun i hi => by
    rw [hxs, List.mem_filter] at hi
    exact ⟨List.mem_range.mp hi.1, by have := of_decide_eq_true hi.2; omega⟩
  have h0 : 0 < ps.length := (List.getElem?_eq_some_iff.mp ci.z).1
  have hxn : xs ≠ [] := by
    have : 0 ∈ xs := by
      rw [hxs, List.mem_filter]
      refine ⟨List.mem_range.mpr h0, ?_⟩
      have hz : ps.getD 0 (.leaf .non) = .leaf .non := by rw [List.getD_eq_getElem?_getD, ci.z]; rfl
      rw [hz]
      exact decide_eq_true (show (s : Int) < (ds.length : Int) by omega)
    intro z
    rw [z] at this
    cases this
  have hxl : xs.length < 500 := by
    have : xs.length ≤ (List.range ps.length).length := by rw [hxs]; exact List.length_filter_le _ _
    rw [List.length_range] at this
    omega
  obtain ⟨ys, hy, hyl, hyx, hsl⟩ := slices_in (ns := ns) (ds := ds) (ps := ps) (sh := s) (z4 := some (.d (.int (k : Int)))) (z5 := some (.d (.int cell))) hxn hxl
  have hav := ask_val (ns := ns) (ps := ps) (cell := cell) (z4 := some (.d (.int (k : Int)))) hy hd hgd.len
  have hsi := some_in (ns := ns) (ds := ds) (ps := ps) (sh := s) (z4 := some (.d (.int (k : Int)))) (z5 := some (.d (.int cell))) (z6 := z6) (by omega)
  rw [← hxs] at hsi
  refine ⟨s, (List.range (ds.getD s []).length).map (chd ys cell), some (.d (.int cell)), some (iM ys), ci.app hs (by simp) (fun c hc => ?_), by omega, ?_⟩
  · obtain ⟨j, _, rfl⟩ := List.mem_map.mp hc
    exact hxm _ (hyx _ (chd_mem hy))
  unfold fb__law_chain_1
  have hbl : bLen [.d (dsD ds)] = .ok (.int ds.length) := bLen_ds ds
  obtain ⟨A, hA⟩ : ∃ A, A = pM ps := ⟨_, rfl⟩
  rw [ssSeq_nx (e := hE ns ds ps sh (some (.d (.int (k : Int)))) (some (.d (.int cell))) z6) (by
    simp only [hE]
    rw [← hA]
    simp only [ssSet, sCall, saCons, saNil, sV, vIx, vN, sN, getE, List.getElem?_cons_succ, List.getElem?_cons_zero, i1, fz, hm, putBack]
    simp)]
  rw [ssSeq_nx (e := hE ns ds ps s1 (some (.d (.int (k : Int)))) (some (.d (.int cell))) z6) (by
    simp only [hE]
    rw [← hA]
    simp only [ssIf, sbE, sV, v2, vC, vN, vB, vaCons, vaNil, getE, List.getElem?_cons_succ, List.getElem?_cons_zero, oEq_int, ssSet, hbl, ssNil]
    by_cases q : sh = 0
    · have q' : decide ((sh : Int) = 0) = true := decide_eq_true (by omega)
      simp only [q']
      rw [hs1e, if_pos q]
      simp [bLen_ds]
    · have q' : decide ((sh : Int) = 0) = false := decide_eq_false (by omega)
      simp only [q']
      rw [hs1e, if_neg q])]
  rw [ssSeq_nx (e := hE ns ds ps s (some (.d (.int (k : Int)))) (some (.d (.int cell))) z6) (by
    simp only [hE]
    rw [← hA]
    simp only [ssSet, sB, s2, s2v, sLst, saCons, saNil, sV, v2, vC, vN, sN, fz, getE, List.getElem?_cons_succ, List.getElem?_cons_zero, List.length_cons, List.length_nil, sizeLine_eq, oMod_int (show (5:Int) ≠ 0 by decide), modI_pos (show (0:Int) < 5 by decide)]
    simp only [show (0 + 1 + 1 + 1 + 1 + 1 ≤ 16777216) from by decide, if_true, getE, List.getElem?_cons_succ, List.getElem?_cons_zero, oMod_int (show (5:Int) ≠ 0 by decide), modI_pos (show (0:Int) < 5 by decide), hix, oSub_int, bMax2, b2I, hse]
    simp)]
  rw [ssSeq_nx hsi, ssSeq_nx hsl]
  have hpsl : (ps.map fun e => M.d (entD e)).length < sizeLine := by rw [sizeLine_eq, List.length_map]; omega
  have hm0 : getE (hE ns ds ps s (some (.d (.int (k : Int)))) (some (.d (.int cell))) (some (iM ys))) 2 = .ok (pM ps) := rfl
  simp only [ssDrop, sMeth, hm0, saCons, saNil, hav]
  have hil : isLst (pM ps) = true := rfl
  rw [if_pos hil]
  have hap : mAppend (pM ps) [.d (entD (.ask s ((List.range (ds.getD s []).length).map (chd ys cell))))] = .ok (.d .non, pM (ps ++ [.ask s ((List.range (ds.getD s []).length).map (chd ys cell))])) := by
    simp only [mAppend, pM, if_pos hpsl]
    simp
  simp only [hm0, hap]
  rfl
theorem fz_scr (ns : List Int) : fz (scrM ns) = .scr (ns.map D.int) := rfl
theorem chain_int {ns : List Int} {ds : List (List (Int × Int))} (hns : ns.length ≤ 63) (hds : ∀ d ∈ ds, GDr d) (hn : 0 < ds.length ∧ ds.length ≤ 24) :
    ∃ ps, CI ds ps ∧ ps.length ≤ 100 ∧ ∃ e, F__law_chain [scrM ns, .d (dsD ds)] = .ok (pM ps, e) ∧ e[0]? = some (some (scrM ns)) ∧ e[1]? = some (some (.d (dsD ds))) ∧ e.length = 2 := by
  obtain ⟨c0, hc0⟩ : ∃ c0, c0 = ns.getD 0 0 := ⟨_, rfl⟩
  have hcell : F__law_cell_at [M.d (.scr (ns.map D.int)), .d (.int 0)] = .ok (.d (.int c0), [some (scrM ns), some (.d (.int 0))]) := by rw [hc0]; exact cell_int ns 0
  obtain ⟨p0, hp0⟩ : ∃ p0 : List Ent, p0 = [.leaf .non, .leaf (.int (c0 % 1000000000000)), .leaf (.tup [.tup [.str (Str.ofString "a"), .int 0]])] := ⟨_, rfl⟩
  have ci0 : CI ds p0 := by
    rw [hp0]
    refine ⟨fun i e h => ?_, rfl, fun i s cs h => ?_, [.non, .int (c0 % 1000000000000), .tup [.tup [.str (Str.ofString "a"), .int 0]]], by simp, fun x hx => ?_, fun x hx => by simpa using hx⟩
    · match i, h with
      | 0, h => cases h; trivial
      | 1, h => cases h; trivial
      | 2, h => cases h; trivial
      | i + 3, h => simp at h
    · match i, h with
      | 0, h => cases h
      | 1, h => cases h
      | 2, h => cases h
      | i + 3, h => simp at h
    · simp only [List.mem_cons, List.not_mem_nil, or_false] at hx
      have ea : Str.ofString "a" = sl [97] := by rw [slOf]; congr 1
      rcases hx with rfl | rfl | rfl
      · exact ⟨.non, fun xs h => by cases h⟩
      · exact ⟨.int _, fun xs h => by cases h⟩
      · rw [ea]; exact ⟨.rcd [([97], 0)], fun xs h => by cases h; decide⟩
  have hp0l : p0.length = 3 := by rw [hp0]; rfl
  obtain ⟨j, hj, hje⟩ : ∃ j : Nat, j = ns.length ∧ (if (64 : Int) < (ns.length : Int) then 64 else (ns.length : Int)) = (j : Int) := ⟨ns.length, rfl, by rw [if_neg (by omega)]⟩
  obtain ⟨e', h1, ps, sh, z4, z5, z6, ⟨ci, hpl, hsh, _⟩, rfl⟩ := fl_all (g := fg__law_chain_1) (b := fb__law_chain_1) (fun (k : Nat) => D.int (2 + (k : Int)))
    (fun rest env => ∃ (ps : List Ent) (sh : Nat) (z4 z5 z6 : Option M), (CI ds ps ∧ ps.length + rest.length ≤ 100 ∧ sh ≤ ds.length ∧ ∀ k ∈ rest, k + 2 < ns.length) ∧ env = hE ns ds ps sh z4 z5 z6)
    (fun k rest env hI => by
      obtain ⟨ps, sh, z4, z5, z6, ⟨ci, hpl, hsh, hk⟩, rfl⟩ := hI
      simp only [List.length_cons] at hpl
      have hk' := hk k (by simp)
      obtain ⟨s, cs, z5', z6', ci', hs', hb⟩ := chain_in (ns := ns) (k := k + 2) (z5 := z5) (z6 := z6) hds hn ci (by omega) hsh ⟨hk', by omega⟩
      have hkk : (2 : Int) + (k : Int) = ((k + 2 : Nat) : Int) := by omega
      refine ⟨hE ns ds ps sh (some (.d (.int ((k + 2 : Nat) : Int)))) z5 z6, _, .nx, ?_, hb, .inl rfl, _, _, _, _, _, ⟨ci', by simp; omega, hs', fun x hx => hk x (by simp [hx])⟩, rfl⟩
      rw [hkk]
      rfl)
    (List.range (j - 2)) (hE ns ds p0 ds.length none none none) ⟨p0, ds.length, none, none, none, ⟨ci0, by rw [List.length_range]; omega, Nat.le_refl _, fun k hk => by have := List.mem_range.mp hk; omega⟩, rfl⟩
  refine ⟨ps, ci, by simpa using hpl, [some (scrM ns), some (.d (dsD ds))], ?_, rfl, rfl, rfl⟩
  unfold F__law_chain
  rw [runF_ret (m := pM ps) (e := [some (scrM ns), some (.d (dsD ds)), none, some (.d (.int sh)), z4, z5, z6, none, none]) ?_]
  · rfl
  unfold b__law_chain
  show ssSeq _ _ [some (scrM ns), some (.d (dsD ds)), none, none, none, none, none, none, none] = _
  have c3 : CPowD 10 12 := by decide
  rw [ssSeq_nx (e := [some (scrM ns), some (.d (dsD ds)), some (pM p0), none, none, none, none, none, none]) (by
    simp only [ssSet, sLst, sTup, saCons, saNil, sV, vC, v2, vN, s2, sCall, sN, getE, List.getElem?_cons_succ, List.getElem?_cons_zero, fz, fz_scr, hcell, putBack, oPow_int c3, oMod_int (show ((10 ^ (12 : Int).toNat) : Int) ≠ 0 by decide)]
    rw [hp0]
    simp [mTup, isD, unD, pM, entD, sizeLine_eq, modI_pos, fz, hcell, putBack, oMod_int])]
  rw [ssSeq_nx (e := hE ns ds p0 ds.length none none none) (by simp [hE, ssSet, sV, vB, vaCons, vaNil, vN, getE, bLen_ds])]
  have hr1 : siR2 (saCons (sV (vC (.int 2))) (saCons (sV (vB bMin2 (vaCons (vB bLen (vaCons (vN 0) (vaNil))) (vaCons (vC (.int 64)) vaNil)))) (saNil))) (hE ns ds p0 ds.length none none none) = .ok ((List.range (j - 2)).map fun (k : Nat) => D.int (2 + (k : Int)), hE ns ds p0 ds.length none none none) := by
    have q1 : C62 (2 : Int) ∧ C62 (j : Int) := ⟨⟨by omega, by omega⟩, ⟨by omega, by omega⟩⟩
    have q2 : ((j : Int) - 2).toNat = j - 2 := by omega
    simp only [siR2, saCons, saNil, sV, vC, vB, vaCons, vaNil, vN, getE, hE, List.getElem?_cons_succ, List.getElem?_cons_zero, bLen_scr, bMin2, b2I, hje, if_pos q1, q2]
  rw [ssSeq_nx (show ssFor _ fg__law_chain_1 fb__law_chain_1 _ = _ from by
    unfold ssFor
    rw [hr1]
    exact h1)]
  simp [ssRet, sT, getE, hE]
/-! ### the copy -/
theorem copy_in {P z2 : Option M} {e : Ent} (hz : z2 = none) (hcl : ∀ s cs, e = .ask s cs → cs.length ≤ 3) :
    ∃ e3, s2m mAdd (sTup (saCons (sV (vIx (vN 1) (vC (.int 0)))) (saCons (sV (vIx (vN 1) (vC (.int 1)))) (saNil)))) (sTupOf (sLc [2] (siQ (sSl (vN 1) (voI (vC (.int 2))) (voNo))) (sgN 2) sbYes (sListV (vN 2)))) [P, some (.d (entD e)), z2] = .ok (.d (entD e), e3) ∧ killAll [1] e3 = [P, none, none] := by
  subst hz
  cases e with
  | leaf x =>
    refine ⟨[P, some (.d (entD (.leaf x))), none], ?_, rfl⟩
    have h1 : siQ (sSl (vN 1) (voI (vC (.int 2))) (voNo)) [P, some (.d (entD (.leaf x))), none] = .ok ([], [P, some (.d (entD (.leaf x))), none]) := by
      simp only [siQ, sSl, vN, voI, voNo, vC, getE, List.getElem?_cons_succ, List.getElem?_cons_zero, entD, slM, cutL_drop _ (show (0:Int) ≤ 2 by decide), fz, itemsD]
      rfl
    have h2 := sLc_eq (own := [2]) (g := sgN 2) (c := sbYes) (f := sListV (vN 2)) h1 (by simp) (show lcl [2] (sgN 2) sbYes (sListV (vN 2)) [] [] _ = .ok ([], [P, some (.d (entD (.leaf x))), none]) from rfl)
    simp only [s2m, sTup, saCons, saNil, sV, vIx, vN, vC, getE, List.getElem?_cons_succ, List.getElem?_cons_zero, ix_l0, ix_l1, List.length_cons, List.length_nil, sizeLine_eq, sTupOf, h2, fz, fzs, itemsLT]
    simp only [show (0 + 1 + 1 ≤ 16777216) from by decide, if_true, sTupOf, h2, fz, fzs, itemsLT, mTup, List.all_cons, List.all_nil, isD, Bool.and_true, List.map_cons, List.map_nil, unD]
    rfl
  | ask s cs =>
    have hcl' := hcl s cs rfl
    refine ⟨[P, some (.d (entD (.ask s cs))), none], ?_, rfl⟩
    have h1 : siQ (sSl (vN 1) (voI (vC (.int 2))) (voNo)) [P, some (.d (entD (.ask s cs))), none] = .ok ([.lst (cs.map fun (c : Nat) => .int (c : Int))], [P, some (.d (entD (.ask s cs))), none]) := by
      simp only [siQ, sSl, vN, voI, voNo, vC, getE, List.getElem?_cons_succ, List.getElem?_cons_zero, entD, slM, cutL_drop _ (show (0:Int) ≤ 2 by decide), fz, itemsD]
      rfl
    have h2 := sLc_eq (own := [2]) (g := sgN 2) (c := sbYes) (f := sListV (vN 2)) h1 (by simp [sizeLine_eq]) (show lcl [2] (sgN 2) sbYes (sListV (vN 2)) [.lst (cs.map fun (c : Nat) => .int (c : Int))] [] _ = .ok ([.lst ((cs.map fun (c : Nat) => D.int (c : Int)).map .d)], [P, some (.d (entD (.ask s cs))), none]) from rfl)
    simp only [s2m, sTup, saCons, saNil, sV, vIx, vN, vC, getE, List.getElem?_cons_succ, List.getElem?_cons_zero, ix_a0, ix_a1, List.length_cons, List.length_nil, sizeLine_eq]
    simp only [show (0 + 1 + 1 ≤ 16777216) from by decide, if_true, sTupOf, h2, fz, fzs, fzs_d, itemsLT, mTup, List.all_cons, List.all_nil, isD, Bool.and_true, List.map_cons, List.map_nil, unD]
    rfl
theorem copy_int {ps : List Ent} (hl : ps.length ≤ 100) (hcl : ∀ e ∈ ps, ∀ s cs, e = .ask s cs → cs.length ≤ 3) : F__law_copy [.d (.lst (ps.map entD))] = .ok (pM ps, [some (.d (.lst (ps.map entD)))]) := by
  have h := lclw_map (own := [1]) (ws := [0]) (env0 := [some (.d (.lst (ps.map entD))), none, none]) (g := sgN 1) (c := sbYes) (f := s2m mAdd (sTup (saCons (sV (vIx (vN 1) (vC (.int 0)))) (saCons (sV (vIx (vN 1) (vC (.int 1)))) (saNil)))) (sTupOf (sLc [2] (siQ (sSl (vN 1) (voI (vC (.int 2))) (voNo))) (sgN 2) sbYes (sListV (vN 2))))) (env := [some (.d (.lst (ps.map entD))), none, none]) entD (fun e => M.d (entD e)) (fun _ _ => rfl) ps [] (fun e he => by
    obtain ⟨e3, h1, h2⟩ := copy_in (P := some (.d (.lst (ps.map entD)))) (z2 := none) (e := e) rfl (hcl e he)
    exact ⟨[some (.d (.lst (ps.map entD))), some (.d (entD e)), none], _, e3, rfl, rfl, h1, h2⟩)
  have h2 := sLcW_eq (own := [1]) (ws := [0]) (fi := iwN 0) (env := [some (.d (.lst (ps.map entD))), none, none]) (xs := ps.map entD) rfl (by rw [sizeLine_eq, List.length_map]; omega) (by decide) h
  unfold F__law_copy
  rw [runF_ret (m := pM ps) (e := [some (.d (.lst (ps.map entD))), none, none]) ?_]
  · rfl
  unfold b__law_copy
  show ssRet _ [some (.d (.lst (ps.map entD))), none, none] = _
  unfold ssRet
  rw [h2]
  simp [pM]
abbrev Tb := Int × List (D × Int)
def tD (q : Tb) : D := .lst (q.2.map (frD q.1))
def its (ds : List (List (Int × Int))) (ps : List Ent) (fs : List Tb) (d : List (Int × Int)) (s : Nat) (cs : List Nat) : List Itm :=
  (List.zip d cs).map fun x => ⟨x.1.2, (fs.getD x.2 (1, [])).1, pS (midD ds (s + 1) (site ds.length (ps.getD x.2 (.leaf .non)))), (fs.getD x.2 (1, [])).2⟩
structure GF (O : List D) (ds : List (List (Int × Int))) (ps : List Ent) (fs : List Tb) : Prop where
  ok : ∀ (i : Nat) (q : Tb) (e : Ent), fs[i]? = some q → ps[i]? = some e → q.1 = CS ds (site ds.length e) ∧ Ris (q.2.map (·.1)) ∧ ∀ p ∈ q.2, p.1 ∈ O ∧ 0 < p.2 ∧ Bd (ds.length - site ds.length e) p.2
  sp : ∀ (i : Nat) (q : Tb) (s : Nat) (cs : List Nat) (d : List (Int × Int)), fs[i]? = some q → ps[i]? = some (.ask s cs) → ds[s]? = some d → Rws (allP (its ds ps fs d s cs)) q.2
  lf : ∀ (i : Nat) (q : Tb) (x : D), fs[i]? = some q → ps[i]? = some (.leaf x) → q = (1, [(x, 1)])
theorem ris_nd {L : List D} (h : Ris L) : L.Nodup := by
  refine List.Pairwise.imp ?_ h
  intro a b hab e
  subst e
  rw [lt_irr] at hab
  cases hab
theorem nd_len : ∀ {L O : List D}, L.Nodup → (∀ x ∈ L, x ∈ O) → L.length ≤ O.length
  | [], O, _, _ => Nat.zero_le _
  | x :: L, O, h, hs => by
    obtain ⟨h1, h2⟩ := List.nodup_cons.mp h
    have hx := hs x (by simp)
    have := nd_len (L := L) (O := O.erase x) h2 fun y hy => by
      have hne : y ≠ x := fun z => h1 (z ▸ hy)
      exact (List.mem_erase_of_ne hne).mpr (hs y (by simp [hy]))
    rw [List.length_erase_of_mem hx] at this
    have := List.length_pos_of_mem hx
    simp only [List.length_cons]
    omega
theorem wt_bdR {Q : List (D × Int)} {k : Nat} (h : Ris (Q.map (·.1))) (hb : ∀ p ∈ Q, Bd k p.2) (o : D) : Bd k (wt Q o) := by
  by_cases ho : o ∈ Q.map (·.1)
  · obtain ⟨p, hp, rfl⟩ := List.mem_map.mp ho
    rw [wt_ris h hp]
    exact hb p hp
  · rw [wt_not ho]; exact Bd.zero _
theorem wt_allP (L : List Itm) (o : D) : wt (allP L) o = (L.map fun x => x.w * (wt x.R o * x.P)).sum := by
  induction L with
  | nil => rfl
  | cons x L ih =>
    unfold allP at ih ⊢
    rw [List.flatMap_cons, wt_app, ih, itP, wt_mul]
    rfl
theorem sum_zip {K : Int} (f : Nat → Int) : ∀ (d : List (Int × Int)) (cs : List Nat), (∀ c ∈ cs, 0 ≤ f c ∧ f c ≤ K) → (∀ p ∈ d, 0 ≤ p.2) → 0 ≤ K → 0 ≤ ((List.zip d cs).map fun x => x.1.2 * f x.2).sum ∧ ((List.zip d cs).map fun x => x.1.2 * f x.2).sum ≤ (d.map Prod.snd).sum * K
  | [], cs, _, _, _ => by simp
  | p :: d, [], _, hd, hK => by
    have := (sum_ge (l := ((p :: d).map Prod.snd)) fun x hx => by obtain ⟨q, hq, rfl⟩ := List.mem_map.mp hx; exact hd q hq).1
    simp only [List.zip_nil_right, List.map_nil, List.sum_nil]
    exact ⟨Int.le_refl _, Int.mul_nonneg this hK⟩
  | p :: d, c :: cs, hc, hd, hK => by
    obtain ⟨h1, h2⟩ := sum_zip f d cs (fun x hx => hc x (by simp [hx])) (fun x hx => hd x (by simp [hx])) hK
    have h3 := hc c (by simp)
    have h4 := hd p (by simp)
    have h5 := Int.mul_nonneg h4 h3.1
    have h6 := Int.mul_le_mul_of_nonneg_left h3.2 h4
    simp only [List.zip_cons_cons, List.map_cons, List.sum_cons]
    rw [Int.add_mul]
    omega
theorem GEnt.facts {O : List D} {ds : List (List (Int × Int))} {ps : List Ent} {fs : List Tb} {s c i : Nat} {cs : List Nat} (g : GEnt ds ps i (.ask s cs)) (hf : GF O ds ps fs) (hi : i ≤ fs.length) (hc : c ∈ cs) :
    ∃ e q, ps[c]? = some e ∧ fs[c]? = some q ∧ s < site ds.length e ∧ site ds.length e ≤ ds.length ∧ q.1 = CS ds (site ds.length e) ∧ Ris (q.2.map (·.1)) ∧ ∀ p ∈ q.2, p.1 ∈ O ∧ 0 < p.2 ∧ Bd (ds.length - site ds.length e) p.2 := by
  obtain ⟨h1, e, h2, h3, h4⟩ := g.2 c hc
  have hq : fs[c]? = some fs[c] := List.getElem?_eq_getElem (by omega)
  obtain ⟨b1, b2, b3⟩ := hf.ok c _ e hq h2
  exact ⟨e, _, h2, hq, h3, h4, b1, b2, b3⟩
theorem its_ok {O : List D} {ds : List (List (Int × Int))} {ps : List Ent} {fs : List Tb} {s i : Nat} {cs : List Nat} {d : List (Int × Int)} (hds : ∀ d ∈ ds, GDr d) (hl : ds.length ≤ 24) (hO : O.length ≤ 3 ∧ ∀ x ∈ O, Out x) (hd : ds[s]? = some d) (g : GEnt ds ps i (.ask s cs)) (hf : GF O ds ps fs) (hi : i ≤ fs.length) :
    (∀ x ∈ its ds ps fs d s cs, ItOk (sW d) (CS ds s) x) ∧ (∀ p ∈ allP (its ds ps fs d s cs), p.1 ∈ O ∧ 0 < p.2 ∧ Bd (ds.length - s) p.2) ∧ ∀ o, Bd (ds.length - s) (wt (allP (its ds ps fs d s cs)) o) := by
  have hgd := hds _ (List.mem_of_getElem? hd)
  have hs := (List.getElem?_eq_some_iff.mp hd).1
  have key : ∀ x ∈ List.zip d cs, ∃ e q, ps[x.2]? = some e ∧ fs[x.2]? = some q ∧ x.1 ∈ d ∧ x.2 ∈ cs ∧ s < site ds.length e ∧ site ds.length e ≤ ds.length ∧ q.1 = CS ds (site ds.length e) ∧ Ris (q.2.map (·.1)) ∧ ∀ p ∈ q.2, p.1 ∈ O ∧ 0 < p.2 ∧ Bd (ds.length - site ds.length e) p.2 := fun x hx => by
    have hz := List.of_mem_zip (show (x.1, x.2) ∈ _ from hx)
    obtain ⟨e, q, h1, h2, h3⟩ := g.facts hf hi hz.2
    exact ⟨e, q, h1, h2, hz.1, hz.2, h3⟩
  refine ⟨fun y hy => ?_, fun p hp => ?_, fun o => ?_⟩
  · obtain ⟨x, hx, rfl⟩ := List.mem_map.mp hy
    obtain ⟨e, q, h1, h2, h3, h4, h5, h6, h7, h8, h9⟩ := key x hx
    have e1 : fs.getD x.2 (1, []) = q := by rw [List.getD_eq_getElem?_getD, h2]; rfl
    have e2 : ps.getD x.2 (.leaf .non) = e := by rw [List.getD_eq_getElem?_getD, h1]; rfl
    rw [e1, e2]
    have hC := CS_bd (t := site ds.length e) hds
    refine ⟨hgd.bw h3, ?_, (pS_bd (midD_g hds)).2, ?_, fun p hp => ⟨hO.2 _ (h9 p hp).1, (h9 p hp).2.2.mono (by omega)⟩, ?_⟩
    · show 0 < q.1 ∧ Bd 24 q.1
      rw [h7]
      exact ⟨hC.2, hC.1.mono (by omega)⟩
    · show sW d * q.1 * _ = _
      rw [h7, CS_split hd h5, Int.mul_assoc, Int.mul_assoc, Int.mul_comm (CS ds _)]
    · have := nd_len (ris_nd h8) (O := O) fun x hx => by obtain ⟨p, hp, rfl⟩ := List.mem_map.mp hx; exact (h9 p hp).1
      rw [List.length_map] at this
      exact Nat.le_trans this hO.1
  · obtain ⟨y, hy, hpy⟩ := List.mem_flatMap.mp hp
    obtain ⟨x, hx, rfl⟩ := List.mem_map.mp hy
    obtain ⟨e, q, h1, h2, h3, h4, h5, h6, h7, h8, h9⟩ := key x hx
    have e1 : fs.getD x.2 (1, []) = q := by rw [List.getD_eq_getElem?_getD, h2]; rfl
    have e2 : ps.getD x.2 (.leaf .non) = e := by rw [List.getD_eq_getElem?_getD, h1]; rfl
    rw [e1, e2] at hpy
    obtain ⟨p', hp', rfl⟩ := List.mem_map.mp hpy
    obtain ⟨k1, k2, k3⟩ := h9 p' hp'
    have hP := pS_bd (midD_g (lo := s + 1) (hi := site ds.length e) hds)
    have hml := midD_len (ds := ds) (lo := s + 1) (hi := site ds.length e)
    exact ⟨k1, Int.mul_pos (Int.mul_pos (hgd.w _ h3).1 k2) hP.2, (((hgd.bw h3).mul k3).mul hP.1).mono (by omega)⟩
  · rw [wt_allP]
    have e0 : (its ds ps fs d s cs).map (fun x => x.w * (wt x.R o * x.P)) = (List.zip d cs).map fun x => x.1.2 * (fun c => wt (fs.getD c (1, [])).2 o * pS (midD ds (s + 1) (site ds.length (ps.getD c (.leaf .non))))) x.2 := by
      unfold its
      rw [List.map_map]
      rfl
    rw [e0]
    have hK : Bd (ds.length - s - 1) (((2 ^ (22 * (ds.length - s - 1)) : Nat) : Int)) := ⟨Int.natCast_nonneg _, Int.le_refl _⟩
    obtain ⟨h1, h2⟩ := sum_zip (K := ((2 ^ (22 * (ds.length - s - 1)) : Nat) : Int)) (fun c => wt (fs.getD c (1, [])).2 o * pS (midD ds (s + 1) (site ds.length (ps.getD c (.leaf .non))))) d cs (fun c hc => by
      obtain ⟨e, q, h1, h2, h3, h4, h5, h6, h7⟩ := g.facts hf hi hc
      have e1 : fs.getD c (1, []) = q := by rw [List.getD_eq_getElem?_getD, h2]; rfl
      have e2 : ps.getD c (.leaf .non) = e := by rw [List.getD_eq_getElem?_getD, h1]; rfl
      simp only [e1, e2]
      have hP := pS_bd (midD_g (lo := s + 1) (hi := site ds.length e) hds)
      have hml := midD_len (ds := ds) (lo := s + 1) (hi := site ds.length e)
      exact ((wt_bdR h6 (fun p hp => (h7 p hp).2.2) o).mul hP.1).mono (by omega)) (fun p hp => Int.le_of_lt (hgd.w p hp).1) hK.1
    refine ⟨h1, Int.le_trans h2 ?_⟩
    exact (hgd.bs.mul hK |>.mono (show 1 + (ds.length - s - 1) ≤ ds.length - s by omega)).2
theorem its_ext {ds : List (List (Int × Int))} {ps : List Ent} {fs : List Tb} {q : Tb} {s i : Nat} {cs : List Nat} {d : List (Int × Int)} (g : GEnt ds ps i (.ask s cs)) (hi : i ≤ fs.length) : its ds ps (fs ++ [q]) d s cs = its ds ps fs d s cs := by
  refine List.map_congr_left fun x hx => ?_
  have := (g.2 x.2 (List.of_mem_zip (show (x.1, x.2) ∈ _ from hx)).2).1
  have e1 : (fs ++ [q]).getD x.2 (1, []) = fs.getD x.2 (1, []) := by
    rw [List.getD_eq_getElem?_getD, List.getD_eq_getElem?_getD, List.getElem?_append_left (by omega)]
  rw [e1]
theorem GF.app {O : List D} {ds : List (List (Int × Int))} {ps : List Ent} {fs : List Tb} {e : Ent} {q : Tb} (gp : GP ds ps) (hf : GF O ds ps fs) (he : ps[fs.length]? = some e)
    (h1 : q.1 = CS ds (site ds.length e) ∧ Ris (q.2.map (·.1)) ∧ ∀ p ∈ q.2, p.1 ∈ O ∧ 0 < p.2 ∧ Bd (ds.length - site ds.length e) p.2)
    (h2 : ∀ s cs d, e = .ask s cs → ds[s]? = some d → Rws (allP (its ds ps fs d s cs)) q.2) (h3 : ∀ x, e = .leaf x → q = (1, [(x, 1)])) : GF O ds ps (fs ++ [q]) := by
  have sel : ∀ i q', (fs ++ [q])[i]? = some q' → (i < fs.length ∧ fs[i]? = some q') ∨ (i = fs.length ∧ q' = q) := fun i q' h => by
    rcases Nat.lt_trichotomy i fs.length with k | k | k
    · rw [List.getElem?_append_left k] at h; exact .inl ⟨k, h⟩
    · subst k; simp at h; exact .inr ⟨rfl, h.symm⟩
    · rw [List.getElem?_eq_none (by simp; omega)] at h; cases h
  refine ⟨fun i q' e' hq he' => ?_, fun i q' s cs d hq he' hd => ?_, fun i q' x hq he' => ?_⟩
  · rcases sel i q' hq with ⟨k, h⟩ | ⟨rfl, rfl⟩
    · exact hf.ok i q' e' h he'
    · rw [he] at he'; cases he'; exact h1
  · rw [its_ext (gp i _ he') (by rcases sel i q' hq with ⟨k, h⟩ | ⟨rfl, rfl⟩ <;> omega)]
    rcases sel i q' hq with ⟨k, h⟩ | ⟨rfl, rfl⟩
    · exact hf.sp i q' s cs d h he' hd
    · rw [he] at he'; cases he'; exact h2 s cs d rfl hd
  · rcases sel i q' hq with ⟨k, h⟩ | ⟨rfl, rfl⟩
    · exact hf.lf i q' x h he'
    · rw [he] at he'; cases he'; exact h3 x rfl
abbrev qE (ps : List Ent) (ds : List (List (Int × Int))) (f z3 z4 : Option M) : FL.Env := [some (.d (.lst (ps.map entD))), some (.d (dsD ds)), f, z3, z4, none, none]
def fM (fs : List Tb) : M := .lst (fs.map fun q => .d (tD q))
theorem app_fM {fs : List Tb} {q : Tb} (hl : fs.length < 1000) : mAppend (fM fs) [.d (tD q)] = .ok (.d .non, fM (fs ++ [q])) := by
  have h1 : (fs.map fun q => M.d (tD q)).length < sizeLine := by rw [sizeLine_eq, List.length_map]; omega
  simp only [mAppend, fM, if_pos h1]
  simp
theorem weigh_leaf {ps : List Ent} {ds : List (List (Int × Int))} {fs : List Tb} {x : D} {z4 : Option M} (hl : fs.length < 1000) :
    fb_weighed_1 (qE ps ds (some (fM fs)) (some (.d (entD (.leaf x)))) z4) = .ok (.nx, qE ps ds (some (fM (fs ++ [(1, [(x, 1)])]))) (some (.d (entD (.leaf x)))) z4) := by
  obtain ⟨B, hB⟩ : ∃ B, B = qE ps ds (some (fM fs)) (some (.d (entD (.leaf x)))) z4 := ⟨_, rfl⟩
  have hc : sbE (sV (v2 oEq (vIx (vN 3) (vC (.int 0))) (vC (.str (Str.ofString "leaf"))))) B = .ok (true, B) := by
    rw [hB]
    simp only [sbE, sV, v2, vIx, vN, vC, getE, qE, List.getElem?_cons_succ, List.getElem?_cons_zero, ix_l0, eq_ll]
  have hv : sFz (sLst (saCons (sTup (saCons (sV (vIx (vN 3) (vC (.int 1)))) (saCons (sTup (saCons (sV (vC (.int 1))) (saCons (sV (vC (.int 1))) (saNil)))) (saNil)))) (saNil))) B = .ok (.d (tD (1, [(x, 1)])), B) := by
    rw [hB]
    have l1 := low_self (W := 1) (by decide)
    simp only [sFz, sLst, sTup, saCons, saNil, sV, vIx, vN, vC, getE, qE, List.getElem?_cons_succ, List.getElem?_cons_zero, ix_l1]
    simp [mTup, isD, unD, sizeLine_eq, fz, fzs, tD, frD, frP, l1.1, l1.2]
  have hg : getE B 2 = .ok (fM fs) := by rw [hB]; rfl
  unfold fb_weighed_1
  rw [← hB, ssIf_t hc, ssDrop_eq (sMeth_eq hg rfl (sa1_eq hv) hg (app_fM hl)), hB]
  rfl
def shcD (S : Int) (x : (Int × Int) × Nat) : D := pairD (frP S x.1.2) (.int (x.2 : Int))
theorem weigh_ask {O : List D} {ps : List Ent} {ds : List (List (Int × Int))} {fs : List Tb} {s : Nat} {cs : List Nat} {d : List (Int × Int)} {z4 : Option M} (hds : ∀ d ∈ ds, GDr d) (hl : ds.length ≤ 24) (hO : O.length ≤ 3 ∧ ∀ x ∈ O, Out x) (hfl : fs.length < 1000) (hd : ds[s]? = some d) (g : GEnt ds ps fs.length (.ask s cs)) (hf : GF O ds ps fs) :
    ∃ R, Rws (allP (its ds ps fs d s cs)) R ∧ (∀ p ∈ R, p.1 ∈ O ∧ 0 < p.2 ∧ Bd (ds.length - s) p.2) ∧ ∃ z4', fb_weighed_1 (qE ps ds (some (fM fs)) (some (.d (entD (.ask s cs)))) z4) = .ok (.nx, qE ps ds (some (fM (fs ++ [(CS ds s, R)]))) (some (.d (entD (.ask s cs)))) z4') := by
  have hgd := hds _ (List.mem_of_getElem? hd)
  obtain ⟨o1, o2, o3⟩ := its_ok hds hl hO hd g hf (Nat.le_refl _)
  obtain ⟨I, hI⟩ : ∃ I, I = its ds ps fs d s cs := ⟨_, rfl⟩
  have hIl : I.length ≤ 3 := by rw [hI]; unfold its; rw [List.length_map, List.length_zip]; have := hgd.len; omega
  rw [← hI] at o1 o2 o3
  have hw : W100 (allP I) := by
    refine ⟨fun p hp => ?_, by have := allP_len o1; omega⟩
    obtain ⟨k1, k2, k3⟩ := o2 p hp
    refine ⟨hO.2 _ k1, Int.le_of_lt k2, Int.le_trans (k3.mono (show ds.length - s ≤ 24 by omega)).2 ?_⟩
    decide
  have hbr : brw (.lst ((I.map (itD (sW d))).map .d)) = some (false, I.map (itD (sW d))) := by simp only [brw, all_isD, map_unD, if_true]
  obtain ⟨R, hR, hRl, e, hmx⟩ := mixed_ok hbr hgd.s.1 hgd.bs o1 hIl (CS_w (t := s) hds hl) hw
  have hRp : ∀ p ∈ R, p.1 ∈ O ∧ 0 < p.2 ∧ Bd (ds.length - s) p.2 := fun p hp => by
    have hm := (hR.mem p.1).mp (List.mem_map_of_mem hp)
    rw [hR.val p hp]
    refine ⟨?_, wt_pos (fun q hq => (o2 q hq).2.1) hm, o3 _⟩
    obtain ⟨q, hq, e⟩ := List.mem_map.mp hm
    rw [← e]; exact (o2 q hq).1
  rw [pos_all fun p hp => (hRp p hp).2.1] at hmx
  refine ⟨R, by rw [← hI]; exact hR, hRp, some (.d (.lst (d.map fun p => frP (sW d) p.2))), ?_⟩
  have hsh := shares_int hgd
  have i1 : mIdx (.d (dsD ds)) (.d (.int (s : Int))) = .ok (.d (drwD d)) := mIdx_n (by simp [hd])
  obtain ⟨B, hB⟩ : ∃ B, B = qE ps ds (some (fM fs)) (some (.d (entD (.ask s cs)))) z4 := ⟨_, rfl⟩
  obtain ⟨B2, hB2⟩ : ∃ B2, B2 = qE ps ds (some (fM fs)) (some (.d (entD (.ask s cs)))) (some (.lst (d.map fun p => .d (frP (sW d) p.2)))) := ⟨_, rfl⟩
  obtain ⟨B3, hB3⟩ : ∃ B3, B3 = qE ps ds (some (fM fs)) (some (.d (entD (.ask s cs)))) (some (.d (.lst (d.map fun p => frP (sW d) p.2)))) := ⟨_, rfl⟩
  have hc : sbE (sV (v2 oEq (vIx (vN 3) (vC (.int 0))) (vC (.str (Str.ofString "leaf"))))) B = .ok (false, B) := by
    rw [hB]
    simp only [sbE, sV, v2, vIx, vN, vC, getE, qE, List.getElem?_cons_succ, List.getElem?_cons_zero, ix_a0, eq_al]
  have n1 : sV (vIx (vN 1) (vIx (vN 3) (vC (.int 1)))) B = .ok (.d (drwD d), B) := by
    rw [hB]
    simp only [sV, vIx, vN, vC, getE, qE, List.getElem?_cons_succ, List.getElem?_cons_zero, ix_a1, i1]
  have n4 : sN 4 B2 = .ok (.d (.lst (d.map fun p => frP (sW d) p.2)), B3) := by
    rw [hB2, hB3]
    simp only [sN, getE, qE, List.getElem?_cons_succ, List.getElem?_cons_zero, fz, fzs_map_d, List.set_cons_succ, List.set_cons_zero]
  have n3 : sV (vIx (vN 3) (vC (.int 2))) B3 = .ok (.d (.lst (cs.map fun (c : Nat) => .int (c : Int))), B3) := by
    rw [hB3]
    simp only [sV, vIx, vN, vC, getE, qE, List.getElem?_cons_succ, List.getElem?_cons_zero, ix_a2]
  have hz : siZip (saCons (sN 4) (saCons (sV (vIx (vN 3) (vC (.int 2)))) (saNil))) B2 = .ok ((List.zip d cs).map (shcD (sW d)), B3) := by
    unfold siZip
    rw [sa2_eq n4 n3]
    have : List.zipWith pairD (d.map fun p => frP (sW d) p.2) (cs.map fun (c : Nat) => D.int (c : Int)) = (List.zip d cs).map (shcD (sW d)) := zip_pairs _ _ _ _
    simp only [fz, itemsLT, if_true, this]
  have hk : killAll [5, 6] B3 = B3 := by rw [hB3]; rfl
  have hlm := lcl_map (own := [5, 6]) (g := sgTup 2 (sgCons (sgN 5) (sgCons (sgN 6) (sgNil)))) (c := sbYes) (f := sTup (saCons (sN 5) (saCons (sV (vIx (vN 2) (vN 6))) (saNil)))) (env := B3) (shcD (sW d)) (fun x => M.d (itD (sW d) ⟨x.1.2, (fs.getD x.2 (1, [])).1, pS (midD ds (s + 1) (site ds.length (ps.getD x.2 (.leaf .non)))), (fs.getD x.2 (1, [])).2⟩)) (List.zip d cs) [] (fun x hx => by
    have hx' := List.of_mem_zip (show (x.1, x.2) ∈ _ from hx)
    obtain ⟨e, q, h1, h2, _⟩ := g.facts hf (Nat.le_refl _) hx'.2
    have e1 : fs.getD x.2 (1, []) = q := by rw [List.getD_eq_getElem?_getD, h2]; rfl
    have i2 : mIdx (fM fs) (.d (.int (x.2 : Int))) = .ok (.d (tD q)) := mIdx_m (by simp [h2])
    rw [e1]
    obtain ⟨A, hA⟩ : ∃ A, A = fM fs := ⟨_, rfl⟩
    rw [hB3]
    simp only [qE]
    rw [← hA] at i2 ⊢
    refine ⟨[some (.d (.lst (ps.map entD))), some (.d (dsD ds)), some A, some (.d (entD (.ask s cs))), some (.d (.lst (d.map fun p => frP (sW d) p.2))), some (.d (frP (sW d) x.1.2)), some (.d (.int (x.2 : Int)))], _, [some (.d (.lst (ps.map entD))), some (.d (dsD ds)), some A, some (.d (entD (.ask s cs))), some (.d (.lst (d.map fun p => frP (sW d) p.2))), some (.d (frP (sW d) x.1.2)), some (.d (.int (x.2 : Int)))], by simp [shcD, pairD, itemsD, itemsLT, runF, ssSeq, ssSet, ssIf, ssRet, ssDrop, ssNil, ssRaise, ssPar, setAll, ssAsg, sgN, sgNil, sgCons, sgTup, sbE, sbNot, sbAnd, sbOr, sNotV, sAndV, sOrV, sIf, sV, v2, vN, vC, getE, sN, sT, s2, s2v, s2n, sCall, saCons, saNil, putBack, killAll, sTup, mTup, isD, unD, sLst, vIx, mIdx, M.seq, atI, ixN, vB, vaCons, vaNil, bAbs, b1I, b2I, bLen, vIsi, tyM, tyD, isiB, fz, oAdd_int, oSub_int, oMul_int, oFdiv_int, oMod_int, oPow_int, oLt_int, oLe_int, oGt_int, oGe_int, oEq_int, oNe_int, sizeLine_eq, vNeg, ssSetI, sMeth, isLst, mAppend], rfl, ?_, rfl⟩
    simp only [sTup, saCons, saNil, sN, sV, vIx, vN, getE, List.getElem?_cons_succ, List.getElem?_cons_zero, fz, i2]
    simp [mTup, isD, unD, sizeLine_eq, itD, tD])
  have hzl : ((List.zip d cs).map (shcD (sW d))).length ≤ sizeLine := by rw [sizeLine_eq, List.length_map, List.length_zip]; have := hgd.len; omega
  have hlc := sLc_eq hz hzl (by rw [hk]; exact hlm)
  have hM : M.lst ([] ++ (List.zip d cs).map fun x => M.d (itD (sW d) ⟨x.1.2, (fs.getD x.2 (1, [])).1, pS (midD ds (s + 1) (site ds.length (ps.getD x.2 (.leaf .non)))), (fs.getD x.2 (1, [])).2⟩)) = .lst ((I.map (itD (sW d))).map .d) := by
    rw [hI]
    unfold its
    rw [List.nil_append, List.map_map, List.map_map]
    rfl
  rw [hM] at hlc
  have hv := sFz_eq (sCall_n (bk := [none]) (by decide) (sa1_eq hlc) hmx)
  have hfz : fz (.lst ((R.map (frD (CS ds s))).map .d)) = tD (CS ds s, R) := by simp only [fz, fzs_d, tD]
  rw [hfz] at hv
  have hg2 : getE B2 2 = .ok (fM fs) := by rw [hB2]; rfl
  have hg3 : getE B3 2 = .ok (fM fs) := by rw [hB3]; rfl
  unfold fb_weighed_1
  rw [← hB, ssIf_f hc]
  rw [ssSeq_nx (ssSet_eq (i := 4) (sCall_n (bk := [none]) (by decide) (sa1_eq n1) hsh) (by rw [hB]; show (4:Nat) < 7; decide))]
  have hBB : B.set 4 (some (.lst (d.map fun p => .d (pI (lowT p.2 (sW d)) (lowB p.2 (sW d)))))) = B2 := by rw [hB, hB2]; rfl
  rw [hBB, ssDrop_eq (sMeth_eq hg2 rfl (sa1_eq hv) hg3 (app_fM hfl)), hB3]
  rfl
theorem weighed_int {O : List D} {ps : List Ent} {ds : List (List (Int × Int))} (hds : ∀ d ∈ ds, GDr d) (hl : ds.length ≤ 24) (hO : O.length ≤ 3 ∧ ∀ x ∈ O, Out x) (hlf : ∀ x, Ent.leaf x ∈ ps → x ∈ O) (gp : GP ds ps) (hpl : ps.length ≤ 500) :
    ∃ fs, GF O ds ps fs ∧ fs.length = ps.length ∧ F_weighed [.d (.lst (ps.map entD)), .d (dsD ds)] = .ok (fM fs, [some (.d (.lst (ps.map entD))), some (.d (dsD ds))]) := by
  obtain ⟨e', h1, fs, z3, z4, ⟨e1, e2, hf⟩, rfl⟩ := flw_all (ws := [0]) (env0 := qE ps ds (some (fM [])) none none) (g := fg_weighed_1) (b := fb_weighed_1) entD
    (fun rest env => ∃ (fs : List Tb) (z3 z4 : Option M), (fs.length + rest.length = ps.length ∧ ps.drop fs.length = rest ∧ GF O ds ps fs) ∧ env = qE ps ds (some (fM fs)) z3 z4)
    (fun xs env ⟨fs, z3, z4, _, h⟩ => by subst h; intro i hi; simp at hi; subst hi; rfl)
    (fun e rest env hI => by
      obtain ⟨fs, z3, z4, ⟨e1, e2, hf⟩, rfl⟩ := hI
      simp only [List.length_cons] at e1
      have he : ps[fs.length]? = some e := by
        have : (ps.drop fs.length)[0]? = some e := by rw [e2]; rfl
        rw [List.getElem?_drop] at this
        exact this
      have e2' : ps.drop (fs.length + 1) = rest := by
        rw [← List.drop_drop, e2]; rfl
      refine ⟨qE ps ds (some (fM fs)) (some (.d (entD e))) z4, ?_⟩
      cases e with
      | leaf x =>
        refine ⟨_, .nx, by simp [fg_weighed_1, sgN, qE], weigh_leaf (by omega), .inl rfl, _, _, _, ⟨by simp; omega, by simpa using e2', ?_⟩, rfl⟩
        refine hf.app gp he ⟨?_, by simp [Ris], fun p hp => ?_⟩ (fun s cs d h => by cases h) (fun y h => by cases h; rfl)
        · show (1 : Int) = CS ds (site ds.length (.leaf x))
          exact (CS_end (ds := ds)).symm
        · simp at hp; subst hp
          exact ⟨hlf x (List.mem_of_getElem? he), (show (0:Int) < 1 by decide), Bd.one _⟩
      | ask s cs =>
        have g := gp _ _ he
        have hd : ds[s]? = some (ds.getD s []) := by rw [List.getD_eq_getElem?_getD, List.getElem?_eq_getElem g.1]; rfl
        obtain ⟨R, hR, hRp, z4', hb⟩ := weigh_ask (z4 := z4) hds hl hO (by omega) hd g hf
        refine ⟨_, .nx, by simp [fg_weighed_1, sgN, qE], hb, .inl rfl, _, _, _, ⟨by simp; omega, by simpa using e2', ?_⟩, rfl⟩
        exact hf.app gp he ⟨rfl, hR.ris, hRp⟩ (fun s' cs' d h h' => by cases h; rw [hd] at h'; cases h'; exact hR) (fun y h => by cases h))
    ps (qE ps ds (some (fM [])) none none) ⟨[], none, none, ⟨by simp, rfl, ⟨fun i q e h => by simp at h, fun i q s cs d h => by simp at h, fun i q x h => by simp at h⟩⟩, rfl⟩
  refine ⟨fs, hf, by simpa using e1, ?_⟩
  unfold F_weighed
  refine runF_ret (e := qE ps ds none z3 z4) ?_
  unfold b_weighed
  show ssSeq _ _ (qE ps ds none none none) = _
  rw [ssSeq_nx (e := qE ps ds (some (fM [])) none none) (by simp [qE, fM, runF, ssSeq, ssSet, ssIf, ssRet, ssDrop, ssNil, ssRaise, ssPar, setAll, ssAsg, sgN, sgNil, sgCons, sgTup, sbE, sbNot, sbAnd, sbOr, sNotV, sAndV, sOrV, sIf, sV, v2, vN, vC, getE, sN, sT, s2, s2v, s2n, sCall, saCons, saNil, putBack, killAll, sTup, mTup, isD, unD, sLst, vIx, mIdx, M.seq, atI, ixN, vB, vaCons, vaNil, bAbs, b1I, b2I, bLen, vIsi, tyM, tyD, isiB, fz, oAdd_int, oSub_int, oMul_int, oFdiv_int, oMod_int, oPow_int, oLt_int, oLe_int, oGt_int, oGe_int, oEq_int, oNe_int, sizeLine_eq, vNeg, ssSetI, sMeth, isLst, mAppend])]
  have hi : iwN 0 (qE ps ds (some (fM [])) none none) = .ok (ps.map entD) := rfl
  rw [ssSeq_nx ((ssForW_eq hi).trans h1)]
  rfl
/-! ### one outcome's share -/
theorem lshare_loop {A : M} {o : D} {C : Int} (ho : Out o) : ∀ (Q : List (D × Int)) (z : Option M), (∀ p ∈ Q, Out p.1) → Ris (Q.map (·.1)) →
    (∃ z', flw [0] [some A, some (.d o), none] fg__law_share_1 fb__law_share_1 (Q.map (frD C)) [some A, some (.d o), z] = .ok (.nx, [some A, some (.d o), z']) ∧ wt Q o = 0) ∨
    ∃ z', flw [0] [some A, some (.d o), none] fg__law_share_1 fb__law_share_1 (Q.map (frD C)) [some A, some (.d o), z] = .ok (.ret (.d (frP C (wt Q o))), [some A, some (.d o), z'])
  | [], z, _, _ => .inl ⟨z, by
      have hw : wOk [0] [some A, some (.d o), none] [some A, some (.d o), z] := fun i hi => by simp at hi; subst hi; rfl
      rw [List.map_nil]; unfold flw; rw [if_pos hw], rfl⟩
  | p :: Q, z, hO, hr => by
    obtain ⟨r1, r2⟩ := List.pairwise_cons.mp hr
    have hp := hO p (by simp)
    have hw : wOk [0] [some A, some (.d o), none] [some A, some (.d o), z] := fun i hi => by simp at hi; subst hi; rfl
    have hg : fg__law_share_1 (.d (frD C p)) [some A, some (.d o), z] = .ok [some A, some (.d o), some (.d (frD C p))] := by simp [fg__law_share_1, sgN]
    have i0 : mIdx (.d (frD C p)) (.d (.int 0)) = .ok (.d p.1) := rfl
    have i1 : mIdx (.d (frD C p)) (.d (.int 1)) = .ok (.d (frP C p.2)) := rfl
    by_cases e : p.1 = o
    · refine .inr ⟨some (.d (frD C p)), ?_⟩
      have hnot : o ∉ Q.map (·.1) := fun z => by
        have := r1 o z
        have e' : (fun x : D × Int => x.1) p = o := e
        rw [e', lt_irr] at this
        cases this
      have hwt : wt (p :: Q) o = p.2 := by rw [wt, if_pos e, wt_not hnot]; omega
      have hb : fb__law_share_1 [some A, some (.d o), some (.d (frD C p))] = .ok (.ret (.d (frP C p.2)), [some A, some (.d o), some (.d (frD C p))]) := by
        have : eqD p.1 o = true := by rw [out_eq hp ho]; exact decide_eq_true e
        simp [fb__law_share_1, ssIf, sbE, sV, v2, vIx, vN, vC, getE, i0, i1, oEq_out hp ho, this, ssRet]
      rw [List.map_cons]
      unfold flw
      rw [if_pos hw, hg]
      simp only [hb, hwt]
    · have hwt : wt (p :: Q) o = wt Q o := by rw [wt, if_neg e]; omega
      have hb : fb__law_share_1 [some A, some (.d o), some (.d (frD C p))] = .ok (.nx, [some A, some (.d o), some (.d (frD C p))]) := by
        have : eqD p.1 o = false := by rw [out_eq hp ho]; exact decide_eq_false e
        simp [fb__law_share_1, ssIf, sbE, sV, v2, vIx, vN, vC, getE, i0, oEq_out hp ho, this, ssNil]
      have e1 : flw [0] [some A, some (.d o), none] fg__law_share_1 fb__law_share_1 ((p :: Q).map (frD C)) [some A, some (.d o), z] = flw [0] [some A, some (.d o), none] fg__law_share_1 fb__law_share_1 (Q.map (frD C)) [some A, some (.d o), some (.d (frD C p))] := by
        rw [List.map_cons]
        conv => lhs; unfold flw
        rw [if_pos hw, hg]
        simp only [hb]
      rw [e1, hwt]
      exact lshare_loop ho Q _ (fun q hq => hO q (by simp [hq])) r2
theorem lshare_ok {Q : List (D × Int)} {o : D} {C : Int} (ho : Out o) (hO : ∀ p ∈ Q, Out p.1) (hr : Ris (Q.map (·.1))) (hC : 0 < C) : ∃ e, F__law_share [.d (.lst (Q.map (frD C))), .d o] = .ok (.d (frP C (wt Q o)), e) := by
  obtain ⟨A, hA⟩ : ∃ A : M, A = .d (.lst (Q.map (frD C))) := ⟨_, rfl⟩
  have hi : iwN 0 [some A, some (.d o), none] = .ok (Q.map (frD C)) := by rw [hA]; rfl
  rw [← hA]
  unfold F__law_share
  rcases lshare_loop (A := A) (C := C) ho Q none hO hr with ⟨z', h, h0⟩ | ⟨z', h⟩
  · refine ⟨_, runF_ret (m := .d (frP C (wt Q o))) (e := [some A, some (.d o), z']) ?_⟩
    unfold b__law_share
    show ssSeq _ _ [some A, some (.d o), none] = _
    rw [ssSeq_nx ((ssForW_eq hi).trans h)]
    have l0 := low_zero hC
    rw [h0]
    simp [ssRet, sTup, saCons, saNil, sV, vC, mTup, isD, unD, sizeLine_eq, frP, l0.1, l0.2]
  · refine ⟨_, runF_ret (m := .d (frP C (wt Q o))) (e := [some A, some (.d o), z']) ?_⟩
    unfold b__law_share
    show ssSeq _ _ [some A, some (.d o), none] = _
    exact ssSeq_ret ((ssForW_eq hi).trans h)
/-! ### the outcomes below -/
abbrev gE (A B : M) (d : List (Int × Int)) (m : M) (z4 z5 z6 z7 z8 z9 z10 z11 z12 : Option M) : FL.Env := [some A, some B, some (.d (drwD d)), some m, z4, z5, z6, z7, z8, z9, z10, z11, z12]
def kM (ks : List D) : M := .dic ks (ks.map fun _ => M.d (.bl true))
theorem put_key {ks : List D} {o : D} (h : ks.Nodup) : ∃ ks', ks'.Nodup ∧ (∀ x, x ∈ ks' ↔ x ∈ ks ∨ x = o) ∧ ks'.length ≤ ks.length + 1 ∧ putD ks (ks.map fun _ => M.d (.bl true)) o (.d (.bl true)) = kM ks' := by
  by_cases q : o ∈ ks
  · refine ⟨ks, h, fun x => ⟨.inl, fun z => z.elim id fun z => z ▸ q⟩, by omega, ?_⟩
    rw [putD_in h q]
    simp [kM]
  · refine ⟨ks ++ [o], ?_, fun x => by simp, by simp, ?_⟩
    · rw [List.nodup_append]
      exact ⟨h, by simp, fun a ha b hb => by simp at hb; subst hb; exact fun e => q (e ▸ ha)⟩
    · rw [putD_new q]
      simp [kM]
theorem below_one {A B : M} {d : List (Int × Int)} {ks : List D} {q : Tb} {z5 z6 z7 z8 z9 z10 z11 z12 : Option M} (hk : ks.Nodup) (hO : ∀ p ∈ q.2, Out p.1) (hl : ks.length + q.2.length < 1000) :
    ∃ ks' z8', (ks'.Nodup ∧ (∀ x, x ∈ ks' ↔ x ∈ ks ∨ x ∈ q.2.map (·.1)) ∧ ks'.length ≤ ks.length + q.2.length) ∧ fb__law_step_good_1 (gE A B d (kM ks) (some (.d (tD q))) z5 z6 z7 z8 z9 z10 z11 z12) = .ok (.nx, gE A B d (kM ks') (some (.d (tD q))) z5 z6 z7 z8' z9 z10 z11 z12) := by
  obtain ⟨e', h1, ks', dn, z8', ⟨hd, hn, hm, hln⟩, rfl⟩ := flw_all (ws := [4]) (env0 := gE A B d (kM ks) (some (.d (tD q))) z5 z6 z7 z8 z9 z10 z11 z12) (g := fg__law_step_good_2) (b := fb__law_step_good_2) (frD q.1)
    (fun rest env => ∃ ks' dn z8, (dn ++ rest = q.2 ∧ ks'.Nodup ∧ (∀ x, x ∈ ks' ↔ x ∈ ks ∨ x ∈ dn.map (·.1)) ∧ ks'.length ≤ ks.length + dn.length) ∧ env = gE A B d (kM ks') (some (.d (tD q))) z5 z6 z7 z8 z9 z10 z11 z12)
    (fun xs env ⟨ks', dn, z8, _, h⟩ => by subst h; intro i hi; simp at hi; subst hi; rfl)
    (fun p rest env ⟨ks', dn, z8, ⟨hd, hn, hm, hln⟩, h⟩ => by
      subst h
      have hp : p ∈ q.2 := by rw [← hd]; simp
      have hdl := congrArg List.length hd
      simp only [List.length_append, List.length_cons] at hdl
      obtain ⟨ks2, k1, k2, k3, k4⟩ := put_key (o := p.1) hn
      refine ⟨gE A B d (kM ks') (some (.d (tD q))) z5 z6 z7 (some (.d (frD q.1 p))) z9 z10 z11 z12, gE A B d (kM ks2) (some (.d (tD q))) z5 z6 z7 (some (.d (frD q.1 p))) z9 z10 z11 z12, .nx, by simp [fg__law_step_good_2, sgN, gE], ?_, .inl rfl, ks2, dn ++ [p], _, ⟨by rw [← hd]; simp, k1, fun x => ?_, by simp; omega⟩, rfl⟩
      · have i0 : mIdx (.d (frD q.1 p)) (.d (.int 0)) = .ok (.d p.1) := rfl
        unfold fb__law_step_good_2 ssSetD
        have hv : sV (vC (.bl true)) (gE A B d (kM ks') (some (.d (tD q))) z5 z6 z7 (some (.d (frD q.1 p))) z9 z10 z11 z12) = .ok (.d (.bl true), gE A B d (kM ks') (some (.d (tD q))) z5 z6 z7 (some (.d (frD q.1 p))) z9 z10 z11 z12) := rfl
        rw [hv]
        simp only [getE, gE, List.getElem?_cons_succ, List.getElem?_cons_zero, kM, vIx, vN, vC, i0]
        rw [if_pos ⟨(hO p hp).key, by rw [sizeLine_eq]; omega⟩, k4]
        rfl
      · rw [k2, hm, List.map_append, List.mem_append]
        simp [or_assoc])
    q.2 (gE A B d (kM ks) (some (.d (tD q))) z5 z6 z7 z8 z9 z10 z11 z12) ⟨ks, [], z8, ⟨rfl, hk, fun x => by simp, by simp⟩, rfl⟩
  rw [List.append_nil] at hd
  subst hd
  refine ⟨ks', z8', ⟨hn, hm, hln⟩, ?_⟩
  unfold fb__law_step_good_1
  have hi : iwN 4 (gE A B d (kM ks) (some (.d (tD q))) z5 z6 z7 z8 z9 z10 z11 z12) = .ok (q.2.map (frD q.1)) := rfl
  rw [ssForW_eq hi]
  exact h1
/-- sorted, each once: rising -/
theorem srt_ris {ks : List D} (hn : ks.Nodup) (hO : ∀ x ∈ ks, Out x) : Ris (srtK rankK ks) := by
  have h1 := srt_pw ks
  have h2 : (srtK rankK ks).Nodup := (List.mergeSort_perm _ _).nodup_iff.mpr hn
  refine (h1.and h2).imp_of_mem fun {a b} ha hb ⟨q, ne⟩ => ?_
  have ha' := (srt_mem a).mp ha
  have hb' := (srt_mem b).mp hb
  cases q' : lt a b with
  | true => rfl
  | false => exact absurd (lt_tot (hO a ha') (hO b hb') q' q) ne
def bM (I : List Itm) : M := .lst (I.map fun x => .d (tD (x.C, x.R)))
abbrev hS (A : M) (I : List Itm) (d : List (Int × Int)) (m : M) (z4 : Option M) (L : List D) (z6 : Option M) (k : Nat) (z8 : Option M) (t b : Int) (z11 z12 : Option M) : FL.Env :=
  gE A (bM I) d m z4 (some (.lst (L.map .d))) z6 (some (.d (.int (k : Int)))) z8 (some (.d (.int t))) (some (.d (.int b))) z11 z12
theorem Bd.add {k : Nat} {x y : Int} (h : Bd k x) (h' : Bd k y) : Bd (k + 1) (x + y) := by
  have e : (2:Nat) ^ (22 * (k + 1)) = 4194304 * 2 ^ (22 * k) := by rw [Nat.mul_add, Nat.pow_add, Nat.mul_comm]
  have h1 := h.1
  have h2 := h'.1
  have h3 := h.2
  have h4 := h'.2
  refine ⟨by omega, ?_⟩
  rw [e]
  obtain ⟨q, hq⟩ : ∃ q, q = (2:Nat) ^ (22 * k) := ⟨_, rfl⟩
  rw [← hq] at h3 h4 ⊢
  omega
theorem turn_in {A m : M} {I : List Itm} {d : List (Int × Int)} {L : List D} {z4 z6 z8 z12 : Option M} {k j n : Nat} {t b S C0 : Int} {x : Itm} {p : Int × Int} {o : D} (hgd : GDr d) (hj : I[j]? = some x) (hp : d[j]? = some p) (hk : L[k]? = some o) (ho : Out o)
    (ok : ItOk S C0 x) (hr : Ris (x.R.map (·.1))) (ht : Bd n t) (hb : Bd n b) (hb0 : 0 < b) (hn : n ≤ 120) :
    ∃ a c, (a = lowT (wt x.R o) x.C ∧ c = lowB (wt x.R o) x.C) ∧ (Bd 24 a ∧ Bd 24 c ∧ 0 < c) ∧
      ∃ z12', fb__law_step_good_4 (hS A I d m z4 L z6 k z8 t b (some (.d (.int (j : Int)))) z12) = .ok (.nx, hS A I d m z4 L z6 k z8 (t * c + p.2 * a * b) (b * c) (some (.d (.int (j : Int)))) z12') := by
  have hwb : Bd 24 (wt x.R o) := wt_bdR hr (fun q hq => (ok.r.1 q hq).2) o
  have ba := hwb.lowT (b := x.C) ok.c.1
  have bc := ok.c.2.lowB (t := wt x.R o) ok.c.1
  refine ⟨_, _, ⟨rfl, rfl⟩, ⟨ba, bc, lowB_pos ok.c.1⟩, some (.d (frP x.C (wt x.R o))), ?_⟩
  obtain ⟨e, hsh⟩ := lshare_ok (C := x.C) ho (fun q hq => (ok.r.1 q hq).1) hr ok.c.1
  obtain ⟨a, ha⟩ : ∃ a, a = lowT (wt x.R o) x.C := ⟨_, rfl⟩
  obtain ⟨c, hc⟩ : ∃ c, c = lowB (wt x.R o) x.C := ⟨_, rfl⟩
  rw [← ha] at ba ⊢
  rw [← hc] at bc ⊢
  have hfr : frP x.C (wt x.R o) = pI a c := by rw [ha, hc]; rfl
  rw [hfr] at hsh ⊢
  have bp := hgd.bw (List.mem_of_getElem? hp)
  have c1 : CMulD t c := ht.cmul bc
  have c2 : CMulD p.2 a := bp.cmul ba
  have c3 : CMulD (p.2 * a) b := (bp.mul ba).cmul hb
  have c4 : CMulD b c := hb.cmul bc
  have i1 : mIdx (bM I) (.d (.int (j : Int))) = .ok (.d (tD (x.C, x.R))) := mIdx_m (by simp [hj])
  have i2 : mIdx (.lst (L.map .d)) (.d (.int (k : Int))) = .ok (.d o) := mIdx_own hk
  have i3 : mIdx (.d (drwD d)) (.d (.int (j : Int))) = .ok (.d (pI p.1 p.2)) := mIdx_n (by simp [hp])
  have i4 : mIdx (.d (pI p.1 p.2)) (.d (.int 1)) = .ok (.d (.int p.2)) := rfl
  have i5 : mIdx (.d (pI a c)) (.d (.int 0)) = .ok (.d (.int a)) := rfl
  have i6 : mIdx (.d (pI a c)) (.d (.int 1)) = .ok (.d (.int c)) := rfl
  obtain ⟨B, hB⟩ : ∃ B, B = bM I := ⟨_, rfl⟩
  obtain ⟨Lm, hLm⟩ : ∃ Lm : M, Lm = .lst (L.map .d) := ⟨_, rfl⟩
  rw [← hB] at i1
  rw [← hLm] at i2
  simp only [hS]
  rw [← hB, ← hLm]
  obtain ⟨E1, hE1⟩ : ∃ E1, E1 = gE A B d m z4 (some Lm) z6 (some (.d (.int (k : Int)))) z8 (some (.d (.int t))) (some (.d (.int b))) (some (.d (.int (j : Int)))) z12 := ⟨_, rfl⟩
  obtain ⟨E2, hE2⟩ : ∃ E2, E2 = gE A B d m z4 (some Lm) z6 (some (.d (.int (k : Int)))) z8 (some (.d (.int t))) (some (.d (.int b))) (some (.d (.int (j : Int)))) (some (.d (pI a c))) := ⟨_, rfl⟩
  obtain ⟨E3, hE3⟩ : ∃ E3, E3 = gE A B d m z4 (some Lm) z6 (some (.d (.int (k : Int)))) z8 (some (.d (.int (t * c + p.2 * a * b)))) (some (.d (.int b))) (some (.d (.int (j : Int)))) (some (.d (pI a c))) := ⟨_, rfl⟩
  have n1 : sV (vIx (vN 1) (vN 11)) E1 = .ok (.d (tD (x.C, x.R)), E1) := by
    rw [hE1]; simp only [sV, vIx, vN, getE, gE, List.getElem?_cons_succ, List.getElem?_cons_zero, i1]
  have n2 : sV (vIx (vN 5) (vN 7)) E1 = .ok (.d o, E1) := by
    rw [hE1]; simp only [sV, vIx, vN, getE, gE, List.getElem?_cons_succ, List.getElem?_cons_zero, i2]
  have n3 : sV (v2 oAdd (v2 oMul (vN 9) (vIx (vN 12) (vC (.int 1)))) (v2 oMul (v2 oMul (vIx (vIx (vN 2) (vN 11)) (vC (.int 1))) (vIx (vN 12) (vC (.int 0)))) (vN 10))) E2 = .ok (.d (.int (t * c + p.2 * a * b)), E2) := by
    rw [hE2]; simp only [sV, v2, vIx, vN, vC, getE, gE, List.getElem?_cons_succ, List.getElem?_cons_zero, i3, i4, i5, i6, oMul_int c1, oMul_int c2, oMul_int c3, oAdd_int]
  have n4 : sV (v2 oMul (vN 10) (vIx (vN 12) (vC (.int 1)))) E3 = .ok (.d (.int (b * c)), E3) := by
    rw [hE3]; simp only [sV, v2, vIx, vN, vC, getE, gE, List.getElem?_cons_succ, List.getElem?_cons_zero, i6, oMul_int c4]
  unfold fb__law_step_good_4
  rw [← hE1]
  rw [ssSeq_nx (ssSet_eq (i := 12) (sCall_n (bk := [none, none]) (by decide) (sa2_eq n1 n2) hsh) (by rw [hE1]; show (12:Nat) < 13; decide))]
  have s1 : E1.set 12 (some (.d (pI a c))) = E2 := by rw [hE1, hE2]; rfl
  rw [s1, ssSeq_nx (ssSet_eq (i := 9) n3 (by rw [hE2]; show (9:Nat) < 13; decide))]
  have s2 : E2.set 9 (some (.d (.int (t * c + p.2 * a * b)))) = E3 := by rw [hE2, hE3]; rfl
  rw [s2, ssSet_eq (i := 10) n4 (by rw [hE3]; show (10:Nat) < 13; decide), hE3]
  rfl
theorem alg_step {t b C0 S W a c w v C P : Int} (h1 : t * C0 = b * (S * W)) (h2 : a * C = v * c) (h3 : S * C * P = C0) : (t * c + w * a * b) * C0 = b * c * (S * (W + w * (v * P))) := by
  have e1 : t * c * C0 = b * c * (S * W) := by
    rw [Int.mul_assoc, Int.mul_comm c C0, ← Int.mul_assoc, h1, Int.mul_assoc, Int.mul_comm _ c, ← Int.mul_assoc]
  have e2 : w * a * b * C0 = b * c * (S * (w * (v * P))) := by
    rw [← h3]
    have e3 : w * a * b * (S * C * P) = (w * b * S * P) * (a * C) := by ac_rfl
    rw [e3, h2]
    ac_rfl
  rw [Int.add_mul, e1, e2, Int.mul_add, Int.mul_add]
noncomputable def gj (I : List Itm) (o : D) (j : Nat) : Int := match I[j]? with | some x => x.w * (wt x.R o * x.P) | none => 0
theorem gj_sum (I : List Itm) (o : D) : ((List.range I.length).map (gj I o)).sum = wt (allP I) o := by
  rw [wt_allP]
  congr 1
  refine List.ext_getElem (by simp) fun j h1 h2 => ?_
  simp only [List.length_map, List.length_range] at h1
  simp [gj, h1]
theorem turns_ok {A m : M} {I : List Itm} {d : List (Int × Int)} {L : List D} {z4 z6 z8 z11 z12 : Option M} {k : Nat} {S C0 : Int} {o : D} (hgd : GDr d) (hI : I.map (·.w) = d.map Prod.snd) (hk : L[k]? = some o) (ho : Out o) (ok : ∀ x ∈ I, ItOk S C0 x) (hr : ∀ x ∈ I, Ris (x.R.map (·.1))) :
    ∃ t b z11' z12', (t * C0 = b * (S * wt (allP I) o) ∧ 0 < b ∧ Bd 120 t ∧ Bd 120 b) ∧
      ssFor (siR1 (saCons (sV (vB bLen (vaCons (vN 2) (vaNil)))) (saNil))) fg__law_step_good_4 fb__law_step_good_4 (hS A I d m z4 L z6 k z8 0 1 z11 z12) = .ok (.nx, hS A I d m z4 L z6 k z8 t b z11' z12') := by
  have hIl : I.length = d.length := by have := congrArg List.length hI; simpa using this
  have hdl := hgd.len
  obtain ⟨e', h1, t, b, z11', z12', W, n, ⟨e1, e2, e3, e4, e5, e6, _⟩, rfl⟩ := fl_all (g := fg__law_step_good_4) (b := fb__law_step_good_4) (fun (j : Nat) => D.int (0 + (j : Int)))
    (fun rest env => ∃ (t b : Int) (z11 z12 : Option M) (W : Int) (n : Nat), (t * C0 = b * (S * W) ∧ 0 < b ∧ Bd n t ∧ Bd n b ∧ n + 30 * rest.length ≤ 100 ∧ W + (rest.map (gj I o)).sum = wt (allP I) o ∧ ∀ j ∈ rest, j < d.length) ∧ env = hS A I d m z4 L z6 k z8 t b z11 z12)
    (fun j rest env hh => by
      obtain ⟨t, b, z11, z12, W, n, ⟨e1, e2, e3, e4, e5, e6, e7⟩, rfl⟩ := hh
      simp only [List.length_cons] at e5
      have hj := e7 j (by simp)
      have hx : I[j]? = some (I[j]'(by omega)) := List.getElem?_eq_getElem (by omega)
      have hp : d[j]? = some d[j] := List.getElem?_eq_getElem hj
      have hxm := List.mem_of_getElem? hx
      obtain ⟨a, c, ⟨ha, hc⟩, ⟨b1, b2, b3⟩, z12', hb⟩ := turn_in (A := A) (m := m) (z4 := z4) (z6 := z6) (z8 := z8) (z12 := z12) hgd hx hp hk ho (ok _ hxm) (hr _ hxm) e3 e4 e2 (by omega)
      have hwp : (I[j]'(by omega)).w = (d[j]).2 := by
        have h0 := congrArg (fun l => l[j]?) hI
        simp only [List.getElem?_map, hx, hp, Option.map_some] at h0
        exact Option.some.inj h0
      have hz : (0 : Int) + (j : Int) = (j : Int) := Int.zero_add _
      have okx := ok _ hxm
      have lc : a * (I[j]'(by omega)).C = wt (I[j]'(by omega)).R o * c := by rw [ha, hc]; exact low_cross
      refine ⟨hS A I d m z4 L z6 k z8 t b (some (.d (.int (j : Int)))) z12, _, .nx, by rw [hz]; rfl, hb, .inl rfl, _, _, _, _, W + (d[j]).2 * (wt (I[j]'(by omega)).R o * (I[j]'(by omega)).P), n + 30, ⟨alg_step e1 lc okx.e, Int.mul_pos e2 b3, ?_, (e4.mul b2).mono (by omega), by omega, ?_, fun x hx => e7 x (by simp [hx])⟩, rfl⟩
      · have bw := hgd.bw (List.mem_of_getElem? hp)
        exact (((e3.mul b2).mono (show n + 24 ≤ n + 29 by omega)).add (((bw.mul b1).mul e4).mono (show 1 + 24 + n ≤ n + 29 by omega)))
      · rw [← e6, List.map_cons, List.sum_cons]
        have : gj I o j = (d[j]).2 * (wt (I[j]'(by omega)).R o * (I[j]'(by omega)).P) := by unfold gj; rw [hx]; simp only; rw [hwp]
        rw [this]
        omega)
    (List.range d.length) (hS A I d m z4 L z6 k z8 0 1 z11 z12) ⟨0, 1, z11, z12, 0, 0, ⟨by simp, by decide, Bd.zero _, Bd.one _, by rw [List.length_range]; omega, by rw [← hIl, gj_sum]; omega, fun j hj => List.mem_range.mp hj⟩, rfl⟩
  simp only [List.map_nil, List.sum_nil, Int.add_zero] at e6
  subst e6
  refine ⟨t, b, z11', z12', ⟨e1, e2, e3.mono (by omega), e4.mono (by omega)⟩, ?_⟩
  have hr1 : siR1 (saCons (sV (vB bLen (vaCons (vN 2) (vaNil)))) (saNil)) (hS A I d m z4 L z6 k z8 0 1 z11 z12) = .ok ((List.range d.length).map fun (j : Nat) => D.int (0 + (j : Int)), hS A I d m z4 L z6 k z8 0 1 z11 z12) := by
    have hrr : C62 (d.length : Int) := ⟨by omega, by omega⟩
    have hb : bLen [.d (drwD d)] = .ok (.int d.length) := by simp [bLen, drwD, M.seq]
    simp only [siR1, saCons, saNil, sV, vB, vaCons, vaNil, vN, getE, hS, gE, List.getElem?_cons_succ, List.getElem?_cons_zero, hb, if_pos hrr, Int.toNat_natCast]
  exact (ssFor_eq hr1).trans h1
/-! ### alike -/
def Sm : Nat → D → Prop
  | 0, _ => False
  | n + 1, .tup xs => xs.length ≤ 1000 ∧ ∀ y ∈ xs, Sm n y
  | n + 1, .lst xs => xs.length ≤ 1000 ∧ ∀ y ∈ xs, Sm n y
  | _ + 1, .int _ => True
  | _ + 1, .non => True
  | _ + 1, .str x => ∃ l, x = sl l
  | _ + 1, _ => False
theorem Sm.out {x : D} (h : Out x) (n : Nat) (hl : ∀ xs, x = .tup xs → xs.length ≤ 1000) : Sm (n + 3) x := by
  cases h with
  | non => trivial
  | int i => trivial
  | rcd rs =>
    refine ⟨hl _ rfl, fun y hy => ?_⟩
    obtain ⟨r, _, rfl⟩ := List.mem_map.mp hy
    refine ⟨by simp, fun z hz => ?_⟩
    simp only [List.mem_cons, List.not_mem_nil, or_false] at hz
    rcases hz with rfl | rfl
    · exact ⟨_, rfl⟩
    · trivial
theorem seq_same (n : Nat) {x : D} {xs : List D} (hx : x = .tup xs ∨ x = .lst xs) (hl : xs.length ≤ 1000) (ih : ∀ y ∈ xs, F__law_same n [.d y, .d y] = .ok (.d (.bl true), [some (.d y), some (.d y)])) :
    F__law_same (n + 1) [.d x, .d x] = .ok (.d (.bl true), [some (.d x), some (.d x)]) := by
  have hb : bLen [.d x] = .ok (.int xs.length) := by rcases hx with rfl | rfl <;> simp [bLen, M.seq]
  have hix : ∀ (j : Nat) (y : D), xs[j]? = some y → mIdx (.d x) (.d (.int (j : Int))) = .ok (.d y) := fun j y hj => by
    rcases hx with rfl | rfl
    · have hlt := (List.getElem?_eq_some_iff.mp hj).1
      have e : atI (xs.map M.d) (j : Int) = some (.d y) := by rw [atI_nat (by simpa using hlt)]; simp [hj]
      simp only [mIdx, M.seq, e]
    · exact mIdx_n hj
  obtain ⟨e', h1, z2, _, rfl⟩ := fl_all (g := fg__law_same_1 (F__law_same n)) (b := fb__law_same_1 (F__law_same n)) (fun (j : Nat) => D.int (0 + (j : Int)))
    (fun rest env => ∃ z2, (∀ j ∈ rest, j < xs.length) ∧ env = [some (.d x), some (.d x), z2])
    (fun j rest env hI => by
      obtain ⟨z2, hj, rfl⟩ := hI
      have hj0 := hj j (by simp)
      have hy : xs[j]? = some xs[j] := List.getElem?_eq_getElem hj0
      have hi := hix j _ hy
      have hs := ih _ (List.mem_of_getElem? hy)
      have hz : (0 : Int) + (j : Int) = (j : Int) := Int.zero_add _
      refine ⟨[some (.d x), some (.d x), some (.d (.int (j : Int)))], [some (.d x), some (.d x), some (.d (.int (j : Int)))], .nx, by rw [hz]; rfl, ?_, .inl rfl, _, fun i hi => hj i (by simp [hi]), rfl⟩
      unfold fb__law_same_1
      obtain ⟨E, hE⟩ : ∃ E : FL.Env, E = [some (.d x), some (.d x), some (.d (.int (j : Int)))] := ⟨_, rfl⟩
      have n0 : sV (vIx (vN 0) (vN 2)) E = .ok (.d xs[j], E) := by rw [hE]; simp only [sV, vIx, vN, getE, List.getElem?_cons_succ, List.getElem?_cons_zero, hi]
      have n1 : sV (vIx (vN 1) (vN 2)) E = .ok (.d xs[j], E) := by rw [hE]; simp only [sV, vIx, vN, getE, List.getElem?_cons_succ, List.getElem?_cons_zero, hi]
      rw [← hE, ssIf_f (sbNot_eq (b := true) (sbE_eq (sCall_n (bk := [none, none]) (by decide) (sa2_eq n0 n1) hs)))]
      rfl)
    (List.range xs.length) [some (.d x), some (.d x), none] ⟨none, fun j hj => List.mem_range.mp hj, rfl⟩
  have hr : siR1 (saCons (sV (vB bLen (vaCons (vN 1) (vaNil)))) (saNil)) [some (.d x), some (.d x), none] = .ok ((List.range xs.length).map fun (j : Nat) => D.int (0 + (j : Int)), [some (.d x), some (.d x), none]) := by
    have q : C62 (xs.length : Int) := ⟨by omega, by omega⟩
    simp only [siR1, saCons, saNil, sV, vB, vaCons, vaNil, vN, getE, List.getElem?_cons_succ, List.getElem?_cons_zero, hb, if_pos q, Int.toNat_natCast]
  show runF 3 2 [] (b__law_same (F__law_same n)) [.d x, .d x] = _
  rw [runF_ret (m := .d (.bl true)) (e := [some (.d x), some (.d x), z2]) ?_]
  · rfl
  unfold b__law_same
  show ssSeq _ _ [some (.d x), some (.d x), none] = _
  refine ssSeq_ret ?_
  have hc : sbOr (sbE (sV (vIsi "tuple" (vN 1)))) (sbE (sV (vIsi "list" (vN 1)))) [some (.d x), some (.d x), none] = .ok (true, [some (.d x), some (.d x), none]) := by
    rcases hx with rfl | rfl <;> simp [sbOr, runF, ssSeq, ssSet, ssIf, ssRet, ssDrop, ssNil, ssRaise, ssPar, setAll, ssAsg, sgN, sgNil, sgCons, sgTup, sbE, sbNot, sbAnd, sbOr, sNotV, sAndV, sOrV, sIf, sV, v2, vN, vC, getE, sN, sT, s2, s2v, s2n, sCall, saCons, saNil, putBack, killAll, sTup, mTup, isD, unD, sLst, vIx, mIdx, M.seq, atI, ixN, vB, vaCons, vaNil, bAbs, b1I, b2I, bLen, vIsi, tyM, tyD, isiB, fz, oAdd_int, oSub_int, oMul_int, oFdiv_int, oMod_int, oPow_int, oLt_int, oLe_int, oGt_int, oGe_int, oEq_int, oNe_int, sizeLine_eq, vNeg, ssSetI, sMeth, isLst, mAppend]
  have b0 : ∀ c : Bool, oNe (.d (.bl c)) (.d (.bl c)) = .ok (.bl false) := fun c => by cases c <;> rfl
  rw [ssIf_t hc]
  rw [ssSeq_nx (e := [some (.d x), some (.d x), none]) (by
    rcases hx with rfl | rfl
    · simp [sbOr, b0, runF, ssSeq, ssSet, ssIf, ssRet, ssDrop, ssNil, ssRaise, ssPar, setAll, ssAsg, sgN, sgNil, sgCons, sgTup, sbE, sbNot, sbAnd, sbOr, sNotV, sAndV, sOrV, sIf, sV, v2, vN, vC, getE, sN, sT, s2, s2v, s2n, sCall, saCons, saNil, putBack, killAll, sTup, mTup, isD, unD, sLst, vIx, mIdx, M.seq, atI, ixN, vB, vaCons, vaNil, bAbs, b1I, b2I, bLen, vIsi, tyM, tyD, isiB, fz, oAdd_int, oSub_int, oMul_int, oFdiv_int, oMod_int, oPow_int, oLt_int, oLe_int, oGt_int, oGe_int, oEq_int, oNe_int, sizeLine_eq, vNeg, ssSetI, sMeth, isLst, mAppend]
    · simp [sbOr, b0, runF, ssSeq, ssSet, ssIf, ssRet, ssDrop, ssNil, ssRaise, ssPar, setAll, ssAsg, sgN, sgNil, sgCons, sgTup, sbE, sbNot, sbAnd, sbOr, sNotV, sAndV, sOrV, sIf, sV, v2, vN, vC, getE, sN, sT, s2, s2v, s2n, sCall, saCons, saNil, putBack, killAll, sTup, mTup, isD, unD, sLst, vIx, mIdx, M.seq, atI, ixN, vB, vaCons, vaNil, bAbs, b1I, b2I, bLen, vIsi, tyM, tyD, isiB, fz, oAdd_int, oSub_int, oMul_int, oFdiv_int, oMod_int, oPow_int, oLt_int, oLe_int, oGt_int, oGe_int, oEq_int, oNe_int, sizeLine_eq, vNeg, ssSetI, sMeth, isLst, mAppend])]
  rw [ssSeq_nx (e := [some (.d x), some (.d x), none]) (by
    rw [ssIf_f (e := [some (.d x), some (.d x), none]) (by
      simp only [sbE, sV, v2, vB, vaCons, vaNil, vN, getE, List.getElem?_cons_succ, List.getElem?_cons_zero, hb, oNe_int]
      simp)]
    rfl)]
  rw [ssSeq_nx ((ssFor_eq hr).trans h1)]
  rfl
theorem same_ok : ∀ (n : Nat) (x : D), Sm n x → F__law_same n [.d x, .d x] = .ok (.d (.bl true), [some (.d x), some (.d x)])
  | 0, _, h => h.elim
  | n + 1, .tup xs, h => seq_same n (.inl rfl) h.1 fun y hy => same_ok n y (h.2 y hy)
  | n + 1, .lst xs, h => seq_same n (.inr rfl) h.1 fun y hy => same_ok n y (h.2 y hy)
  | n + 1, .int i, _ => by simp [F__law_same, b__law_same, whole_int, oIs, FL.isNon, sbOr, runF, ssSeq, ssSet, ssIf, ssRet, ssDrop, ssNil, ssRaise, ssPar, setAll, ssAsg, sgN, sgNil, sgCons, sgTup, sbE, sbNot, sbAnd, sbOr, sNotV, sAndV, sOrV, sIf, sV, v2, vN, vC, getE, sN, sT, s2, s2v, s2n, sCall, saCons, saNil, putBack, killAll, sTup, mTup, isD, unD, sLst, vIx, mIdx, M.seq, atI, ixN, vB, vaCons, vaNil, bAbs, b1I, b2I, bLen, vIsi, tyM, tyD, isiB, fz, oAdd_int, oSub_int, oMul_int, oFdiv_int, oMod_int, oPow_int, oLt_int, oLe_int, oGt_int, oGe_int, oEq_int, oNe_int, sizeLine_eq, vNeg, ssSetI, sMeth, isLst, mAppend]
  | n + 1, .non, _ => by simp [F__law_same, b__law_same, oIs, FL.isNon, sbOr, runF, ssSeq, ssSet, ssIf, ssRet, ssDrop, ssNil, ssRaise, ssPar, setAll, ssAsg, sgN, sgNil, sgCons, sgTup, sbE, sbNot, sbAnd, sbOr, sNotV, sAndV, sOrV, sIf, sV, v2, vN, vC, getE, sN, sT, s2, s2v, s2n, sCall, saCons, saNil, putBack, killAll, sTup, mTup, isD, unD, sLst, vIx, mIdx, M.seq, atI, ixN, vB, vaCons, vaNil, bAbs, b1I, b2I, bLen, vIsi, tyM, tyD, isiB, fz, oAdd_int, oSub_int, oMul_int, oFdiv_int, oMod_int, oPow_int, oLt_int, oLe_int, oGt_int, oGe_int, oEq_int, oNe_int, sizeLine_eq, vNeg, ssSetI, sMeth, isLst, mAppend]
  | n + 1, .str x, h => by
    obtain ⟨l, rfl⟩ := h
    have := oEq_str l l
    simp [F__law_same, b__law_same, oIs, FL.isNon, sbOr, this, runF, ssSeq, ssSet, ssIf, ssRet, ssDrop, ssNil, ssRaise, ssPar, setAll, ssAsg, sgN, sgNil, sgCons, sgTup, sbE, sbNot, sbAnd, sbOr, sNotV, sAndV, sOrV, sIf, sV, v2, vN, vC, getE, sN, sT, s2, s2v, s2n, sCall, saCons, saNil, putBack, killAll, sTup, mTup, isD, unD, sLst, vIx, mIdx, M.seq, atI, ixN, vB, vaCons, vaNil, bAbs, b1I, b2I, bLen, vIsi, tyM, tyD, isiB, fz, oAdd_int, oSub_int, oMul_int, oFdiv_int, oMod_int, oPow_int, oLt_int, oLe_int, oGt_int, oGe_int, oEq_int, oNe_int, sizeLine_eq, vNeg, ssSetI, sMeth, isLst, mAppend]
theorem is_share_int {a b : Int} (ha : 0 ≤ a) (hb : 0 < b) (hg : gI a b = 1) : F__law_is_share [.d (pI a b)] = .ok (.d (.bl true), [some (.d (pI a b))]) := by
  have hl := ldivisor_int ha (Int.le_of_lt hb)
  rw [hg] at hl
  simp [F__law_is_share, b__law_is_share, whole_int, hl, ha, hb, runF, ssSeq, ssSet, ssIf, ssRet, ssDrop, ssNil, ssRaise, ssPar, setAll, ssAsg, sgN, sgNil, sgCons, sgTup, sbE, sbNot, sbAnd, sbOr, sNotV, sAndV, sOrV, sIf, sV, v2, vN, vC, getE, sN, sT, s2, s2v, s2n, sCall, saCons, saNil, putBack, killAll, sTup, mTup, isD, unD, sLst, vIx, mIdx, M.seq, atI, ixN, vB, vaCons, vaNil, bAbs, b1I, b2I, bLen, vIsi, tyM, tyD, isiB, fz, oAdd_int, oSub_int, oMul_int, oFdiv_int, oMod_int, oPow_int, oLt_int, oLe_int, oGt_int, oGe_int, oEq_int, oNe_int, sizeLine_eq, vNeg, ssSetI, sMeth, isLst, mAppend]
theorem frP_share {C v : Int} (hC : 0 < C) (hv : 0 ≤ v) : F__law_is_share [.d (frP C v)] = .ok (.d (.bl true), [some (.d (frP C v))]) := by
  refine is_share_int (Int.ediv_nonneg hv (by unfold gI; omega)) (lowB_pos hC) ?_
  have := low_gcd (t := v) (b := C) (by omega)
  unfold gI
  rw [this]
  rfl
theorem alg_end {t b S v C p0 p1 : Int} (h1 : t * C = b * (S * v)) (h2 : p0 * C = v * p1) (hC : 0 < C) : t * p1 = p0 * S * b := by
  refine Int.eq_of_mul_eq_mul_right (show C ≠ 0 by omega) ?_
  have e1 : t * p1 * C = (t * C) * p1 := by ac_rfl
  have e2 : p0 * S * b * C = (p0 * C) * (S * b) := by ac_rfl
  rw [e1, e2, h1, h2]
  ac_rfl
structure GoodI (I : List Itm) (d : List (Int × Int)) (C0 : Int) (R : List (D × Int)) : Prop where
  gd : GDr d
  w : I.map (·.w) = d.map Prod.snd
  ok : ∀ x ∈ I, ItOk (sW d) C0 x
  ris : ∀ x ∈ I, Ris (x.R.map (·.1))
  rw : Rws (allP I) R
  out : ∀ p ∈ R, Out p.1 ∧ Sm 60 p.1 ∧ 0 < p.2 ∧ Bd 24 p.2
  c : 0 < C0 ∧ Bd 24 C0
  len : R.length ≤ 100
theorem row_in {I : List Itm} {d : List (Int × Int)} {C0 : Int} {R : List (D × Int)} {m : M} {z4 z8 z9 z10 z11 z12 : Option M} {k : Nat} {p : D × Int} (h : GoodI I d C0 R) (hk : R[k]? = some p) :
    ∃ z8' z9' z10' z11' z12', fb__law_step_good_3 (gE (.d (tD (C0, R))) (bM I) d m z4 (some (.lst ((R.map (·.1)).map .d))) (some (.d (.int (sW d)))) (some (.d (.int (k : Int)))) z8 z9 z10 z11 z12) =
      .ok (.nx, gE (.d (tD (C0, R))) (bM I) d m z4 (some (.lst ((R.map (·.1)).map .d))) (some (.d (.int (sW d)))) (some (.d (.int (k : Int)))) z8' z9' z10' z11' z12') := by
  have hpm := List.mem_of_getElem? hk
  obtain ⟨ho, hsm, hp0, hpb⟩ := h.out p hpm
  have hkL : (R.map (·.1))[k]? = some p.1 := by rw [List.getElem?_map, hk]; rfl
  obtain ⟨t, b, z11', z12', ⟨e1, e2, e3, e4⟩, hturn⟩ := turns_ok (A := .d (tD (C0, R))) (m := m) (z4 := z4) (z6 := some (.d (.int (sW d)))) (z8 := some (.d (frD C0 p))) (z11 := z11) (z12 := z12) h.gd h.w hkL ho h.ok h.ris
  have hval := h.rw.val p hpm
  rw [← hval] at e1
  obtain ⟨p0, hp0e⟩ : ∃ p0, p0 = lowT p.2 C0 := ⟨_, rfl⟩
  obtain ⟨p1, hp1e⟩ : ∃ p1, p1 = lowB p.2 C0 := ⟨_, rfl⟩
  have hfr : frP C0 p.2 = pI p0 p1 := by rw [hp0e, hp1e]; rfl
  have bp0 : Bd 24 p0 := by rw [hp0e]; exact hpb.lowT h.c.1
  have bp1 : Bd 24 p1 := by rw [hp1e]; exact h.c.2.lowB h.c.1
  have hend : t * p1 = p0 * sW d * b := alg_end e1 (by rw [hp0e, hp1e]; exact low_cross) h.c.1
  have c1 : CMulD t p1 := e3.cmul bp1
  have c2 : CMulD p0 (sW d) := bp0.cmul h.gd.bs
  have c3 : CMulD (p0 * sW d) b := (bp0.mul h.gd.bs).cmul e4
  have i1 : mIdx (.d (tD (C0, R))) (.d (.int (k : Int))) = .ok (.d (frD C0 p)) := mIdx_n (by simp [hk])
  have i2 : mIdx (.lst ((R.map (·.1)).map .d)) (.d (.int (k : Int))) = .ok (.d p.1) := mIdx_own hkL
  have i3 : mIdx (.d (frD C0 p)) (.d (.int 0)) = .ok (.d p.1) := rfl
  have i4 : mIdx (.d (frD C0 p)) (.d (.int 1)) = .ok (.d (pI p0 p1)) := by rw [← hfr]; rfl
  have i5 : mIdx (.d (pI p0 p1)) (.d (.int 0)) = .ok (.d (.int p0)) := rfl
  have i6 : mIdx (.d (pI p0 p1)) (.d (.int 1)) = .ok (.d (.int p1)) := rfl
  have hsame := same_ok 60 p.1 hsm
  have hshare := frP_share h.c.1 (Int.le_of_lt hp0)
  rw [hfr] at hshare
  obtain ⟨A, hA⟩ : ∃ A : M, A = .d (tD (C0, R)) := ⟨_, rfl⟩
  obtain ⟨Lm, hLm⟩ : ∃ Lm : M, Lm = .lst ((R.map (·.1)).map .d) := ⟨_, rfl⟩
  obtain ⟨P, hP⟩ : ∃ P : D, P = frD C0 p := ⟨_, rfl⟩
  simp only [hS] at hturn
  rw [← hA, ← hLm, ← hP] at hturn
  rw [← hA] at i1
  rw [← hLm] at i2
  have hty : vIsi "tuple" (vN 8) = fun env => vIsi "tuple" (vN 8) env := rfl
  rw [← hP] at i1 i3 i4
  refine ⟨some (.d P), some (.d (.int t)), some (.d (.int b)), z11', z12', ?_⟩
  rw [← hA, ← hLm]
  obtain ⟨E0, hE0⟩ : ∃ E0, E0 = gE A (bM I) d m z4 (some Lm) (some (.d (.int (sW d)))) (some (.d (.int (k : Int)))) z8 z9 z10 z11 z12 := ⟨_, rfl⟩
  obtain ⟨E1, hE1⟩ : ∃ E1, E1 = gE A (bM I) d m z4 (some Lm) (some (.d (.int (sW d)))) (some (.d (.int (k : Int)))) (some (.d P)) z9 z10 z11 z12 := ⟨_, rfl⟩
  obtain ⟨E2, hE2⟩ : ∃ E2, E2 = gE A (bM I) d m z4 (some Lm) (some (.d (.int (sW d)))) (some (.d (.int (k : Int)))) (some (.d P)) (some (.d (.int t))) (some (.d (.int b))) z11' z12' := ⟨_, rfl⟩
  have n0 : sV (vIx (vN 0) (vN 7)) E0 = .ok (.d P, E0) := by rw [hE0]; simp only [sV, vIx, vN, getE, gE, List.getElem?_cons_succ, List.getElem?_cons_zero, i1]
  have n1 : sV (vIx (vN 8) (vC (.int 0))) E1 = .ok (.d p.1, E1) := by rw [hE1]; simp only [sV, vIx, vN, vC, getE, gE, List.getElem?_cons_succ, List.getElem?_cons_zero, i3]
  have n2 : sV (vIx (vN 5) (vN 7)) E1 = .ok (.d p.1, E1) := by rw [hE1]; simp only [sV, vIx, vN, vC, getE, gE, List.getElem?_cons_succ, List.getElem?_cons_zero, i2]
  have n3 : sV (vIx (vN 8) (vC (.int 1))) E1 = .ok (.d (pI p0 p1), E1) := by rw [hE1]; simp only [sV, vIx, vN, vC, getE, gE, List.getElem?_cons_succ, List.getElem?_cons_zero, i4]
  have q1 : sbNot (sbE (sV (vIsi "tuple" (vN 8)))) E1 = .ok (false, E1) := by
    rw [hE1, hP]; rfl
  have q2 : sbE (sV (v2 oNe (vB bLen (vaCons (vN 8) (vaNil))) (vC (.int 2)))) E1 = .ok (false, E1) := by
    have hb : bLen [.d P] = .ok (.int 2) := by rw [hP]; rfl
    rw [hE1]
    simp only [sbE, sV, v2, vB, vaCons, vaNil, vN, vC, getE, gE, List.getElem?_cons_succ, List.getElem?_cons_zero, hb, oNe_int]
    rfl
  have q3 : sbNot (sbE (sCall (F__law_same 60) [none, none] (saCons (sV (vIx (vN 8) (vC (.int 0)))) (saCons (sV (vIx (vN 5) (vN 7))) (saNil))))) E1 = .ok (false, E1) := sbNot_eq (sbE_eq (sCall_n (bk := [none, none]) (by decide) (sa2_eq n1 n2) hsame))
  have q4 : sbNot (sbE (sCall F__law_is_share [none] (saCons (sV (vIx (vN 8) (vC (.int 1)))) (saNil)))) E1 = .ok (false, E1) := sbNot_eq (sbE_eq (sCall_n (bk := [none]) (by decide) (sa1_eq n3) hshare))
  have q5 : sbE (sV (v2 oNe (v2 oMul (vN 9) (vIx (vIx (vN 8) (vC (.int 1))) (vC (.int 1)))) (v2 oMul (v2 oMul (vIx (vIx (vN 8) (vC (.int 1))) (vC (.int 0))) (vN 6)) (vN 10)))) E2 = .ok (false, E2) := by
    rw [hE2]
    simp only [sbE, sV, v2, vIx, vN, vC, getE, gE, List.getElem?_cons_succ, List.getElem?_cons_zero, i4, i5, i6, oMul_int c1, oMul_int c2, oMul_int c3, oNe_int, hend]
    simp
  unfold fb__law_step_good_3
  rw [← hE0, ssSeq_nx (ssSet_eq (i := 8) n0 (by rw [hE0]; show (8:Nat) < 13; decide))]
  have s1 : E0.set 8 (some (.d P)) = E1 := by rw [hE0, hE1]; rfl
  rw [s1, ssSeq_nx (e := E1) (by rw [ssIf_f (e := E1) (by simp only [sbOr, q1, q2, q3])]; rfl)]
  rw [ssSeq_nx (e := E1) (by rw [ssIf_f q4]; rfl)]
  rw [hE1]
  rw [ssSeq_nx (e := gE A (bM I) d m z4 (some Lm) (some (.d (.int (sW d)))) (some (.d (.int (k : Int)))) (some (.d P)) (some (.d (.int 0))) z10 z11 z12) rfl]
  rw [ssSeq_nx (e := gE A (bM I) d m z4 (some Lm) (some (.d (.int (sW d)))) (some (.d (.int (k : Int)))) (some (.d P)) (some (.d (.int 0))) (some (.d (.int 1))) z11 z12) rfl]
  rw [ssSeq_nx hturn, ← hE2, ssIf_f q5]
  rfl
theorem step_good_ok {I : List Itm} {d : List (Int × Int)} {C0 : Int} {R : List (D × Int)} (h : GoodI I d C0 R) :
    ∃ e, F__law_step_good [.d (tD (C0, R)), bM I, .d (drwD d)] = .ok (.d (.bl true), e) := by
  have hIl : I.length = d.length := by have := congrArg List.length h.w; simpa using this
  have hdl := h.gd.len
  obtain ⟨A, hA⟩ : ∃ A : M, A = .d (tD (C0, R)) := ⟨_, rfl⟩
  have hbr : brw (bM I) = some (false, I.map fun x => tD (x.C, x.R)) := by
    have : bM I = .lst ((I.map fun x => tD (x.C, x.R)).map .d) := by unfold bM; rw [List.map_map]; rfl
    rw [this]
    simp only [brw, all_isD, map_unD, if_true]
  obtain ⟨e', h1, ks, dn, z4, z8, ⟨hd, hn, hm, hln⟩, rfl⟩ := flw_all (ws := [1]) (env0 := gE A (bM I) d (kM []) none none none none none none none none none) (g := fg__law_step_good_1) (b := fb__law_step_good_1) (fun x : Itm => tD (x.C, x.R))
    (fun rest env => ∃ ks dn z4 z8, (dn ++ rest = I ∧ ks.Nodup ∧ (∀ o, o ∈ ks ↔ ∃ x ∈ dn, o ∈ x.R.map (·.1)) ∧ ks.length ≤ 3 * dn.length) ∧ env = gE A (bM I) d (kM ks) z4 none none none z8 none none none none)
    (fun xs env ⟨ks, dn, z4, z8, _, h⟩ => by subst h; intro i hi; simp at hi; subst hi; rfl)
    (fun x rest env ⟨ks, dn, z4, z8, ⟨hd, hn, hm, hln⟩, hh⟩ => by
      subst hh
      have hx : x ∈ I := by rw [← hd]; simp
      have okx := h.ok x hx
      have hdl' := congrArg List.length hd
      simp only [List.length_append, List.length_cons] at hdl'
      obtain ⟨ks', z8', ⟨k1, k2, k3⟩, hb⟩ := below_one (A := A) (B := bM I) (d := d) (ks := ks) (q := (x.C, x.R)) (z5 := none) (z6 := none) (z7 := none) (z8 := z8) (z9 := none) (z10 := none) (z11 := none) (z12 := none) hn (fun p hp => (okx.r.1 p hp).1) (by have := okx.r.2; simp only; omega)
      refine ⟨gE A (bM I) d (kM ks) (some (.d (tD (x.C, x.R)))) none none none z8 none none none none, _, .nx, by simp [fg__law_step_good_1, sgN, gE], hb, .inl rfl, ks', dn ++ [x], _, _, ⟨by rw [← hd]; simp, k1, fun o => ?_, by have := okx.r.2; simp only at k3; simp; omega⟩, rfl⟩
      rw [k2, hm]
      constructor
      · rintro (⟨y, hy, ho⟩ | ho)
        · exact ⟨y, by simp [hy], ho⟩
        · exact ⟨x, by simp, ho⟩
      · rintro ⟨y, hy, ho⟩
        rcases List.mem_append.mp hy with hy | hy
        · exact .inl ⟨y, hy, ho⟩
        · simp at hy; subst hy; exact .inr ho)
    I (gE A (bM I) d (kM []) none none none none none none none none none) ⟨[], [], none, none, ⟨rfl, List.nodup_nil, fun o => by simp, by simp⟩, rfl⟩
  rw [List.append_nil] at hd
  subst hd
  have hmR : ∀ o, o ∈ ks ↔ o ∈ R.map (·.1) := fun o => by
    rw [hm, h.rw.mem]
    constructor
    · rintro ⟨x, hx, ho⟩
      obtain ⟨p, hp, rfl⟩ := List.mem_map.mp ho
      exact List.mem_map.mpr ⟨(p.1, x.w * p.2 * x.P), List.mem_flatMap.mpr ⟨x, hx, List.mem_map.mpr ⟨p, hp, rfl⟩⟩, rfl⟩
    · intro ho
      obtain ⟨p, hp, rfl⟩ := List.mem_map.mp ho
      obtain ⟨x, hx, hp⟩ := List.mem_flatMap.mp hp
      obtain ⟨q, hq, rfl⟩ := List.mem_map.mp hp
      exact ⟨x, hx, List.mem_map.mpr ⟨q, hq, rfl⟩⟩
  have hkO : ∀ o ∈ ks, Out o := fun o ho => by
    obtain ⟨p, hp, rfl⟩ := List.mem_map.mp ((hmR o).mp ho)
    exact (h.out p hp).1
  have hL : srtK rankK ks = R.map (·.1) := ris_one (srt_ris hn hkO) h.rw.ris fun o => by rw [srt_mem, hmR]
  have hRl := h.len
  have hlR : R.length = ks.length := by have := congrArg List.length hL; rw [srt_len, List.length_map] at this; exact this.symm
  obtain ⟨Lm, hLm⟩ : ∃ Lm : M, Lm = .lst ((R.map (·.1)).map .d) := ⟨_, rfl⟩
  obtain ⟨m, hmm⟩ : ∃ m : M, m = kM ks := ⟨_, rfl⟩
  obtain ⟨S, hS'⟩ : ∃ S, S = sW d := ⟨_, rfl⟩
  obtain ⟨e', h2, z7, z8', z9, z10, z11, z12, _, rfl⟩ := fl_all (g := fg__law_step_good_3) (b := fb__law_step_good_3) (fun (k : Nat) => D.int (0 + (k : Int)))
    (fun rest env => ∃ z7 z8 z9 z10 z11 z12, (∀ k ∈ rest, k < R.length) ∧ env = gE A (bM dn) d m z4 (some Lm) (some (.d (.int S))) z7 z8 z9 z10 z11 z12)
    (fun k rest env hh => by
      obtain ⟨z7, z8, z9, z10, z11, z12, hk, rfl⟩ := hh
      have hk0 := hk k (by simp)
      obtain ⟨y8, y9, y10, y11, y12, hb⟩ := row_in (m := m) (z4 := z4) (z8 := z8) (z9 := z9) (z10 := z10) (z11 := z11) (z12 := z12) h (List.getElem?_eq_getElem hk0)
      rw [← hA, ← hLm, ← hS'] at hb
      have hz : (0 : Int) + (k : Int) = (k : Int) := Int.zero_add _
      exact ⟨gE A (bM dn) d m z4 (some Lm) (some (.d (.int S))) (some (.d (.int (k : Int)))) z8 z9 z10 z11 z12, _, .nx, by rw [hz]; rfl, hb, .inl rfl, _, _, _, _, _, _, fun x hx => hk x (by simp [hx]), rfl⟩)
    (List.range R.length) (gE A (bM dn) d m z4 (some Lm) (some (.d (.int S))) none none none none none none) ⟨none, none, none, none, none, none, fun k hk => List.mem_range.mp hk, rfl⟩
  unfold F__law_step_good
  rw [← hA]
  refine ⟨_, runF_ret (m := .d (.bl true)) (e := gE A (bM dn) d m z4 (some Lm) (some (.d (.int S))) z7 z8' z9 z10 z11 z12) ?_⟩
  unfold b__law_step_good
  show ssSeq _ _ [some A, some (bM dn), some (.d (drwD d)), none, none, none, none, none, none, none, none, none, none] = _
  rw [ssSeq_nx (e := gE A (bM dn) d (kM []) none none none none none none none none none) rfl]
  have hi1 : iwN 1 (gE A (bM dn) d (kM []) none none none none none none none none none) = .ok (dn.map fun x => tD (x.C, x.R)) := by
    simp only [iwN, getE, gE, List.getElem?_cons_succ, List.getElem?_cons_zero, hbr]
  rw [ssSeq_nx ((ssForW_eq hi1).trans h1)]
  obtain ⟨E1, hE1⟩ : ∃ E1, E1 = gE A (bM dn) d (kM ks) z4 none none none z8 none none none none := ⟨_, rfl⟩
  obtain ⟨E2, hE2⟩ : ∃ E2, E2 = gE A (bM dn) d m z4 (some Lm) none none z8 none none none none := ⟨_, rfl⟩
  obtain ⟨E3, hE3⟩ : ∃ E3, E3 = gE A (bM dn) d m z4 (some Lm) (some (.d (.int S))) none z8 none none none none := ⟨_, rfl⟩
  have n5 : sSortedKD rankK (vN 3) E1 = .ok (Lm, E1) := by
    have hg : vN 3 E1 = .ok (kM ks) := by rw [hE1]; rfl
    have hdm : dicM (kM ks) = some (ks, ks.map fun _ => M.d (.bl true)) := rfl
    unfold sSortedKD
    rw [hg]
    simp only [hdm]
    rw [if_pos (srtOk_out hkO), hL, hLm]
  rw [← hE1, ssSeq_nx (ssSet_eq (i := 5) n5 (by rw [hE1]; show (5:Nat) < 13; decide))]
  have s1 : E1.set 5 (some Lm) = E2 := by rw [hE1, hE2, hmm]; rfl
  rw [s1]
  have hb0 : bLen [A] = .ok (.int R.length) := by rw [hA]; simp [bLen, tD, M.seq]
  have hb5 : bLen [Lm] = .ok (.int R.length) := by rw [hLm]; simp [bLen, M.seq]
  have q1 : sbNot (sbE (sV (vIsi "list" (vN 0)))) E2 = .ok (false, E2) := by rw [hE2, hA]; rfl
  have q2 : sbE (sV (v2 oNe (vB bLen (vaCons (vN 0) (vaNil))) (vB bLen (vaCons (vN 5) (vaNil))))) E2 = .ok (false, E2) := by
    rw [hE2]
    simp only [sbE, sV, v2, vB, vaCons, vaNil, vN, getE, gE, List.getElem?_cons_succ, List.getElem?_cons_zero, hb0, hb5, oNe_int]
    simp
  rw [ssSeq_nx (e := E2) (by rw [ssIf_f (e := E2) (by simp only [sbOr, q1, q2])]; rfl)]
  have hlm := lclw_map (own := [8]) (ws := [2]) (env0 := E2) (g := sgN 8) (c := sbYes) (f := sV (vIx (vN 8) (vC (.int 1)))) (env := gE A (bM dn) d m z4 (some Lm) none none none none none none none) (fun p : Int × Int => pI p.1 p.2) (fun p => M.d (.int p.2)) (by rw [hE2]; intro i hi; simp at hi; subst hi; rfl) d [] (fun p hp =>
    ⟨gE A (bM dn) d m z4 (some Lm) none none (some (.d (pI p.1 p.2))) none none none none, _, _, rfl, rfl, rfl, rfl⟩)
  have hk8 : killAll [8] E2 = gE A (bM dn) d m z4 (some Lm) none none none none none none none := by rw [hE2]; rfl
  have hlc := sLcW_eq (own := [8]) (ws := [2]) (fi := iwN 2) (env := E2) (xs := d.map fun p => pI p.1 p.2) (by rw [hE2]; rfl) (by rw [sizeLine_eq, List.length_map]; omega) (by decide) (by rw [hk8]; exact hlm)
  have hwM : M.lst ([] ++ d.map fun p => M.d (.int p.2)) = wM d := rfl
  rw [hwM] at hlc
  rw [ssSeq_nx (ssSet_eq (i := 6) (sB_eq (sa1_eq hlc) (bSum_w d)) (show (6:Nat) < 13 by decide))]
  have s2 : (gE A (bM dn) d m z4 (some Lm) none none none none none none none).set 6 (some (.d (.int (sW d)))) = gE A (bM dn) d m z4 (some Lm) (some (.d (.int S))) none none none none none none := by rw [hS']; rfl
  rw [s2]
  have hr1 : siR1 (saCons (sV (vB bLen (vaCons (vN 5) (vaNil)))) (saNil)) (gE A (bM dn) d m z4 (some Lm) (some (.d (.int S))) none none none none none none) = .ok ((List.range R.length).map fun (k : Nat) => D.int (0 + (k : Int)), gE A (bM dn) d m z4 (some Lm) (some (.d (.int S))) none none none none none none) := by
    have q : C62 (R.length : Int) := ⟨by omega, by omega⟩
    simp only [siR1, saCons, saNil, sV, vB, vaCons, vaNil, vN, getE, gE, List.getElem?_cons_succ, List.getElem?_cons_zero, hb5, if_pos q, Int.toNat_natCast]
  rw [ssSeq_nx ((ssFor_eq hr1).trans h2)]
  rfl
abbrev lE (ns : List Int) (ds : List (List (Int × Int))) (ps : List Ent) (A : M) (z4 z5 : Option M) : FL.Env := [some (scrM ns), some (.d (dsD ds)), some (.d (.lst (ps.map entD))), some A, z4, z5, none, none]
theorem law_in {ns : List Int} {O : List D} {ds : List (List (Int × Int))} {ps : List Ent} {fs : List Tb} {z5 : Option M} {i : Nat} {e : Ent} (hds : ∀ d ∈ ds, GDr d) (hl : ds.length ≤ 24) (hO : O.length ≤ 3 ∧ ∀ x ∈ O, Out x ∧ ∀ xs, x = .tup xs → xs.length ≤ 1000) (hlf : ∀ x, Ent.leaf x ∈ ps → x ∈ O) (ci : CI ds ps) (hf : GF O ds ps fs) (hfl : fs.length = ps.length) (hi : ps[i]? = some e) :
    ∃ z5', fb_law_1 (lE ns ds ps (fM fs) (some (.d (.int (i : Int)))) z5) = .ok (.nx, lE ns ds ps (fM fs) (some (.d (.int (i : Int)))) z5') := by
  have hil : i < ps.length := (List.getElem?_eq_some_iff.mp hi).1
  obtain ⟨q, hq⟩ : ∃ q, fs[i]? = some q := ⟨_, List.getElem?_eq_getElem (by omega)⟩
  have i1 : mIdx (.d (.lst (ps.map entD))) (.d (.int (i : Int))) = .ok (.d (entD e)) := mIdx_n (by simp [hi])
  obtain ⟨A, hA⟩ : ∃ A, A = fM fs := ⟨_, rfl⟩
  have i2 : ∀ (c : Nat) (x : Tb), fs[c]? = some x → mIdx A (.d (.int (c : Int))) = .ok (.d (tD x)) := fun c x h => by rw [hA]; exact mIdx_m (by simp [h])
  rw [← hA]
  refine ⟨some (.d (entD e)), ?_⟩
  obtain ⟨B, hB⟩ : ∃ B, B = lE ns ds ps A (some (.d (.int (i : Int)))) (some (.d (entD e))) := ⟨_, rfl⟩
  have s5 : ssSet 5 (sV (vIx (vN 2) (vN 4))) (lE ns ds ps A (some (.d (.int (i : Int)))) z5) = .ok (.nx, B) := by
    rw [hB]
    simp only [ssSet, sV, vIx, vN, getE, lE, List.getElem?_cons_succ, List.getElem?_cons_zero, i1]
    simp
  have n3 : sV (vIx (vN 3) (vN 4)) B = .ok (.d (tD q), B) := by
    rw [hB]
    simp only [sV, vIx, vN, getE, lE, List.getElem?_cons_succ, List.getElem?_cons_zero, i2 i q hq]
  unfold fb_law_1
  rw [ssSeq_nx s5]
  have ok := hf.ok i q e hq hi
  have hOut : ∀ x ∈ O, Out x := fun x hx => (hO.2 x hx).1
  have hSm : ∀ x ∈ O, Sm 57 x := fun x hx => Sm.out (hO.2 x hx).1 54 (hO.2 x hx).2
  have hSm60 : ∀ x ∈ O, Sm 60 x := fun x hx => Sm.out (hO.2 x hx).1 57 (hO.2 x hx).2
  cases e with
  | leaf x =>
    have hqx := hf.lf i q x hq hi
    have hx : x ∈ O := hlf x (List.mem_of_getElem? hi)
    have hc : sbE (sV (v2 oEq (vIx (vN 5) (vC (.int 0))) (vC (.str (Str.ofString "leaf"))))) B = .ok (true, B) := by
      rw [hB]
      simp only [sbE, sV, v2, vIx, vN, vC, getE, lE, List.getElem?_cons_succ, List.getElem?_cons_zero, ix_l0, eq_ll]
    have hv : sFz (sLst (saCons (sTup (saCons (sV (vIx (vN 5) (vC (.int 1)))) (saCons (sTup (saCons (sV (vC (.int 1))) (saCons (sV (vC (.int 1))) (saNil)))) (saNil)))) (saNil))) B = .ok (.d (tD q), B) := by
      rw [hB, hqx]
      have l1 := low_self (W := 1) (by decide)
      simp only [sFz, sLst, sTup, saCons, saNil, sV, vIx, vN, vC, getE, lE, List.getElem?_cons_succ, List.getElem?_cons_zero, ix_l1]
      simp [mTup, isD, unD, sizeLine_eq, fz, fzs, tD, frD, frP, l1.1, l1.2]
    have hsm : Sm 60 (tD q) := by
      rw [hqx]
      refine ⟨by simp, fun y hy => ?_⟩
      simp only [List.map_cons, List.map_nil, List.mem_cons, List.not_mem_nil, or_false] at hy
      subst hy
      refine ⟨by simp, fun z hz => ?_⟩
      simp only [List.mem_cons, List.not_mem_nil, or_false] at hz
      rcases hz with rfl | rfl
      · exact Sm.out (hO.2 _ hx).1 55 (hO.2 _ hx).2
      · refine ⟨by simp, fun z hz => ?_⟩
        simp only [List.mem_cons, List.not_mem_nil, or_false] at hz
        rcases hz with rfl | rfl <;> trivial
    rw [ssIf_t hc, ssIf_f (sbNot_eq (b := true) (sbE_eq (sCall_n (bk := [none, none]) (by decide) (sa2_eq n3 hv) (same_ok 60 _ hsm)))), hB]
    rfl
  | ask s cs =>
    have g := ci.gp i _ hi
    have hd : ds[s]? = some (ds.getD s []) := by rw [List.getD_eq_getElem?_getD, List.getElem?_eq_getElem g.1]; rfl
    obtain ⟨d, hdd⟩ : ∃ d, d = ds.getD s [] := ⟨_, rfl⟩
    have hcl : cs.length = d.length := by rw [hdd]; exact ci.al i s cs hi
    rw [← hdd] at hd
    have hgd := hds _ (List.mem_of_getElem? hd)
    have hdl := hgd.len
    obtain ⟨o1, o2, o3⟩ := its_ok hds hl ⟨hO.1, hOut⟩ hd g hf (show i ≤ fs.length by omega)
    obtain ⟨I, hI⟩ : ∃ I, I = its ds ps fs d s cs := ⟨_, rfl⟩
    rw [← hI] at o1 o2 o3
    have hsp := hf.sp i q s cs d hq hi hd
    rw [← hI] at hsp
    obtain ⟨k1, k2, k3⟩ := ok
    have k1' : q.1 = CS ds s := k1
    have hq2 : q = (CS ds s, q.2) := by rw [← k1']
    have hcs := CS_bd (t := s) hds
    have good : GoodI I d (CS ds s) q.2 := by
      refine ⟨hgd, ?_, o1, fun x hx => ?_, hsp, fun p hp => ?_, ⟨hcs.2, hcs.1.mono (by omega)⟩, ?_⟩
      · rw [hI]
        unfold its
        rw [List.map_map]
        have : ∀ (d : List (Int × Int)) (cs : List Nat), cs.length = d.length → (List.zip d cs).map (fun x => x.1.2) = d.map Prod.snd := by
          intro d
          induction d with
          | nil => intro cs _; rfl
          | cons p d ih =>
            intro cs h
            cases cs with
            | nil => simp at h
            | cons c cs => simp only [List.zip_cons_cons, List.map_cons]; rw [ih cs (by simpa using h)]
        exact this d cs hcl
      · rw [hI] at hx
        obtain ⟨y, hy, rfl⟩ := List.mem_map.mp hx
        have hy' := List.of_mem_zip (show (y.1, y.2) ∈ _ from hy)
        obtain ⟨e', q', h1, h2, _, _, _, h6, _⟩ := g.facts hf (show i ≤ fs.length by omega) hy'.2
        have e1 : fs.getD y.2 (1, []) = q' := by rw [List.getD_eq_getElem?_getD, h2]; rfl
        simp only [e1]
        exact h6
      · obtain ⟨j1, j2, j3⟩ := k3 p hp
        exact ⟨hOut _ j1, hSm60 _ j1, j2, j3.mono (by omega)⟩
      · have := nd_len (ris_nd k2) (O := O) fun x hx => by obtain ⟨p, hp, rfl⟩ := List.mem_map.mp hx; exact (k3 p hp).1
        rw [List.length_map] at this
        have := hO.1
        omega
    obtain ⟨ge, hg⟩ := step_good_ok good
    rw [← hq2] at hg
    have hc : sbE (sV (v2 oEq (vIx (vN 5) (vC (.int 0))) (vC (.str (Str.ofString "leaf"))))) B = .ok (false, B) := by
      rw [hB]
      simp only [sbE, sV, v2, vIx, vN, vC, getE, lE, List.getElem?_cons_succ, List.getElem?_cons_zero, ix_a0, eq_al]
    have hq7 : siQ (sV (vIx (vN 5) (vC (.int 2)))) B = .ok (cs.map fun (c : Nat) => .int (c : Int), B) := by
      rw [hB]
      simp only [siQ, sV, vIx, vN, vC, getE, lE, List.getElem?_cons_succ, List.getElem?_cons_zero, ix_a2, fz, itemsD]
    have hk7 : killAll [7] B = B := by rw [hB]; rfl
    have hlm := lcl_map (own := [7]) (g := sgN 7) (c := sbYes) (f := sV (vIx (vN 3) (vN 7))) (env := B) (fun (c : Nat) => D.int (c : Int)) (fun c => M.d (tD (fs.getD c (1, [])))) cs [] (fun c hc => by
      obtain ⟨e', q', h1, h2, _⟩ := g.facts hf (show i ≤ fs.length by omega) hc
      have e1 : fs.getD c (1, []) = q' := by rw [List.getD_eq_getElem?_getD, h2]; rfl
      rw [e1, hB]
      refine ⟨[some (scrM ns), some (.d (dsD ds)), some (.d (.lst (ps.map entD))), some A, some (.d (.int (i : Int))), some (.d (entD (.ask s cs))), none, some (.d (.int (c : Int)))], _, [some (scrM ns), some (.d (dsD ds)), some (.d (.lst (ps.map entD))), some A, some (.d (.int (i : Int))), some (.d (entD (.ask s cs))), none, some (.d (.int (c : Int)))], rfl, rfl, ?_, rfl⟩
      simp only [sV, vIx, vN, getE, List.getElem?_cons_succ, List.getElem?_cons_zero, i2 c q' h2])
    have hlc := sLc_eq hq7 (by rw [sizeLine_eq, List.length_map]; omega) (by rw [hk7]; exact hlm)
    have hbm : M.lst ([] ++ cs.map fun c => M.d (tD (fs.getD c (1, [])))) = bM I := by
      rw [hI]
      unfold bM its
      rw [List.nil_append, List.map_map]
      have : ∀ (d : List (Int × Int)) (cs : List Nat), cs.length = d.length → cs.map (fun c => M.d (tD (fs.getD c (1, [])))) = (List.zip d cs).map fun x => M.d (tD ((fs.getD x.2 (1, [])).1, (fs.getD x.2 (1, [])).2)) := by
        intro d
        induction d with
        | nil => intro cs h; cases cs with
          | nil => rfl
          | cons c cs => simp at h
        | cons p d ih =>
          intro cs h
          cases cs with
          | nil => simp at h
          | cons c cs => simp only [List.zip_cons_cons, List.map_cons]; rw [ih cs (by simpa using h)]
      rw [this d cs hcl]
      rfl
    rw [hbm] at hlc
    have i4 : mIdx (.d (dsD ds)) (.d (.int (s : Int))) = .ok (.d (drwD d)) := mIdx_n (by simp [hd])
    have n1 : sV (vIx (vN 1) (vIx (vN 5) (vC (.int 1)))) B = .ok (.d (drwD d), B) := by
      rw [hB]
      simp only [sV, vIx, vN, vC, getE, lE, List.getElem?_cons_succ, List.getElem?_cons_zero, ix_a1, i4]
    rw [ssIf_f hc, ssIf_f (sbNot_eq (b := true) (sbE_eq (sCall_n (bk := [none, none, none]) (by decide) (sa3_eq n3 hlc n1) hg))), hB]
    rfl
theorem law_true (ns : List Int) (hn : ns.length ≤ 63) (hz : ∀ z ∈ ns, z.natAbs.log2 < 1048576) : ∃ ms', F_law [.d (.scr (ns.map D.int))] = .ok (.d (.bl true), ms') := by
  obtain ⟨ds, hds, hdl, e1, hcd⟩ := chain_draws_int ns
  obtain ⟨ps, ci, hpl, e2, hch, he0, he1, he2⟩ := chain_int (ds := ds) hn hds hdl
  have hcl : ∀ e ∈ ps, ∀ s cs, e = .ask s cs → cs.length ≤ 3 := fun e he s cs h => by
    obtain ⟨i, hi⟩ := List.mem_iff_getElem?.mp he
    subst h
    rw [ci.al i s cs hi]
    have hs := (ci.gp i _ hi).1
    have hd : ds[s]? = some (ds.getD s []) := by rw [List.getD_eq_getElem?_getD, List.getElem?_eq_getElem hs]; rfl
    exact (hds _ (List.mem_of_getElem? hd)).len
  have hcp := copy_int hpl hcl
  obtain ⟨O, hO1, hO2, hO3⟩ := ci.lf
  obtain ⟨fs, hf, hfl, hpr⟩ := weighed_int hds hdl.2 ⟨hO1, fun x hx => (hO2 x hx).1⟩ hO3 ci.gp (by omega)
  obtain ⟨e', hL, z4, z5, _, rfl⟩ := fl_all (g := fg_law_1) (b := fb_law_1) (fun (i : Nat) => D.int (0 + (i : Int)))
    (fun rest env => ∃ (z4 z5 : Option M), (∀ i ∈ rest, i < ps.length) ∧ env = lE ns ds ps (fM fs) z4 z5)
    (fun i rest env hI => by
      obtain ⟨z4, z5, hi, rfl⟩ := hI
      obtain ⟨z5', hb⟩ := law_in (z5 := z5) (ns := ns) hds hdl.2 ⟨hO1, hO2⟩ hO3 ci hf hfl (List.getElem?_eq_getElem (hi i (by simp)))
      have hz : (0 : Int) + (i : Int) = (i : Int) := Int.zero_add _
      exact ⟨lE ns ds ps (fM fs) (some (.d (.int (i : Int)))) z5, _, .nx, by rw [hz]; rfl, hb, .inl rfl, _, _, fun x hx => hi x (by simp [hx]), rfl⟩)
    (List.range ps.length) (lE ns ds ps (fM fs) none none) ⟨none, none, fun i hi => List.mem_range.mp hi, rfl⟩
  unfold F_law
  refine ⟨_, runF_ret (m := .d (.bl true)) (e := lE ns ds ps (fM fs) z4 z5) ?_⟩
  unfold b_law
  show ssSeq _ _ [some (scrM ns), none, none, none, none, none, none, none] = _
  have a0 : sN 0 [some (scrM ns), none, none, none, none, none, none, none] = .ok (scrM ns, [some (scrM ns), none, none, none, none, none, none, none]) := rfl
  rw [ssSeq_nx (ssSet_eq (i := 1) (sCall_n (by decide) (sa1_eq a0) hcd) (show (1:Nat) < 8 by decide))]
  have b0 : sN 0 [some (scrM ns), some (.lst (ds.map fun d => .d (drwD d))), none, none, none, none, none, none] = .ok (scrM ns, [some (scrM ns), some (.lst (ds.map fun d => .d (drwD d))), none, none, none, none, none, none]) := rfl
  have b1 : sN 1 [some (scrM ns), some (.lst (ds.map fun d => .d (drwD d))), none, none, none, none, none, none] = .ok (.d (dsD ds), [some (scrM ns), some (.d (dsD ds)), none, none, none, none, none, none]) := by
    simp only [sN, getE, List.getElem?_cons_succ, List.getElem?_cons_zero, fz, fzs_map_d, List.set_cons_succ, List.set_cons_zero]
  show ssSeq _ _ [some (scrM ns), some (.lst (ds.map fun d => .d (drwD d))), none, none, none, none, none, none] = _
  rw [ssSeq_nx (ssSet_eq (i := 2) (sCall_n (by decide) (sa2_eq b0 b1) hch) (show (2:Nat) < 8 by decide))]
  show ssSeq _ _ [some (scrM ns), some (.d (dsD ds)), some (pM ps), none, none, none, none, none] = _
  have c2 : sN 2 [some (scrM ns), some (.d (dsD ds)), some (pM ps), none, none, none, none, none] = .ok (.d (.lst (ps.map entD)), [some (scrM ns), some (.d (dsD ds)), some (.d (.lst (ps.map entD))), none, none, none, none, none]) := by
    simp only [sN, getE, pM, List.getElem?_cons_succ, List.getElem?_cons_zero, fz, fzs_map_d, List.set_cons_succ, List.set_cons_zero]
  have c3 := sFz_eq (sCall_n (bk := [none]) (by decide) (sa1_eq c2) hcp)
  have c3' : fz (pM ps) = .lst (ps.map entD) := by simp only [pM, fz, fzs_map_d]
  rw [c3'] at c3
  obtain ⟨B, hB⟩ : ∃ B : FL.Env, B = [some (scrM ns), some (.d (dsD ds)), some (.d (.lst (ps.map entD))), none, none, none, none, none] := ⟨_, rfl⟩
  rw [← hB] at c3
  have hlm := lclw_map (own := [6]) (ws := [1]) (env0 := B) (g := sgN 6) (c := sbYes) (f := sListV (vN 6)) (env := B) drwD (fun d => M.lst (d.map fun p => .d (pI p.1 p.2))) (fun _ _ => rfl) ds [] (fun d hd => by
    rw [hB]
    refine ⟨[some (scrM ns), some (.d (dsD ds)), some (.d (.lst (ps.map entD))), none, none, none, some (.d (drwD d)), none], _, [some (scrM ns), some (.d (dsD ds)), some (.d (.lst (ps.map entD))), none, none, none, some (.d (drwD d)), none], rfl, rfl, ?_, rfl⟩
    simp only [sListV, vN, getE, List.getElem?_cons_succ, List.getElem?_cons_zero, brw_drw, List.map_map]
    rfl)
  have hk : killAll [6] B = B := by rw [hB]; rfl
  have c4 := sFz_eq (sLcW_eq (own := [6]) (ws := [1]) (fi := iwN 1) (env := B) (xs := ds.map drwD) (by rw [hB]; rfl) (by rw [sizeLine_eq, List.length_map]; omega) (by decide) (by rw [hk]; exact hlm))
  have c4' : fz (M.lst ([] ++ ds.map fun d => M.lst (d.map fun p => .d (pI p.1 p.2)))) = dsD ds := by
    simp only [List.nil_append, fz, fzs_map, List.map_map]
    congr 1
    refine List.map_congr_left fun d _ => ?_
    show fz (M.lst (d.map fun p => .d (pI p.1 p.2))) = drwD d
    simp only [fz, fzs_map_d, drwD]
  rw [c4'] at c4
  rw [ssSeq_nx (ssSet_eq (i := 3) (sCall_n (by decide) (sa2_eq c3 c4) hpr) (by rw [hB]; show (3:Nat) < 8; decide))]
  rw [hB]
  show ssSeq _ _ (lE ns ds ps (fM fs) none none) = _
  have hb3 : bLen [fM fs] = .ok (.int ps.length) := by simp [bLen, fM, M.seq, hfl]
  have hb2 : bLen [.d (.lst (ps.map entD))] = .ok (.int ps.length) := by simp [bLen, M.seq]
  have hty : vIsi "list" (vN 3) (lE ns ds ps (fM fs) none none) = .ok (.d (.bl true)) := rfl
  rw [ssSeq_nx (e := lE ns ds ps (fM fs) none none) (by
    refine (ssIf_f ?_).trans rfl
    have q1 : sbNot (sbE (sV (vIsi "list" (vN 3)))) (lE ns ds ps (fM fs) none none) = .ok (false, lE ns ds ps (fM fs) none none) := by
      simp only [sbNot, sbE, sV, hty]
      rfl
    have q2 : sbE (sV (v2 oNe (vB bLen (vaCons (vN 3) (vaNil))) (vB bLen (vaCons (vN 2) (vaNil))))) (lE ns ds ps (fM fs) none none) = .ok (false, lE ns ds ps (fM fs) none none) := by
      simp only [sbE, sV, v2, vB, vaCons, vaNil, vN, getE, lE, List.getElem?_cons_succ, List.getElem?_cons_zero, hb3, hb2, oNe_int]
      simp
    simp only [sbOr, q1, q2])]
  have hr : C62 (ps.length : Int) := ⟨by omega, by omega⟩
  have hr1 : siR1 (saCons (sV (vB bLen (vaCons (vN 2) (vaNil)))) (saNil)) (lE ns ds ps (fM fs) none none) = .ok ((List.range ps.length).map fun (i : Nat) => D.int (0 + (i : Int)), lE ns ds ps (fM fs) none none) := by
    simp only [siR1, saCons, saNil, sV, vB, vaCons, vaNil, vN, getE, lE, List.getElem?_cons_succ, List.getElem?_cons_zero, hb2, if_pos hr, Int.toNat_natCast]
  rw [ssSeq_nx ((ssFor_eq hr1).trans hL)]
  rfl

theorem all_mk {l : PySem.W.OpenLaw} {w : World} {K : PySem.W.Frag} {h : Heap} {mg : Str → Option Value} {fa f_law f_divisor f_fraction f_plus f_times f_rank f_in_order f_table f_mixed f_shares_of f_weighed f__law_cell_at f__law_whole f__law_mix f__law_same f__law_divisor f__law_is_share f__law_rank f__law_chain_draws f__law_site f__law_chain f__law_copy f__law_share f__law_step_good C_NoShare : Addr} (X : K.In h) (G0 : h.Ns mainGlobals mg) (hfa : mg "law" = some (.ref fa))
    {od_divisor an_divisor : Option Addr} {sl_divisor : Array (Option Value)} {oc_divisor kV_divisor dc_divisor pm_divisor cd_divisor ct_divisor : Value}
    (a_divisor : PySem.W.nsIn K mainGlobals "divisor" = some (some (.ref f_divisor))) (l_divisor : K.lookup f_divisor = some ⟨oc_divisor, od_divisor, .func (PySem.W.fnOf "divisor" "divisor" (defArgs st_divisor) (defBody st_divisor) (defScope st_divisor) .none kV_divisor dc_divisor pm_divisor an_divisor cd_divisor ct_divisor), sl_divisor⟩) (c_divisor : PySem.W.codeIn K cd_divisor "divisor" = true) (k_divisor : PySem.W.keepIn K (.ref f_divisor) = true)
    {od_fraction an_fraction : Option Addr} {sl_fraction : Array (Option Value)} {oc_fraction kV_fraction dc_fraction pm_fraction cd_fraction ct_fraction : Value}
    (a_fraction : PySem.W.nsIn K mainGlobals "fraction" = some (some (.ref f_fraction))) (l_fraction : K.lookup f_fraction = some ⟨oc_fraction, od_fraction, .func (PySem.W.fnOf "fraction" "fraction" (defArgs st_fraction) (defBody st_fraction) (defScope st_fraction) .none kV_fraction dc_fraction pm_fraction an_fraction cd_fraction ct_fraction), sl_fraction⟩) (c_fraction : PySem.W.codeIn K cd_fraction "fraction" = true) (k_fraction : PySem.W.keepIn K (.ref f_fraction) = true)
    {od_plus an_plus : Option Addr} {sl_plus : Array (Option Value)} {oc_plus kV_plus dc_plus pm_plus cd_plus ct_plus : Value}
    (a_plus : PySem.W.nsIn K mainGlobals "plus" = some (some (.ref f_plus))) (l_plus : K.lookup f_plus = some ⟨oc_plus, od_plus, .func (PySem.W.fnOf "plus" "plus" (defArgs st_plus) (defBody st_plus) (defScope st_plus) .none kV_plus dc_plus pm_plus an_plus cd_plus ct_plus), sl_plus⟩) (c_plus : PySem.W.codeIn K cd_plus "plus" = true) (k_plus : PySem.W.keepIn K (.ref f_plus) = true)
    {od_times an_times : Option Addr} {sl_times : Array (Option Value)} {oc_times kV_times dc_times pm_times cd_times ct_times : Value}
    (a_times : PySem.W.nsIn K mainGlobals "times" = some (some (.ref f_times))) (l_times : K.lookup f_times = some ⟨oc_times, od_times, .func (PySem.W.fnOf "times" "times" (defArgs st_times) (defBody st_times) (defScope st_times) .none kV_times dc_times pm_times an_times cd_times ct_times), sl_times⟩) (c_times : PySem.W.codeIn K cd_times "times" = true) (k_times : PySem.W.keepIn K (.ref f_times) = true)
    {od_rank an_rank : Option Addr} {sl_rank : Array (Option Value)} {oc_rank kV_rank dc_rank pm_rank cd_rank ct_rank : Value}
    (a_rank : PySem.W.nsIn K mainGlobals "rank" = some (some (.ref f_rank))) (l_rank : K.lookup f_rank = some ⟨oc_rank, od_rank, .func (PySem.W.fnOf "rank" "rank" (defArgs st_rank) (defBody st_rank) (defScope st_rank) .none kV_rank dc_rank pm_rank an_rank cd_rank ct_rank), sl_rank⟩) (c_rank : PySem.W.codeIn K cd_rank "rank" = true) (k_rank : PySem.W.keepIn K (.ref f_rank) = true)
    {od_in_order an_in_order : Option Addr} {sl_in_order : Array (Option Value)} {oc_in_order kV_in_order dc_in_order pm_in_order cd_in_order ct_in_order : Value}
    (a_in_order : PySem.W.nsIn K mainGlobals "in_order" = some (some (.ref f_in_order))) (l_in_order : K.lookup f_in_order = some ⟨oc_in_order, od_in_order, .func (PySem.W.fnOf "in_order" "in_order" (defArgs st_in_order) (defBody st_in_order) (defScope st_in_order) .none kV_in_order dc_in_order pm_in_order an_in_order cd_in_order ct_in_order), sl_in_order⟩) (c_in_order : PySem.W.codeIn K cd_in_order "in_order" = true) (k_in_order : PySem.W.keepIn K (.ref f_in_order) = true)
    {od_table an_table : Option Addr} {sl_table : Array (Option Value)} {oc_table kV_table dc_table pm_table cd_table ct_table : Value}
    (a_table : PySem.W.nsIn K mainGlobals "table" = some (some (.ref f_table))) (l_table : K.lookup f_table = some ⟨oc_table, od_table, .func (PySem.W.fnOf "table" "table" (defArgs st_table) (defBody st_table) (defScope st_table) .none kV_table dc_table pm_table an_table cd_table ct_table), sl_table⟩) (c_table : PySem.W.codeIn K cd_table "table" = true) (k_table : PySem.W.keepIn K (.ref f_table) = true)
    {od_mixed an_mixed : Option Addr} {sl_mixed : Array (Option Value)} {oc_mixed kV_mixed dc_mixed pm_mixed cd_mixed ct_mixed : Value}
    (a_mixed : PySem.W.nsIn K mainGlobals "mixed" = some (some (.ref f_mixed))) (l_mixed : K.lookup f_mixed = some ⟨oc_mixed, od_mixed, .func (PySem.W.fnOf "mixed" "mixed" (defArgs st_mixed) (defBody st_mixed) (defScope st_mixed) .none kV_mixed dc_mixed pm_mixed an_mixed cd_mixed ct_mixed), sl_mixed⟩) (c_mixed : PySem.W.codeIn K cd_mixed "mixed" = true) (k_mixed : PySem.W.keepIn K (.ref f_mixed) = true)
    {od_shares_of an_shares_of : Option Addr} {sl_shares_of : Array (Option Value)} {oc_shares_of kV_shares_of dc_shares_of pm_shares_of cd_shares_of ct_shares_of : Value}
    (a_shares_of : PySem.W.nsIn K mainGlobals "shares_of" = some (some (.ref f_shares_of))) (l_shares_of : K.lookup f_shares_of = some ⟨oc_shares_of, od_shares_of, .func (PySem.W.fnOf "shares_of" "shares_of" (defArgs st_shares_of) (defBody st_shares_of) (defScope st_shares_of) .none kV_shares_of dc_shares_of pm_shares_of an_shares_of cd_shares_of ct_shares_of), sl_shares_of⟩) (c_shares_of : PySem.W.codeIn K cd_shares_of "shares_of" = true) (k_shares_of : PySem.W.keepIn K (.ref f_shares_of) = true)
    {od_weighed an_weighed : Option Addr} {sl_weighed : Array (Option Value)} {oc_weighed kV_weighed dc_weighed pm_weighed cd_weighed ct_weighed : Value}
    (a_weighed : PySem.W.nsIn K mainGlobals "weighed" = some (some (.ref f_weighed))) (l_weighed : K.lookup f_weighed = some ⟨oc_weighed, od_weighed, .func (PySem.W.fnOf "weighed" "weighed" (defArgs st_weighed) (defBody st_weighed) (defScope st_weighed) .none kV_weighed dc_weighed pm_weighed an_weighed cd_weighed ct_weighed), sl_weighed⟩) (c_weighed : PySem.W.codeIn K cd_weighed "weighed" = true) (k_weighed : PySem.W.keepIn K (.ref f_weighed) = true)
    {od__law_cell_at an__law_cell_at : Option Addr} {sl__law_cell_at : Array (Option Value)} {oc__law_cell_at kV__law_cell_at dc__law_cell_at pm__law_cell_at cd__law_cell_at ct__law_cell_at : Value}
    (a__law_cell_at : PySem.W.nsIn K mainGlobals "_law_cell_at" = some (some (.ref f__law_cell_at))) (l__law_cell_at : K.lookup f__law_cell_at = some ⟨oc__law_cell_at, od__law_cell_at, .func (PySem.W.fnOf "_law_cell_at" "_law_cell_at" (defArgs st__law_cell_at) (defBody st__law_cell_at) (defScope st__law_cell_at) .none kV__law_cell_at dc__law_cell_at pm__law_cell_at an__law_cell_at cd__law_cell_at ct__law_cell_at), sl__law_cell_at⟩) (c__law_cell_at : PySem.W.codeIn K cd__law_cell_at "_law_cell_at" = true) (k__law_cell_at : PySem.W.keepIn K (.ref f__law_cell_at) = true)
    {od__law_whole an__law_whole : Option Addr} {sl__law_whole : Array (Option Value)} {oc__law_whole kV__law_whole dc__law_whole pm__law_whole cd__law_whole ct__law_whole : Value}
    (a__law_whole : PySem.W.nsIn K mainGlobals "_law_whole" = some (some (.ref f__law_whole))) (l__law_whole : K.lookup f__law_whole = some ⟨oc__law_whole, od__law_whole, .func (PySem.W.fnOf "_law_whole" "_law_whole" (defArgs st__law_whole) (defBody st__law_whole) (defScope st__law_whole) .none kV__law_whole dc__law_whole pm__law_whole an__law_whole cd__law_whole ct__law_whole), sl__law_whole⟩) (c__law_whole : PySem.W.codeIn K cd__law_whole "_law_whole" = true) (k__law_whole : PySem.W.keepIn K (.ref f__law_whole) = true)
    {od__law_mix an__law_mix : Option Addr} {sl__law_mix : Array (Option Value)} {oc__law_mix kV__law_mix dc__law_mix pm__law_mix cd__law_mix ct__law_mix : Value}
    (a__law_mix : PySem.W.nsIn K mainGlobals "_law_mix" = some (some (.ref f__law_mix))) (l__law_mix : K.lookup f__law_mix = some ⟨oc__law_mix, od__law_mix, .func (PySem.W.fnOf "_law_mix" "_law_mix" (defArgs st__law_mix) (defBody st__law_mix) (defScope st__law_mix) .none kV__law_mix dc__law_mix pm__law_mix an__law_mix cd__law_mix ct__law_mix), sl__law_mix⟩) (c__law_mix : PySem.W.codeIn K cd__law_mix "_law_mix" = true) (k__law_mix : PySem.W.keepIn K (.ref f__law_mix) = true)
    {od__law_same an__law_same : Option Addr} {sl__law_same : Array (Option Value)} {oc__law_same kV__law_same dc__law_same pm__law_same cd__law_same ct__law_same : Value}
    (a__law_same : PySem.W.nsIn K mainGlobals "_law_same" = some (some (.ref f__law_same))) (l__law_same : K.lookup f__law_same = some ⟨oc__law_same, od__law_same, .func (PySem.W.fnOf "_law_same" "_law_same" (defArgs st__law_same) (defBody st__law_same) (defScope st__law_same) .none kV__law_same dc__law_same pm__law_same an__law_same cd__law_same ct__law_same), sl__law_same⟩) (c__law_same : PySem.W.codeIn K cd__law_same "_law_same" = true) (k__law_same : PySem.W.keepIn K (.ref f__law_same) = true)
    {od__law_divisor an__law_divisor : Option Addr} {sl__law_divisor : Array (Option Value)} {oc__law_divisor kV__law_divisor dc__law_divisor pm__law_divisor cd__law_divisor ct__law_divisor : Value}
    (a__law_divisor : PySem.W.nsIn K mainGlobals "_law_divisor" = some (some (.ref f__law_divisor))) (l__law_divisor : K.lookup f__law_divisor = some ⟨oc__law_divisor, od__law_divisor, .func (PySem.W.fnOf "_law_divisor" "_law_divisor" (defArgs st__law_divisor) (defBody st__law_divisor) (defScope st__law_divisor) .none kV__law_divisor dc__law_divisor pm__law_divisor an__law_divisor cd__law_divisor ct__law_divisor), sl__law_divisor⟩) (c__law_divisor : PySem.W.codeIn K cd__law_divisor "_law_divisor" = true) (k__law_divisor : PySem.W.keepIn K (.ref f__law_divisor) = true)
    {od__law_is_share an__law_is_share : Option Addr} {sl__law_is_share : Array (Option Value)} {oc__law_is_share kV__law_is_share dc__law_is_share pm__law_is_share cd__law_is_share ct__law_is_share : Value}
    (a__law_is_share : PySem.W.nsIn K mainGlobals "_law_is_share" = some (some (.ref f__law_is_share))) (l__law_is_share : K.lookup f__law_is_share = some ⟨oc__law_is_share, od__law_is_share, .func (PySem.W.fnOf "_law_is_share" "_law_is_share" (defArgs st__law_is_share) (defBody st__law_is_share) (defScope st__law_is_share) .none kV__law_is_share dc__law_is_share pm__law_is_share an__law_is_share cd__law_is_share ct__law_is_share), sl__law_is_share⟩) (c__law_is_share : PySem.W.codeIn K cd__law_is_share "_law_is_share" = true) (k__law_is_share : PySem.W.keepIn K (.ref f__law_is_share) = true)
    {od__law_rank an__law_rank : Option Addr} {sl__law_rank : Array (Option Value)} {oc__law_rank kV__law_rank dc__law_rank pm__law_rank cd__law_rank ct__law_rank : Value}
    (a__law_rank : PySem.W.nsIn K mainGlobals "_law_rank" = some (some (.ref f__law_rank))) (l__law_rank : K.lookup f__law_rank = some ⟨oc__law_rank, od__law_rank, .func (PySem.W.fnOf "_law_rank" "_law_rank" (defArgs st__law_rank) (defBody st__law_rank) (defScope st__law_rank) .none kV__law_rank dc__law_rank pm__law_rank an__law_rank cd__law_rank ct__law_rank), sl__law_rank⟩) (c__law_rank : PySem.W.codeIn K cd__law_rank "_law_rank" = true) (k__law_rank : PySem.W.keepIn K (.ref f__law_rank) = true)
    {od__law_chain_draws an__law_chain_draws : Option Addr} {sl__law_chain_draws : Array (Option Value)} {oc__law_chain_draws kV__law_chain_draws dc__law_chain_draws pm__law_chain_draws cd__law_chain_draws ct__law_chain_draws : Value}
    (a__law_chain_draws : PySem.W.nsIn K mainGlobals "_law_chain_draws" = some (some (.ref f__law_chain_draws))) (l__law_chain_draws : K.lookup f__law_chain_draws = some ⟨oc__law_chain_draws, od__law_chain_draws, .func (PySem.W.fnOf "_law_chain_draws" "_law_chain_draws" (defArgs st__law_chain_draws) (defBody st__law_chain_draws) (defScope st__law_chain_draws) .none kV__law_chain_draws dc__law_chain_draws pm__law_chain_draws an__law_chain_draws cd__law_chain_draws ct__law_chain_draws), sl__law_chain_draws⟩) (c__law_chain_draws : PySem.W.codeIn K cd__law_chain_draws "_law_chain_draws" = true) (k__law_chain_draws : PySem.W.keepIn K (.ref f__law_chain_draws) = true)
    {od__law_site an__law_site : Option Addr} {sl__law_site : Array (Option Value)} {oc__law_site kV__law_site dc__law_site pm__law_site cd__law_site ct__law_site : Value}
    (a__law_site : PySem.W.nsIn K mainGlobals "_law_site" = some (some (.ref f__law_site))) (l__law_site : K.lookup f__law_site = some ⟨oc__law_site, od__law_site, .func (PySem.W.fnOf "_law_site" "_law_site" (defArgs st__law_site) (defBody st__law_site) (defScope st__law_site) .none kV__law_site dc__law_site pm__law_site an__law_site cd__law_site ct__law_site), sl__law_site⟩) (c__law_site : PySem.W.codeIn K cd__law_site "_law_site" = true) (k__law_site : PySem.W.keepIn K (.ref f__law_site) = true)
    {od__law_chain an__law_chain : Option Addr} {sl__law_chain : Array (Option Value)} {oc__law_chain kV__law_chain dc__law_chain pm__law_chain cd__law_chain ct__law_chain : Value}
    (a__law_chain : PySem.W.nsIn K mainGlobals "_law_chain" = some (some (.ref f__law_chain))) (l__law_chain : K.lookup f__law_chain = some ⟨oc__law_chain, od__law_chain, .func (PySem.W.fnOf "_law_chain" "_law_chain" (defArgs st__law_chain) (defBody st__law_chain) (defScope st__law_chain) .none kV__law_chain dc__law_chain pm__law_chain an__law_chain cd__law_chain ct__law_chain), sl__law_chain⟩) (c__law_chain : PySem.W.codeIn K cd__law_chain "_law_chain" = true) (k__law_chain : PySem.W.keepIn K (.ref f__law_chain) = true)
    {od__law_copy an__law_copy : Option Addr} {sl__law_copy : Array (Option Value)} {oc__law_copy kV__law_copy dc__law_copy pm__law_copy cd__law_copy ct__law_copy : Value}
    (a__law_copy : PySem.W.nsIn K mainGlobals "_law_copy" = some (some (.ref f__law_copy))) (l__law_copy : K.lookup f__law_copy = some ⟨oc__law_copy, od__law_copy, .func (PySem.W.fnOf "_law_copy" "_law_copy" (defArgs st__law_copy) (defBody st__law_copy) (defScope st__law_copy) .none kV__law_copy dc__law_copy pm__law_copy an__law_copy cd__law_copy ct__law_copy), sl__law_copy⟩) (c__law_copy : PySem.W.codeIn K cd__law_copy "_law_copy" = true) (k__law_copy : PySem.W.keepIn K (.ref f__law_copy) = true)
    {od__law_share an__law_share : Option Addr} {sl__law_share : Array (Option Value)} {oc__law_share kV__law_share dc__law_share pm__law_share cd__law_share ct__law_share : Value}
    (a__law_share : PySem.W.nsIn K mainGlobals "_law_share" = some (some (.ref f__law_share))) (l__law_share : K.lookup f__law_share = some ⟨oc__law_share, od__law_share, .func (PySem.W.fnOf "_law_share" "_law_share" (defArgs st__law_share) (defBody st__law_share) (defScope st__law_share) .none kV__law_share dc__law_share pm__law_share an__law_share cd__law_share ct__law_share), sl__law_share⟩) (c__law_share : PySem.W.codeIn K cd__law_share "_law_share" = true) (k__law_share : PySem.W.keepIn K (.ref f__law_share) = true)
    {od__law_step_good an__law_step_good : Option Addr} {sl__law_step_good : Array (Option Value)} {oc__law_step_good kV__law_step_good dc__law_step_good pm__law_step_good cd__law_step_good ct__law_step_good : Value}
    (a__law_step_good : PySem.W.nsIn K mainGlobals "_law_step_good" = some (some (.ref f__law_step_good))) (l__law_step_good : K.lookup f__law_step_good = some ⟨oc__law_step_good, od__law_step_good, .func (PySem.W.fnOf "_law_step_good" "_law_step_good" (defArgs st__law_step_good) (defBody st__law_step_good) (defScope st__law_step_good) .none kV__law_step_good dc__law_step_good pm__law_step_good an__law_step_good cd__law_step_good ct__law_step_good), sl__law_step_good⟩) (c__law_step_good : PySem.W.codeIn K cd__law_step_good "_law_step_good" = true) (k__law_step_good : PySem.W.keepIn K (.ref f__law_step_good) = true)
    {od_law an_law : Option Addr} {sl_law : Array (Option Value)} {oc_law kV_law dc_law pm_law cd_law ct_law : Value}
    (a_law : PySem.W.nsIn K mainGlobals "law" = some (some (.ref f_law))) (l_law : K.lookup f_law = some ⟨oc_law, od_law, .func (PySem.W.fnOf "law" "law" (defArgs st_law) (defBody st_law) (defScope st_law) .none kV_law dc_law pm_law an_law cd_law ct_law), sl_law⟩) (c_law : PySem.W.codeIn K cd_law "law" = true) (k_law : PySem.W.keepIn K (.ref f_law) = true)
    (z_abs : PySem.W.nsIn K mainGlobals "abs" = some none)
    (z_bool : PySem.W.nsIn K mainGlobals "bool" = some none)
    (z_int : PySem.W.nsIn K mainGlobals "int" = some none)
    (z_isinstance : PySem.W.nsIn K mainGlobals "isinstance" = some none)
    (z_len : PySem.W.nsIn K mainGlobals "len" = some none)
    (z_list : PySem.W.nsIn K mainGlobals "list" = some none)
    (z_max : PySem.W.nsIn K mainGlobals "max" = some none)
    (z_min : PySem.W.nsIn K mainGlobals "min" = some none)
    (z_range : PySem.W.nsIn K mainGlobals "range" = some none)
    (z_sorted : PySem.W.nsIn K mainGlobals "sorted" = some none)
    (z_str : PySem.W.nsIn K mainGlobals "str" = some none)
    (z_sum : PySem.W.nsIn K mainGlobals "sum" = some none)
    (z_tuple : PySem.W.nsIn K mainGlobals "tuple" = some none)
    (z_zip : PySem.W.nsIn K mainGlobals "zip" = some none)
    (g_NoShare : PySem.W.nsIn K mainGlobals "NoShare" = some (some (.ref C_NoShare)))
    (x_NoShare : PySem.W.excIn K C_NoShare [.type "ValueError", .type "Exception", .type "BaseException", .type "object"] "ValueError.__new__" = true) (kk_NoShare : PySem.W.keepIn K (.ref C_NoShare) = true) (b_NoShare : PySem.W.subIn K (.ref C_NoShare) (.type "BaseException") = some true) (t_NoShare : PySem.W.typeIn K (.ref C_NoShare) = some (.type "type"))
    {t_NOTHING_0 t_NOTHING_1 : Tok} {a_g_NOTHING : Addr} {d_g_NOTHING : Option Addr} {n_g_NOTHING : Nat} {sl_g_NOTHING : Array (Option Value)} (gg_NOTHING : PySem.W.nsIn K mainGlobals "NOTHING" = some (some (.ref a_g_NOTHING))) (gl_NOTHING : K.lookup a_g_NOTHING = some ⟨.type "tuple", d_g_NOTHING, .seq #[.int 0 t_NOTHING_0, .int 1 t_NOTHING_1] n_g_NOTHING, sl_g_NOTHING⟩)
    (hlaw : ∀ ns : List Int, ns.length ≤ 63 → (∀ z ∈ ns, z.natAbs.log2 < 1048576) → ∃ ms', F_law [.d (.scr (ns.map D.int))] = .ok (.d (.bl true), ms')) :
    ∃ (G : Gx) (fd : FuncData) (F : FS), G.K.In h ∧ (∀ (s : Shared) (u : Value), BindsTo s fd ⟨[u], []⟩ [("_law_script", u)]) ∧
        (∀ ns : List Int, ns.length ≤ 63 → (∀ z ∈ ns, z.natAbs.log2 < 1048576) → ∃ ms', F [.d (.scr (ns.map D.int))] = .ok (.d (.bl true), ms')) ∧
        ∀ base : Heap, G.K.In base → base.Ns mainGlobals mg → FnOk l.prog w G.K mg base (L2.CX l.prog w) 63 fa fd ["_law_script"] (spF G 1 F) := by
  have e := hfa.symm.trans (PySem.W.mg_of X G0 a_law)
  cases e
  let G : Gx := ⟨K, fun s => if s = "NoShare" then C_NoShare else fa, w⟩
  have q_NoShare : G.ad "NoShare" = C_NoShare := by simp [G]
  have T : Tx G mg := ⟨PySem.W.mg_none_of X G0 z_len, PySem.W.mg_none_of X G0 z_abs, PySem.W.mg_none_of X G0 z_bool, PySem.W.mg_none_of X G0 z_int, PySem.W.mg_none_of X G0 z_isinstance, PySem.W.mg_none_of X G0 z_list, PySem.W.mg_none_of X G0 z_max, PySem.W.mg_none_of X G0 z_min, PySem.W.mg_none_of X G0 z_range, PySem.W.mg_none_of X G0 z_sorted, PySem.W.mg_none_of X G0 z_str, PySem.W.mg_none_of X G0 z_sum, PySem.W.mg_none_of X G0 z_tuple, PySem.W.mg_none_of X G0 z_zip, ⟨by rw [q_NoShare]; exact PySem.W.mg_of X G0 g_NoShare, by rw [q_NoShare]; exact x_NoShare, by rw [q_NoShare]; exact kk_NoShare, by rw [q_NoShare]; exact b_NoShare, by rw [q_NoShare]; exact t_NoShare⟩, ⟨_, .ref a_g_NOTHING, PySem.W.mg_of X G0 gg_NOTHING, rfl, fun Z => by simp only [RepD, g_NOTHING, RepDs]; exact ⟨a_g_NOTHING, [.int 0, .int 1], rfl, .inr ⟨_, _, _, gl_NOTHING, rfl, rfl, (by show 2 ≤ sizeLine; decide), .cons (⟨_, rfl⟩) (.cons (⟨_, rfl⟩) (.nil))⟩, ⟨_, _, rfl, by simp [RepD], ⟨_, _, rfl, by simp [RepD], rfl⟩⟩⟩⟩⟩
  have F_divisor_ : Fun G.K "divisor" "divisor" st_divisor f_divisor _ := fun_mk (st := st_divisor) l_divisor c_divisor k_divisor
  have F_fraction_ : Fun G.K "fraction" "fraction" st_fraction f_fraction _ := fun_mk (st := st_fraction) l_fraction c_fraction k_fraction
  have F_plus_ : Fun G.K "plus" "plus" st_plus f_plus _ := fun_mk (st := st_plus) l_plus c_plus k_plus
  have F_times_ : Fun G.K "times" "times" st_times f_times _ := fun_mk (st := st_times) l_times c_times k_times
  have F_rank_ : Fun G.K "rank" "rank" st_rank f_rank _ := fun_mk (st := st_rank) l_rank c_rank k_rank
  have F_in_order_ : Fun G.K "in_order" "in_order" st_in_order f_in_order _ := fun_mk (st := st_in_order) l_in_order c_in_order k_in_order
  have F_table_ : Fun G.K "table" "table" st_table f_table _ := fun_mk (st := st_table) l_table c_table k_table
  have F_mixed_ : Fun G.K "mixed" "mixed" st_mixed f_mixed _ := fun_mk (st := st_mixed) l_mixed c_mixed k_mixed
  have F_shares_of_ : Fun G.K "shares_of" "shares_of" st_shares_of f_shares_of _ := fun_mk (st := st_shares_of) l_shares_of c_shares_of k_shares_of
  have F_weighed_ : Fun G.K "weighed" "weighed" st_weighed f_weighed _ := fun_mk (st := st_weighed) l_weighed c_weighed k_weighed
  have F__law_cell_at_ : Fun G.K "_law_cell_at" "_law_cell_at" st__law_cell_at f__law_cell_at _ := fun_mk (st := st__law_cell_at) l__law_cell_at c__law_cell_at k__law_cell_at
  have F__law_whole_ : Fun G.K "_law_whole" "_law_whole" st__law_whole f__law_whole _ := fun_mk (st := st__law_whole) l__law_whole c__law_whole k__law_whole
  have F__law_mix_ : Fun G.K "_law_mix" "_law_mix" st__law_mix f__law_mix _ := fun_mk (st := st__law_mix) l__law_mix c__law_mix k__law_mix
  have F__law_same_ : Fun G.K "_law_same" "_law_same" st__law_same f__law_same _ := fun_mk (st := st__law_same) l__law_same c__law_same k__law_same
  have F__law_divisor_ : Fun G.K "_law_divisor" "_law_divisor" st__law_divisor f__law_divisor _ := fun_mk (st := st__law_divisor) l__law_divisor c__law_divisor k__law_divisor
  have F__law_is_share_ : Fun G.K "_law_is_share" "_law_is_share" st__law_is_share f__law_is_share _ := fun_mk (st := st__law_is_share) l__law_is_share c__law_is_share k__law_is_share
  have F__law_rank_ : Fun G.K "_law_rank" "_law_rank" st__law_rank f__law_rank _ := fun_mk (st := st__law_rank) l__law_rank c__law_rank k__law_rank
  have F__law_chain_draws_ : Fun G.K "_law_chain_draws" "_law_chain_draws" st__law_chain_draws f__law_chain_draws _ := fun_mk (st := st__law_chain_draws) l__law_chain_draws c__law_chain_draws k__law_chain_draws
  have F__law_site_ : Fun G.K "_law_site" "_law_site" st__law_site f__law_site _ := fun_mk (st := st__law_site) l__law_site c__law_site k__law_site
  have F__law_chain_ : Fun G.K "_law_chain" "_law_chain" st__law_chain f__law_chain _ := fun_mk (st := st__law_chain) l__law_chain c__law_chain k__law_chain
  have F__law_copy_ : Fun G.K "_law_copy" "_law_copy" st__law_copy f__law_copy _ := fun_mk (st := st__law_copy) l__law_copy c__law_copy k__law_copy
  have F__law_share_ : Fun G.K "_law_share" "_law_share" st__law_share f__law_share _ := fun_mk (st := st__law_share) l__law_share c__law_share k__law_share
  have F__law_step_good_ : Fun G.K "_law_step_good" "_law_step_good" st__law_step_good f__law_step_good _ := fun_mk (st := st__law_step_good) l__law_step_good c__law_step_good k__law_step_good
  have F_law_ : Fun G.K "law" "law" st_law fa _ := fun_mk (st := st_law) l_law c_law k_law
  refine ⟨G, PySem.W.fnOf "law" "law" (defArgs st_law) (defBody st_law) (defScope st_law) .none kV_law dc_law pm_law an_law cd_law ct_law, F_law, X, fun s v => .of_eq rfl, hlaw, fun base _ _ => ?_⟩
  have h_divisor := K41.a_divisor (P := l.prog) (base := base) T F_divisor_ (PySem.W.mg_of X G0 a_divisor)
  have h_fraction := K41.a_fraction (P := l.prog) (base := base) T h_divisor F_fraction_ (PySem.W.mg_of X G0 a_fraction)
  have h_plus := K41.a_plus (P := l.prog) (base := base) T h_fraction F_plus_ (PySem.W.mg_of X G0 a_plus)
  have h_times := K41.a_times (P := l.prog) (base := base) T h_fraction F_times_ (PySem.W.mg_of X G0 a_times)
  have k_rank : KeyA l.prog w G mg base 1 "rank" rankK := K41.k_rank (P := l.prog) (base := base) T F_rank_ (PySem.W.mg_of X G0 a_rank)
  have h_in_order := K41.a_in_order (P := l.prog) (base := base) T k_rank F_in_order_ (PySem.W.mg_of X G0 a_in_order)
  have h_table := K41.a_table (P := l.prog) (base := base) T h_in_order h_plus F_table_ (PySem.W.mg_of X G0 a_table)
  have h_mixed := K41.a_mixed (P := l.prog) (base := base) T h_table h_times F_mixed_ (PySem.W.mg_of X G0 a_mixed)
  have h_shares_of := K41.a_shares_of (P := l.prog) (base := base) T h_fraction F_shares_of_ (PySem.W.mg_of X G0 a_shares_of)
  have h_weighed := K41.a_weighed (P := l.prog) (base := base) T h_mixed h_shares_of F_weighed_ (PySem.W.mg_of X G0 a_weighed)
  have h__law_cell_at := K41.a__law_cell_at (P := l.prog) (base := base) T F__law_cell_at_ (PySem.W.mg_of X G0 a__law_cell_at)
  have h__law_whole := K41.a__law_whole (P := l.prog) (base := base) T F__law_whole_ (PySem.W.mg_of X G0 a__law_whole)
  have h__law_mix := K41.a__law_mix (P := l.prog) (base := base) T F__law_mix_ (PySem.W.mg_of X G0 a__law_mix)
  have h__law_same : FnA l.prog w G mg base 61 "_law_same" 2 (F__law_same 60) := K41.a__law_same (P := l.prog) (base := base) T h__law_whole F__law_same_ (PySem.W.mg_of X G0 a__law_same) 60
  have h__law_divisor := K41.a__law_divisor (P := l.prog) (base := base) T F__law_divisor_ (PySem.W.mg_of X G0 a__law_divisor)
  have h__law_is_share := K41.a__law_is_share (P := l.prog) (base := base) T h__law_divisor h__law_whole F__law_is_share_ (PySem.W.mg_of X G0 a__law_is_share)
  have k__law_rank : KeyA l.prog w G mg base 1 "_law_rank" rankK := K41.k__law_rank (P := l.prog) (base := base) T F__law_rank_ (PySem.W.mg_of X G0 a__law_rank)
  have h__law_chain_draws := K41.a__law_chain_draws (P := l.prog) (base := base) T h__law_cell_at h__law_mix F__law_chain_draws_ (PySem.W.mg_of X G0 a__law_chain_draws)
  have h__law_site := K41.a__law_site (P := l.prog) (base := base) T F__law_site_ (PySem.W.mg_of X G0 a__law_site)
  have h__law_chain := K41.a__law_chain (P := l.prog) (base := base) T h__law_cell_at h__law_mix h__law_site F__law_chain_ (PySem.W.mg_of X G0 a__law_chain)
  have h__law_copy := K41.a__law_copy (P := l.prog) (base := base) T F__law_copy_ (PySem.W.mg_of X G0 a__law_copy)
  have h__law_share := K41.a__law_share (P := l.prog) (base := base) T F__law_share_ (PySem.W.mg_of X G0 a__law_share)
  have h__law_step_good := K41.a__law_step_good (P := l.prog) (base := base) T h__law_is_share h__law_same h__law_share k__law_rank F__law_step_good_ (PySem.W.mg_of X G0 a__law_step_good)
  exact K41.a_law T h__law_chain h__law_chain_draws h__law_copy h__law_same h__law_step_good h_weighed F_law_
theorem walk {l : PySem.W.OpenLaw} {q : Program} {loose : List Str} {XP : (Str → Option Value) → Heap → Prop} {YP : World → Heap → Prop} {d : DefRec} (hn : l.most = some 63) (hdf : d.params.defaults = [])
    (F : ∀ (w : World) (mg : Str → Option Value) (fa : Addr) (h : Heap), YP w h → h.Ns mainGlobals mg → mg d.name = some (.ref fa) →
      ∃ (G : Gx) (fd : FuncData) (F : FS), G.K.In h ∧ (∀ (s : Shared) (u : Value), BindsTo s fd ⟨[u], []⟩ [("_law_script", u)]) ∧
        (∀ ns : List Int, ns.length ≤ 63 → (∀ z ∈ ns, z.natAbs.log2 < 1048576) → ∃ ms', F [.d (.scr (ns.map D.int))] = .ok (.d (.bl true), ms')) ∧
        ∀ base : Heap, G.K.In base → base.Ns mainGlobals mg → FnOk l.prog w G.K mg base (L2.CX l.prog w) 63 fa fd ["_law_script"] (spF G 1 F)) :
    PySem.W.WalkO q loose XP YP l.row.toRowW d [] (fun f vs => PySem.call f vs) := FL.walk (x := "_law_script") (k := 63) hn hdf ⟨rfl, by decide, by decide⟩ F
end K41
open PySem PySem.W PyProof.Rows
set_option maxRecDepth 100000 in
set_option maxHeartbeats 0 in
theorem PySem.Challenge.cw_flipwright_k41_whole_weighed_step_by_ste_holds : PySem.Challenge.rw_flipwright_k41_whole_weighed_step_by_ste.Holds := by
  w_on; o_law; k_head; (case hw => w_witness2)
  k_fill
  refine K41.walk (l := PySem.Challenge.rw_flipwright_k41_whole_weighed_step_by_ste) rfl rfl ?F
  case F =>
    intro w mg fa h Y G hmg
    refine' K41.all_mk (PySem.W.kIn_of Y) G hmg ?a_divisor ?l_divisor ?c_divisor ?k_divisor ?a_fraction ?l_fraction ?c_fraction ?k_fraction ?a_plus ?l_plus ?c_plus ?k_plus ?a_times ?l_times ?c_times ?k_times ?a_rank ?l_rank ?c_rank ?k_rank ?a_in_order ?l_in_order ?c_in_order ?k_in_order ?a_table ?l_table ?c_table ?k_table ?a_mixed ?l_mixed ?c_mixed ?k_mixed ?a_shares_of ?l_shares_of ?c_shares_of ?k_shares_of ?a_weighed ?l_weighed ?c_weighed ?k_weighed ?a__law_cell_at ?l__law_cell_at ?c__law_cell_at ?k__law_cell_at ?a__law_whole ?l__law_whole ?c__law_whole ?k__law_whole ?a__law_mix ?l__law_mix ?c__law_mix ?k__law_mix ?a__law_same ?l__law_same ?c__law_same ?k__law_same ?a__law_divisor ?l__law_divisor ?c__law_divisor ?k__law_divisor ?a__law_is_share ?l__law_is_share ?c__law_is_share ?k__law_is_share ?a__law_rank ?l__law_rank ?c__law_rank ?k__law_rank ?a__law_chain_draws ?l__law_chain_draws ?c__law_chain_draws ?k__law_chain_draws ?a__law_site ?l__law_site ?c__law_site ?k__law_site ?a__law_chain ?l__law_chain ?c__law_chain ?k__law_chain ?a__law_copy ?l__law_copy ?c__law_copy ?k__law_copy ?a__law_share ?l__law_share ?c__law_share ?k__law_share ?a__law_step_good ?l__law_step_good ?c__law_step_good ?k__law_step_good ?a_law ?l_law ?c_law ?k_law ?z_abs ?z_bool ?z_int ?z_isinstance ?z_len ?z_list ?z_max ?z_min ?z_range ?z_sorted ?z_str ?z_sum ?z_tuple ?z_zip ?g_NoShare ?x_NoShare ?kk_NoShare ?b_NoShare ?t_NoShare ?gg_NOTHING ?gl_NOTHING K41.law_true
    (case a_divisor => k_is); (case l_divisor => k_is); (case c_divisor => k_is); (case k_divisor => k_is)
    (case a_fraction => k_is); (case l_fraction => k_is); (case c_fraction => k_is); (case k_fraction => k_is)
    (case a_plus => k_is); (case l_plus => k_is); (case c_plus => k_is); (case k_plus => k_is)
    (case a_times => k_is); (case l_times => k_is); (case c_times => k_is); (case k_times => k_is)
    (case a_rank => k_is); (case l_rank => k_is); (case c_rank => k_is); (case k_rank => k_is)
    (case a_in_order => k_is); (case l_in_order => k_is); (case c_in_order => k_is); (case k_in_order => k_is)
    (case a_table => k_is); (case l_table => k_is); (case c_table => k_is); (case k_table => k_is)
    (case a_mixed => k_is); (case l_mixed => k_is); (case c_mixed => k_is); (case k_mixed => k_is)
    (case a_shares_of => k_is); (case l_shares_of => k_is); (case c_shares_of => k_is); (case k_shares_of => k_is)
    (case a_weighed => k_is); (case l_weighed => k_is); (case c_weighed => k_is); (case k_weighed => k_is)
    (case a__law_cell_at => k_is); (case l__law_cell_at => k_is); (case c__law_cell_at => k_is); (case k__law_cell_at => k_is)
    (case a__law_whole => k_is); (case l__law_whole => k_is); (case c__law_whole => k_is); (case k__law_whole => k_is)
    (case a__law_mix => k_is); (case l__law_mix => k_is); (case c__law_mix => k_is); (case k__law_mix => k_is)
    (case a__law_same => k_is); (case l__law_same => k_is); (case c__law_same => k_is); (case k__law_same => k_is)
    (case a__law_divisor => k_is); (case l__law_divisor => k_is); (case c__law_divisor => k_is); (case k__law_divisor => k_is)
    (case a__law_is_share => k_is); (case l__law_is_share => k_is); (case c__law_is_share => k_is); (case k__law_is_share => k_is)
    (case a__law_rank => k_is); (case l__law_rank => k_is); (case c__law_rank => k_is); (case k__law_rank => k_is)
    (case a__law_chain_draws => k_is); (case l__law_chain_draws => k_is); (case c__law_chain_draws => k_is); (case k__law_chain_draws => k_is)
    (case a__law_site => k_is); (case l__law_site => k_is); (case c__law_site => k_is); (case k__law_site => k_is)
    (case a__law_chain => k_is); (case l__law_chain => k_is); (case c__law_chain => k_is); (case k__law_chain => k_is)
    (case a__law_copy => k_is); (case l__law_copy => k_is); (case c__law_copy => k_is); (case k__law_copy => k_is)
    (case a__law_share => k_is); (case l__law_share => k_is); (case c__law_share => k_is); (case k__law_share => k_is)
    (case a__law_step_good => k_is); (case l__law_step_good => k_is); (case c__law_step_good => k_is); (case k__law_step_good => k_is)
    (case a_law => k_is); (case l_law => k_is); (case c_law => k_is); (case k_law => k_is)
    (case z_abs => k_is); (case z_bool => k_is); (case z_int => k_is); (case z_isinstance => k_is)
    (case z_len => k_is); (case z_list => k_is); (case z_max => k_is); (case z_min => k_is)
    (case z_range => k_is); (case z_sorted => k_is); (case z_str => k_is); (case z_sum => k_is)
    (case z_tuple => k_is); (case z_zip => k_is); (case g_NoShare => k_is); (case x_NoShare => k_exc)
    (case kk_NoShare => k_is); (case b_NoShare => k_is); (case t_NoShare => k_is); (case gg_NOTHING => k_is)
    (case gl_NOTHING => k_is)
